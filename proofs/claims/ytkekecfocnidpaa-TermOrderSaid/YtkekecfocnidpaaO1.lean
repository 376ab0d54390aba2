/- The order of rows, of broken seals and of proofs, and a row that is cut in two; plain laws, no program in sight. -/
import Derived.Test.YtkekecfocnidpaaB4
import Derived.Test.YtkekecfocnidpaaB10
import Derived.Test.YtkekecfocnidpaaRows
set_option linter.unusedSimpArgs false
set_option linter.unusedVariables false
set_option linter.unusedSectionVars false
set_option linter.deprecated false
namespace Go.Te
open Go.Mw

abbrev inR (y : Int) (r : Sl) : Bool := inB y r.fr r.to
/-- A stock whose checks all hold, whatever the order. -/
structure Gd (s : Stk) : Prop where
  st : stockB s = true
  dis : s.rs.Pairwise fun o r => overl o r = false
  nd : (s.bs.map (·.no)).Nodup
  brk : ∀ b ∈ s.bs, ∃ r ∈ s.rs, inR b.no r = true ∧ r.day ≤ b.day
  prf : ∀ k p, (ordP s)[k]? = some p → p.seals.Nodup ∧ ∀ y ∈ p.seals, ∃ r ∈ s.rs, inR y r = true ∧ r.cl = p.cl ∧ inForce r (rowT s r ((ordP s).take k)).1 p.day = true ∧ isBrk s y p.day = false
theorem overl_symm {o r : Sl} : overl o r = overl r o := by unfold overl; rw [Bool.and_comm]
theorem rowOf_in {s : Stk} {r : Sl} (h : r ∈ s.rs) : ∃ i, i < s.rs.length ∧ rowOf s i = r := by
  obtain ⟨i, hi⟩ := List.getElem?_of_mem h
  exact ⟨i, (List.getElem?_eq_some_iff.1 hi).1, rowOf_of hi⟩
theorem dis_at {s : Stk} (h : s.rs.Pairwise fun o r => overl o r = false) {i j : Nat} (hij : i < j) (hj : j < s.rs.length) : overl (rowOf s i) (rowOf s j) = false := by
  rw [List.pairwise_iff_getElem] at h
  have := h i j (by omega) hj hij
  rwa [← rowOf_of (s := s) (List.getElem?_eq_getElem (by omega : i < s.rs.length)), ← rowOf_of (s := s) (List.getElem?_eq_getElem hj)] at this
theorem find_row {s : Stk} (h : s.rs.Pairwise fun o r => overl o r = false) {r : Sl} (hr : r ∈ s.rs) {y : Int} (hy : inR y r = true) : ∃ i, rowI s y = some i ∧ i < s.rs.length ∧ rowOf s i = r := by
  obtain ⟨i, hi, rfl⟩ := rowOf_in hr
  refine ⟨i, rowI_some hi (inB_iff.1 hy) fun j hj h2 => ?_, hi, rfl⟩
  have := dis_at h hj hi
  have h3 := inB_iff.1 hy
  unfold overl at this
  simp only [Bool.and_eq_false_iff, decide_eq_false_iff_not] at this
  omega
theorem prf_zero {s : Stk} {l : List (Int × Int)} {p : Pf} : prfErr s l p = 0 ↔ ∀ j, j < p.seals.length → sealErr s l p j = 0 := by
  unfold prfErr
  cases hf : firstE (sealErr s l p) p.seals.length with
  | none => exact ⟨fun _ => firstE_none.1 hf, fun _ => rfl⟩
  | some k =>
    obtain ⟨h1, h2, _⟩ := firstE_get hf
    exact ⟨fun h => absurd h h2, fun h => absurd (h k h1) h2⟩
theorem seal_zero {s : Stk} {l : List (Int × Int)} {p : Pf} {j : Nat} : sealErr s l p j = 0 ↔ ∃ i, rowI s (p.seals.getD j 0) = some i ∧ (rowOf s i).cl = p.cl ∧ (p.seals.take j).contains (p.seals.getD j 0) = false ∧ inForce (rowOf s i) (endAt l i).1 p.day = true ∧ isBrk s (p.seals.getD j 0) p.day = false := by
  unfold sealErr
  cases hr : rowI s (p.seals.getD j 0) with
  | none => simp
  | some i =>
    simp only [Option.some.injEq, exists_eq_left']
    by_cases h1 : (rowOf s i).cl = p.cl
    · rw [if_neg (by simp [h1])]
      cases h2 : (p.seals.take j).contains (p.seals.getD j 0) with
      | true => simp
      | false =>
        cases h3 : inForce (rowOf s i) (endAt l i).1 p.day <;> cases h4 : isBrk s (p.seals.getD j 0) p.day <;> simp [h1]
    · rw [if_pos h1]; simp [h1]
theorem nodup_take {l : List Int} : l.Nodup ↔ ∀ j, j < l.length → (l.take j).contains (l.getD j 0) = false := by
  unfold List.Nodup
  rw [List.pairwise_iff_getElem]
  constructor
  · intro h j hj
    rw [← Bool.not_eq_true, List.contains_iff_mem]
    intro hm
    obtain ⟨i, hi⟩ := List.getElem?_of_mem hm
    rw [List.getElem?_take] at hi
    split at hi
    · rename_i hij
      rw [getD_of (List.getElem?_eq_getElem hj), List.getElem?_eq_getElem (by omega)] at hi
      exact h i j (by omega) hj hij (Option.some.inj hi)
    · cases hi
  · intro h i j hi hj hij e
    have := h j hj
    rw [← Bool.not_eq_true, List.contains_iff_mem] at this
    refine this (List.mem_of_getElem? (i := i) ?_)
    rw [List.getElem?_take, if_pos hij, getD_of (List.getElem?_eq_getElem hj), List.getElem?_eq_getElem hi, e]
theorem gd_of {s : Stk} (h : (termsR s).2.2 = 0) : Gd s := by
  have g := good_of h
  obtain ⟨h1, _, _, _, h5⟩ := terms_zero h
  have h5 := firstE_none.1 h5
  refine ⟨h1, ?_, g.nd, fun b hb => ?_, fun k p hk => ?_⟩
  · rw [List.pairwise_iff_getElem]
    intro i j hi hj hij
    have := g.one i j hij hj
    rwa [rowOf_of (List.getElem?_eq_getElem hi), rowOf_of (List.getElem?_eq_getElem hj)] at this
  · obtain ⟨j, hj, hd⟩ := g.brk b hb
    obtain ⟨hjl, h2⟩ := rowI_lt hj
    exact ⟨_, rowOf_mem hjl, inB_iff.2 h2, hd⟩
  · have hkl : k < s.ps.length := by have := (List.getElem?_eq_some_iff.1 hk).1; rwa [ordP_len] at this
    have hp := ordP_get hkl
    rw [hk] at hp
    have hp := Option.some.inj hp
    have h6 := h5 k hkl
    unfold prErr at h6
    rw [← hp, prf_zero] at h6
    refine ⟨nodup_take.2 fun j hj => ?_, fun y hy => ?_⟩
    · obtain ⟨_, _, _, h7, _⟩ := seal_zero.1 (h6 j hj)
      exact h7
    · obtain ⟨j, hj⟩ := List.getElem?_of_mem hy
      obtain ⟨i, g1, g2, _, g4, g5⟩ := seal_zero.1 (h6 j (List.getElem?_eq_some_iff.1 hj).1)
      rw [getD_of hj] at g1 g5
      obtain ⟨hil, hin⟩ := rowI_lt g1
      rw [(stAt_row s k (by omega) i hil).2] at g4
      exact ⟨_, rowOf_mem hil, inB_iff.2 hin, g2, g4, g5⟩
theorem gd_to {s : Stk} (h : Gd s) : (termsR s).2.2 = 0 := by
  refine terms_mk h.st (fun j hj => rowErr_zero.2 fun o ho => ?_) (fun i hi => ?_) fun k hk => ?_
  · obtain ⟨i, hij, rfl⟩ := (mem_take_iff (by omega)).1 ho
    exact dis_at h.dis hij hj
  · unfold brErr
    obtain ⟨r, hr, h1, h2⟩ := h.brk _ (brOf_mem hi)
    obtain ⟨j, hj, _, rfl⟩ := find_row h.dis hr h1
    rw [hj]
    simp only
    rw [if_neg, if_neg (by omega)]
    intro ha
    obtain ⟨b, hb, hbn⟩ := List.any_eq_true.1 ha
    obtain ⟨m, hm⟩ := List.getElem?_of_mem hb
    rw [List.getElem?_take] at hm
    split at hm
    · rename_i hmi
      have hnd := h.nd
      unfold List.Nodup at hnd
      rw [List.pairwise_iff_getElem] at hnd
      have := hnd m i (by simp; omega) (by simpa using hi) hmi
      simp only [List.getElem_map] at this
      rw [List.getElem?_eq_getElem (by omega)] at hm
      rw [Option.some.inj hm] at this
      have e : s.bs[i] = brOf s i := (brOf_of (List.getElem?_eq_getElem hi)).symm
      rw [e] at this
      exact this (by simpa using hbn)
    · cases hm
  · unfold prErr
    have hp := ordP_get hk
    generalize prOf s ((ordI s).getD k 0) = p at hp ⊢
    obtain ⟨h1, h2⟩ := h.prf k p hp
    rw [prf_zero]
    intro j hj
    have hy : p.seals[j]? = some (p.seals.getD j 0) := by rw [List.getElem?_eq_getElem hj, getD_of (List.getElem?_eq_getElem hj)]
    obtain ⟨r, hr, g1, g2, g3, g4⟩ := h2 _ (List.mem_of_getElem? hy)
    obtain ⟨i, hi, hil, rfl⟩ := find_row h.dis hr g1
    rw [seal_zero]
    refine ⟨i, hi, g2, nodup_take.1 h1 j hj, ?_, g4⟩
    rw [(stAt_row s k (by omega) i hil).2]
    exact g3

/-! ### Sums over rows -/
def szS (r : Sl) : Int := r.to - r.fr + 1
theorem sumR_map (s : Stk) (F : Sl → Int) : ∀ n, n ≤ s.rs.length → sumR n (fun i => F (rowOf s i)) = ((s.rs.take n).map F).sum
  | 0, _ => rfl
  | n + 1, h => by
    rw [sumR, sumR_map s F n (by omega), take_snoc' (rowOf_get (by omega)), List.map_append, List.sum_append]
    simp
def Fst (s : Stk) (d j : Int) (r : Sl) : Int := if stOf r (rowT s r (ordP s)).1 d = j then szS r - brkOf s r d else 0
def Fdu (s : Stk) (lo hi : Int) (c : Nat) (r : Sl) : Int := if r.cl.toNat = c then (if inB (rowT s r (ordP s)).1 lo hi = true then szS r - brkOf s r (rowT s r (ordP s)).1 else 0) else 0
def totS (F : Sl → Int) (l : List Sl) : Int := (l.map F).sum
theorem sum_tot (s : Stk) (F : Sl → Int) {f : Nat → Int} (h : ∀ i, i < s.rs.length → f i = F (rowOf s i)) : sumR s.rs.length f = totS F s.rs := by
  rw [sumR_congr h, sumR_map s F _ (Nat.le_refl _), List.take_length]; rfl
theorem count_tot {s : Stk} (h : (termsR s).2.2 = 0) (d : Int) : countR s d = if inB d 0 131072 = false then ([], 2) else ([totS (Fst s d 0) s.rs, totS (Fst s d 1) s.rs, totS (Fst s d 2) s.rs, totS (fun r => brkOf s r d) s.rs], 0) := by
  unfold countR
  rw [if_pos h]
  split
  · rfl
  · rw [cnt_sum]
    have e : ∀ j, sumR s.rs.length (stR s (termsR s).1 d j) = totS (Fst s d j) s.rs := fun j => sum_tot s _ fun i hi => by
      unfold stR Fst
      rw [terms_row h hi]
      rfl
    rw [e 0, e 1, e 2, sum_tot s (fun r => brkOf s r d) (f := bkR s d) fun i _ => rfl]
theorem due_map {s : Stk} (v : Val s) (l : List (Int × Int)) (lo hi : Int) : ∀ n, n ≤ s.rs.length → dueTo s l lo hi n = (List.range s.cs.length).map (fun c => sumR n (fun i => if (rowOf s i).cl.toNat = c then duR s l lo hi i else 0))
  | 0, _ => by
    apply List.ext_getElem?
    intro i
    simp only [dueTo, sumR, List.getElem?_replicate, List.getElem?_map]
    by_cases hi : i < s.cs.length
    · rw [List.getElem?_range hi, if_pos hi]; rfl
    · rw [List.getElem?_eq_none (by simpa using hi), if_neg hi]; rfl
  | n + 1, h => by
    have hr := v.row _ (rowOf_mem (s := s) (i := n) (by omega))
    rw [dueTo, due_map v l lo hi n (by omega)]
    split
    · rename_i hin
      have hd : duR s l lo hi n = (rowOf s n).to - (rowOf s n).fr + 1 - brkOf s (rowOf s n) (endAt l n).1 := if_pos hin
      have hc : (rowOf s n).cl.toNat < s.cs.length := by omega
      rw [addAt_of (x := sumR n (fun i => if (rowOf s i).cl.toNat = (rowOf s n).cl.toNat then duR s l lo hi i else 0)) (by rw [List.getElem?_map, List.getElem?_range hc]; rfl), ← hd]
      apply List.ext_getElem?
      intro i
      rw [List.getElem?_set]
      by_cases hi : i < s.cs.length
      · rw [List.getElem?_map, List.getElem?_map, List.getElem?_range hi]
        simp only [Option.map_some, List.length_map, List.length_range, sumR]
        by_cases e : (rowOf s n).cl.toNat = i
        · subst e
          rw [if_pos rfl, if_pos hc, if_pos rfl]
        · rw [if_neg e, if_neg e, Int.add_zero]
      · rw [List.getElem?_eq_none (by simpa using hi), if_neg (by omega), List.getElem?_eq_none (by simpa using hi)]
    · rename_i hin
      have hd : duR s l lo hi n = 0 := if_neg hin
      apply List.map_congr_left
      intro c _
      rw [sumR, hd]
      split <;> omega
theorem due_tot {s : Stk} (h : (termsR s).2.2 = 0) (lo hi : Int) : dueR s lo hi = if dueErr lo hi = true then ([], 2) else ((List.range s.cs.length).map (fun c => totS (Fdu s lo hi c) s.rs), 0) := by
  unfold dueR
  rw [if_pos h]
  split
  · rfl
  · rw [due_map (good_of h).v _ _ _ _ (Nat.le_refl _)]
    congr 1
    apply List.map_congr_left
    intro c _
    refine sum_tot s _ fun i hi => ?_
    unfold duR Fdu
    rw [terms_row h hi]
    rfl
theorem endR_in {s : Stk} (g : Gd s) {r : Sl} (hr : r ∈ s.rs) {y : Int} (hy : inR y r = true) : endR s y = ((rowT s r (ordP s)).1, (rowT s r (ordP s)).2, 0) := by
  obtain ⟨i, hi, hil, rfl⟩ := find_row g.dis hr hy
  rw [endR_at (gd_to g) hi, terms_row (gd_to g) hil]
theorem endR_out {s : Stk} (g : Gd s) {y : Int} (h : ∀ r ∈ s.rs, inR y r = false) : endR s y = (0, 0, 4) := by
  unfold endR
  rw [if_pos (gd_to g)]
  cases hr : rowI s y with
  | none => rfl
  | some i =>
    obtain ⟨hil, hin⟩ := rowI_lt hr
    have h8 := h _ (rowOf_mem hil)
    have h9 : inR y (rowOf s i) = true := inB_iff.2 hin
    rw [h9] at h8; cases h8
theorem totS_perm {F : Sl → Int} {l m : List Sl} (h : l.Perm m) : totS F l = totS F m := by
  unfold totS
  induction h with
  | nil => rfl
  | cons x _ ih => simp only [List.map_cons, List.sum_cons, ih]
  | swap x y l => simp only [List.map_cons, List.sum_cons]; omega
  | trans _ _ h1 h2 => exact h1.trans h2

/-! ### What depends on the classes alone -/
theorem clsOf_eq {s x : Stk} (h : x.cs = s.cs) (n : Int) : clsOf x n = clsOf s n := by unfold clsOf; rw [h]
theorem passB_eq {s x : Stk} (h : x.cs = s.cs) (p : Pf) : passB x p = passB s p := by unfold passB; rw [clsOf_eq h]
theorem step1_eq {s x : Stk} (h : x.cs = s.cs) {r r' : Sl} (h1 : r'.cl = r.cl) (h2 : r'.day = r.day) (p : Pf) (t : Int × Int) : step1 x p r' t = step1 s p r t := by
  unfold step1 inForce
  rw [h1, h2, passB_eq h, clsOf_eq h]
theorem rowT_eq {s x : Stk} (h : x.cs = s.cs) {r r' : Sl} (h1 : r'.cl = r.cl) (h2 : r'.day = r.day) (P : List Pf) : rowT x r' P = rowT s r P := by
  unfold rowT
  rw [h1, h2, clsOf_eq h]
  congr 1
  funext t p
  exact step1_eq h h1 h2 p t
theorem isBrk_perm {s x : Stk} (hn : (s.bs.map (·.no)).Nodup) (hb : x.bs.Perm s.bs) (y d : Int) : isBrk x y d = isBrk s y d := by
  have hn2 : (x.bs.map (·.no)).Nodup := ((hb.map _).nodup_iff).2 hn
  rw [isBrk_L, isBrk_L, isBrkL_any hn, isBrkL_any hn2, Bool.eq_iff_iff, List.any_eq_true, List.any_eq_true]
  exact ⟨fun ⟨b, h1, h2⟩ => ⟨b, hb.mem_iff.1 h1, h2⟩, fun ⟨b, h1, h2⟩ => ⟨b, hb.mem_iff.2 h1, h2⟩⟩
theorem brkOf_perm {s x : Stk} (hb : x.bs.Perm s.bs) (r : Sl) (d : Int) : brkOf x r d = brkOf s r d := by unfold brkOf; rw [hb.countP_eq]

/-- The same rows, broken seals and proofs, in another order. -/
structure Oth (s x : Stk) : Prop where
  cs : x.cs = s.cs
  rs : x.rs.Perm s.rs
  bs : x.bs.Perm s.bs
  ps : x.ps.Perm s.ps
  po : ordP x = ordP s
theorem all_perm {α : Type} {q : α → Bool} {l m : List α} (h : l.Perm m) (hm : m.all q = true) : l.all q = true := by
  rw [List.all_eq_true] at hm ⊢
  exact fun a ha => hm a (h.mem_iff.1 ha)
theorem oth_stock {s x : Stk} (o : Oth s x) (h : stockB s = true) : stockB x = true := by
  unfold stockB sizesB at h ⊢
  simp only [Bool.and_eq_true, decide_eq_true_eq] at h ⊢
  obtain ⟨⟨⟨⟨h0, h1⟩, h2⟩, h3⟩, h4⟩ := h
  rw [o.cs, o.rs.length_eq, o.ps.length_eq, o.bs.length_eq]
  exact ⟨⟨⟨⟨h0, h1⟩, all_perm o.rs h2⟩, all_perm o.ps h3⟩, all_perm o.bs h4⟩
theorem oth_gd {s x : Stk} (o : Oth s x) (g : Gd s) : Gd x := by
  refine ⟨oth_stock o g.st, ?_, ((o.bs.map _).nodup_iff).2 g.nd, fun b hb => ?_, fun k p hk => ?_⟩
  · exact (o.rs.pairwise_iff (fun {a b} h => by rw [overl_symm]; exact h)).2 g.dis
  · obtain ⟨r, hr, h⟩ := g.brk b (o.bs.mem_iff.1 hb)
    exact ⟨r, o.rs.mem_iff.2 hr, h⟩
  · rw [o.po] at hk ⊢
    obtain ⟨h1, h2⟩ := g.prf k p hk
    refine ⟨h1, fun y hy => ?_⟩
    obtain ⟨r, hr, g1, g2, g3, g4⟩ := h2 y hy
    exact ⟨r, o.rs.mem_iff.2 hr, g1, g2, by rw [rowT_eq o.cs rfl rfl]; exact g3, by rw [isBrk_perm g.nd o.bs]; exact g4⟩
theorem totS_congr {F G : Sl → Int} {l : List Sl} (h : ∀ r ∈ l, F r = G r) : totS F l = totS G l := by
  unfold totS; rw [List.map_congr_left h]
theorem oth_tot {s x : Stk} (o : Oth s x) (F G : Sl → Int) (h : ∀ r, F r = G r) : totS F x.rs = totS G s.rs := by
  rw [totS_perm o.rs, totS_congr fun r _ => h r]
theorem oth_same {s x : Stk} (o : Oth s x) (g : Gd s) (y d lo hi : Int) : endR x y = endR s y ∧ countR x d = countR s d ∧ dueR x lo hi = dueR s lo hi := by
  have gx := oth_gd o g
  have hT : ∀ r P, rowT x r P = rowT s r P := fun r P => rowT_eq o.cs rfl rfl P
  refine ⟨?_, ?_, ?_⟩
  · by_cases h : ∃ r ∈ s.rs, inR y r = true
    · obtain ⟨r, hr, hy⟩ := h
      rw [endR_in g hr hy, endR_in gx (o.rs.mem_iff.2 hr) hy, o.po, hT]
    · have h1 : ∀ r ∈ s.rs, inR y r = false := fun r hr => by
        rw [← Bool.not_eq_true]; exact fun hy => h ⟨r, hr, hy⟩
      rw [endR_out g h1, endR_out gx fun r hr => h1 r (o.rs.mem_iff.1 hr)]
  · have e : ∀ j, totS (Fst x d j) x.rs = totS (Fst s d j) s.rs := fun j => oth_tot o _ _ fun r => by unfold Fst; rw [o.po, hT, brkOf_perm o.bs]
    rw [count_tot (gd_to g), count_tot (gd_to gx), e, e, e, oth_tot o (fun r => brkOf x r d) (fun r => brkOf s r d) fun r => brkOf_perm o.bs r d]
  · rw [due_tot (gd_to g), due_tot (gd_to gx), o.cs]
    split
    · rfl
    · congr 1
      apply List.map_congr_left
      intro c _
      exact oth_tot o _ _ fun r => by unfold Fdu; rw [o.po, hT, brkOf_perm o.bs]

/-! ### A row that is cut in two -/
def cutL (r : Sl) (m : Int) : Sl := { r with to := m }
def cutR (r : Sl) (m : Int) : Sl := { r with fr := m + 1 }
def cutS (s : Stk) (r : Sl) (R : List Sl) (m : Int) : Stk := { s with rs := cutL r m :: R ++ [cutR r m] }
section cut
variable {s : Stk} {r : Sl} {R : List Sl} {m : Int}
theorem cut_mem {q : Sl} : q ∈ (cutS s r R m).rs ↔ q = cutL r m ∨ q ∈ R ∨ q = cutR r m := by
  show q ∈ cutL r m :: R ++ [cutR r m] ↔ _
  simp
theorem cut_in (hm : r.fr ≤ m ∧ m < r.to) (y : Int) : inR y r = (inR y (cutL r m) || inR y (cutR r m)) := by
  rw [Bool.eq_iff_iff, Bool.or_eq_true]
  simp only [inB_iff, cutL, cutR]
  omega
theorem cut_ord : ordP (cutS s r R m) = ordP s := by rw [ordP_eq, ordP_eq]; rfl
theorem cut_gd (hs : s.rs = r :: R) (hm : r.fr ≤ m ∧ m < r.to) (hl : s.rs.length < 24) (g : Gd s) : Gd (cutS s r R m) := by
  have hrm : r ∈ s.rs := by rw [hs]; exact List.mem_cons_self
  have hget : ∀ q ∈ s.rs, ∀ y, inR y q = true → ∃ q' ∈ (cutS s r R m).rs, inR y q' = true ∧ q'.cl = q.cl ∧ q'.day = q.day := fun q hq y hy => by
    rw [hs] at hq
    rcases List.mem_cons.1 hq with rfl | hq
    · rw [cut_in hm, Bool.or_eq_true] at hy
      rcases hy with h | h
      · exact ⟨_, cut_mem.2 (.inl rfl), h, rfl, rfl⟩
      · exact ⟨_, cut_mem.2 (.inr (.inr rfl)), h, rfl, rfl⟩
    · exact ⟨q, cut_mem.2 (.inr (.inl hq)), hy, rfl, rfl⟩
  refine ⟨?_, ?_, g.nd, fun b hb => ?_, fun k p hk => ?_⟩
  · have h := g.st
    unfold stockB sizesB at h ⊢
    simp only [Bool.and_eq_true, decide_eq_true_eq] at h ⊢
    obtain ⟨⟨⟨⟨h0, h1⟩, h2⟩, h3⟩, h4⟩ := h
    refine ⟨⟨⟨⟨⟨⟨⟨h0.1.1.1, ?_⟩, h0.1.2⟩, h0.2⟩, h1⟩, ?_⟩, h3⟩, h4⟩
    · show (cutL r m :: R ++ [cutR r m]).length ≤ 24
      rw [hs] at hl
      simp at hl ⊢; omega
    · rw [List.all_eq_true] at h2 ⊢
      intro q hq
      have hr2 := h2 r hrm
      unfold slOK at hr2
      simp only [Bool.and_eq_true, inB_iff] at hr2
      rcases cut_mem.1 hq with rfl | hq | rfl
      · unfold slOK cutL
        simp only [Bool.and_eq_true, inB_iff]
        show _ ∧ _
        simp only [cutS]
        omega
      · exact h2 q (by rw [hs]; exact List.mem_cons_of_mem _ hq)
      · unfold slOK cutR
        simp only [Bool.and_eq_true, inB_iff]
        show _ ∧ _
        simp only [cutS]
        omega
  · have hd := g.dis
    rw [hs, List.pairwise_cons] at hd
    have ov : ∀ q ∈ R, overl (cutL r m) q = false ∧ overl q (cutR r m) = false := fun q hq => by
      have := hd.1 q hq
      unfold overl cutL cutR at *
      simp only [Bool.and_eq_false_iff, decide_eq_false_iff_not] at *
      omega
    show (cutL r m :: R ++ [cutR r m]).Pairwise _
    rw [List.pairwise_append]
    refine ⟨List.pairwise_cons.2 ⟨fun q hq => (ov q hq).1, hd.2⟩, List.pairwise_singleton _ _, fun a ha b hb => ?_⟩
    rw [List.mem_singleton.1 hb]
    rcases List.mem_cons.1 ha with rfl | ha
    · unfold overl cutL cutR
      simp only [Bool.and_eq_false_iff, decide_eq_false_iff_not]
      omega
    · exact (ov a ha).2
  · obtain ⟨q, hq, h1, h2⟩ := g.brk b hb
    obtain ⟨q', hq', g1, _, g3⟩ := hget q hq _ h1
    exact ⟨q', hq', g1, by rw [g3]; exact h2⟩
  · rw [cut_ord] at hk ⊢
    obtain ⟨h1, h2⟩ := g.prf k p hk
    refine ⟨h1, fun y hy => ?_⟩
    obtain ⟨q, hq, g1, g2, g3, g4⟩ := h2 y hy
    obtain ⟨q', hq', k1, k2, k3⟩ := hget q hq _ g1
    refine ⟨q', hq', k1, k2.trans g2, ?_, g4⟩
    rw [rowT_eq (s := s) (x := cutS s r R m) rfl k2 k3]
    unfold inForce at g3 ⊢
    rw [k3]; exact g3
theorem cut_brk (hm : r.fr ≤ m ∧ m < r.to) (d : Int) : brkOf s r d = brkOf (cutS s r R m) (cutL r m) d + brkOf (cutS s r R m) (cutR r m) d := by
  unfold brkOf
  rw [← Int.natCast_add]
  congr 1
  refine countP_or (fun b _ => ?_) fun b _ h => ?_
  · rw [← Bool.and_or_distrib_right]
    congr 1
    exact cut_in hm b.no
  · simp only [Bool.and_eq_true, inB_iff, cutL, cutR] at h
    omega
theorem cut_tot (hs : s.rs = r :: R) (F G : Sl → Int) (h1 : ∀ q, F q = G q) (h2 : G r = F (cutL r m) + F (cutR r m)) : totS F (cutS s r R m).rs = totS G s.rs := by
  rw [hs]
  show totS F (cutL r m :: R ++ [cutR r m]) = _
  unfold totS
  have e : R.map F = R.map G := List.map_congr_left fun q _ => h1 q
  simp only [List.map_append, List.map_cons, List.map_nil, List.sum_append, List.sum_cons, List.sum_nil, e]
  omega
theorem cut_same (hs : s.rs = r :: R) (hm : r.fr ≤ m ∧ m < r.to) (hl : s.rs.length < 24) (g : Gd s) (y d lo hi : Int) : endR (cutS s r R m) y = endR s y ∧ countR (cutS s r R m) d = countR s d ∧ dueR (cutS s r R m) lo hi = dueR s lo hi := by
  have gx := cut_gd hs hm hl g
  have hT : ∀ q P, rowT (cutS s r R m) q P = rowT s q P := fun q P => rowT_eq rfl rfl rfl P
  have hTL : ∀ P, rowT (cutS s r R m) (cutL r m) P = rowT s r P := fun P => rowT_eq rfl rfl rfl P
  have hTR : ∀ P, rowT (cutS s r R m) (cutR r m) P = rowT s r P := fun P => rowT_eq rfl rfl rfl P
  have hB : ∀ q d, brkOf (cutS s r R m) q d = brkOf s q d := fun q d => rfl
  have hsz : szS r = szS (cutL r m) + szS (cutR r m) := by unfold szS cutL cutR; simp only; omega
  refine ⟨?_, ?_, ?_⟩
  · by_cases h : ∃ q ∈ s.rs, inR y q = true
    · obtain ⟨q, hq, hy⟩ := h
      rw [endR_in g hq hy]
      rw [hs] at hq
      rcases List.mem_cons.1 hq with rfl | hq
      · rw [cut_in hm, Bool.or_eq_true] at hy
        rcases hy with hy | hy
        · rw [endR_in gx (cut_mem.2 (.inl rfl)) hy, cut_ord, hTL]
        · rw [endR_in gx (cut_mem.2 (.inr (.inr rfl))) hy, cut_ord, hTR]
      · rw [endR_in gx (cut_mem.2 (.inr (.inl hq))) hy, cut_ord, hT]
    · have h1 : ∀ q ∈ s.rs, inR y q = false := fun q hq => by
        rw [← Bool.not_eq_true]; exact fun hy => h ⟨q, hq, hy⟩
      have hr0 := h1 r (by rw [hs]; exact List.mem_cons_self)
      rw [cut_in hm, Bool.or_eq_false_iff] at hr0
      rw [endR_out g h1, endR_out gx fun q hq => ?_]
      rcases cut_mem.1 hq with rfl | hq | rfl
      · exact hr0.1
      · exact h1 q (by rw [hs]; exact List.mem_cons_of_mem _ hq)
      · exact hr0.2
  · have e : ∀ j, totS (Fst (cutS s r R m) d j) (cutS s r R m).rs = totS (Fst s d j) s.rs := fun j => cut_tot hs _ _ (fun q => by unfold Fst; rw [cut_ord, hT, hB]) (by
      unfold Fst
      rw [cut_ord, hTL, hTR, cut_brk (s := s) (R := R) hm d, hsz]
      have o1 : ∀ e, stOf (cutL r m) e d = stOf r e d := fun e => rfl
      have o2 : ∀ e, stOf (cutR r m) e d = stOf r e d := fun e => rfl
      rw [o1, o2]
      split <;> omega)
    rw [count_tot (gd_to g), count_tot (gd_to gx), e, e, e, cut_tot hs (fun q => brkOf (cutS s r R m) q d) (fun q => brkOf s q d) (fun q => rfl) (cut_brk hm d)]
  · rw [due_tot (gd_to g), due_tot (gd_to gx)]
    split
    · rfl
    · congr 1
      apply List.map_congr_left
      intro c _
      refine cut_tot hs _ _ (fun q => by unfold Fdu; rw [cut_ord, hT, hB]) ?_
      unfold Fdu
      rw [cut_ord, hTL, hTR, cut_brk (s := s) (R := R) hm, hsz]
      have o1 : (cutL r m).cl = r.cl := rfl
      have o2 : (cutR r m).cl = r.cl := rfl
      rw [o1, o2]
      split
      · split <;> omega
      · omega
end cut

/-! ### Turning a list -/
def rot {α : Type} (l : List α) (t : Nat) : List α := l.drop (t % l.length) ++ l.take (t % l.length)
theorem rot_perm {α : Type} (l : List α) (t : Nat) : (rot l t).Perm l := by
  unfold rot
  refine List.perm_append_comm.trans ?_
  rw [List.take_append_drop]
theorem rot_get {α : Type} {l : List α} {t i : Nat} (hi : i < l.length) : (rot l t)[i]? = l[(i + t) % l.length]? := by
  have hm : t % l.length < l.length := Nat.mod_lt _ (by omega)
  unfold rot
  rw [← Nat.add_mod_mod]
  generalize t % l.length = m at hm
  by_cases h : i < l.length - m
  · rw [List.getElem?_append_left (by rw [List.length_drop]; exact h), List.getElem?_drop, Nat.mod_eq_of_lt (by omega), Nat.add_comm]
  · rw [List.getElem?_append_right (by rw [List.length_drop]; omega), List.length_drop, List.getElem?_take, if_pos (by omega)]
    congr 1
    rw [Nat.mod_eq_sub_mod (by omega), Nat.mod_eq_of_lt (by omega)]
    omega
theorem rot_len {α : Type} (l : List α) (t : Nat) : (rot l t).length = l.length := (rot_perm l t).length_eq
/-- Proofs of different days come in one order alone. -/
theorem sort_uniq {l m : List Pf} (hp : l.Perm m) (hd : ∀ p ∈ l, ∀ q ∈ l, p.day = q.day → p = q) : isortE dayLt l = isortE dayLt m := by
  have h1 := ino_sort dayLt_weak l
  have h2 := ino_sort dayLt_weak m
  have h3 : (isortE dayLt l).Perm (isortE dayLt m) := (isortE_perm _ l).trans (hp.trans (isortE_perm _ m).symm)
  have hd' : ∀ p ∈ isortE dayLt l, ∀ q ∈ isortE dayLt l, p.day = q.day → p = q := fun p hp q hq => hd p ((isortE_perm _ l).mem_iff.1 hp) q ((isortE_perm _ l).mem_iff.1 hq)
  unfold InO at h1 h2
  generalize isortE dayLt l = a at *
  generalize isortE dayLt m = b at *
  clear hp hd
  induction a generalizing b with
  | nil => exact (List.Perm.nil_eq h3)
  | cons p a ih =>
    cases b with
    | nil => exact absurd h3.symm.nil_eq (by simp)
    | cons q b =>
      rw [List.pairwise_cons] at h1 h2
      have hle : ∀ {u v : Pf}, dayLt v u = false → u.day ≤ v.day := fun {u v} h => by unfold dayLt at h; have := of_decide_eq_false h; omega
      have hpq : p = q := by
        refine hd' p List.mem_cons_self q (h3.mem_iff.2 List.mem_cons_self) ?_
        have g1 : p.day ≤ q.day := by
          rcases List.mem_cons.1 (h3.mem_iff.2 (List.mem_cons_self (a := q) (l := b))) with h | h
          · rw [h]; exact Int.le_refl _
          · exact hle (h1.1 q h)
        have g2 : q.day ≤ p.day := by
          rcases List.mem_cons.1 (h3.mem_iff.1 (List.mem_cons_self (a := p) (l := a))) with h | h
          · rw [h]; exact Int.le_refl _
          · exact hle (h2.1 p h)
        omega
      subst hpq
      congr 1
      apply ih <;> first | exact h1.2 | exact h2.2 | exact h3.cons_inv | exact fun u hu v hv => hd' u (List.mem_cons_of_mem _ hu) v (List.mem_cons_of_mem _ hv)
end Go.Te
namespace Go.Mw
open Go.Proofs
open Go.Te
attribute [local go_sem] decide_true beq_self_eq_true bne_self_eq_false
theorem tmod_nat (k t n : Nat) : ((k : Int) + (t : Int)).tmod (n : Int) = (((k + t) % n : Nat) : Int) := by
  rw [Int.tmod_eq_emod_of_nonneg (by omega)]
  simp
theorem nat_toNat (n : Nat) : ((n : Nat) : Int).toNat = n := rfl
def exD (s : Stk) (i k : Nat) : Bool := (List.range k).any fun b => (prOf s i).day == (prOf s b).day
def anD (s : Stk) (i : Nat) : Bool := (List.range i).any fun a => exD s a a
theorem exD_succ (s : Stk) (i k : Nat) : exD s i (k + 1) = (exD s i k || ((prOf s i).day == (prOf s k).day)) := by
  unfold exD; rw [List.range_succ, List.any_append, List.any_cons, List.any_nil, Bool.or_false]
theorem anD_succ (s : Stk) (i : Nat) : anD s (i + 1) = (anD s i || exD s i i) := by
  unfold anD; rw [List.range_succ, List.any_append, List.any_cons, List.any_nil, Bool.or_false]
theorem anD_days {s : Stk} (h : anD s s.ps.length = false) : ∀ p ∈ s.ps, ∀ q ∈ s.ps, p.day = q.day → p = q := by
  have key : ∀ i j, i < j → j < s.ps.length → (prOf s i).day ≠ (prOf s j).day := fun i j hij hj e => by
    unfold anD at h
    rw [List.any_eq_false] at h
    refine h j (by rw [List.mem_range]; exact hj) (List.any_eq_true.2 ⟨i, by rw [List.mem_range]; exact hij, ?_⟩)
    rw [e]; exact beq_self_eq_true _
  intro p hp q hq e
  obtain ⟨i, hi⟩ := List.getElem?_of_mem hp
  obtain ⟨j, hj⟩ := List.getElem?_of_mem hq
  have hil := (List.getElem?_eq_some_iff.1 hi).1
  have hjl := (List.getElem?_eq_some_iff.1 hj).1
  rw [← prOf_of hi, ← prOf_of hj] at e
  rcases Nat.lt_trichotomy i j with h1 | h1 | h1
  · exact absurd e (key i j h1 hjl)
  · subst h1; rw [hi] at hj; exact Option.some.inj hj
  · exact absurd e.symm (key j i h1 hil)
theorem ord_calls {s x : Stk} (hx : Small x) {y d lo hi : Int} (h : endR x y = endR s y ∧ countR x d = countR s d ∧ dueR x lo hi = dueR s lo hi) :
    Contract Try.prog 17 [stkV x, .int y] (endV s y) [] ∧ Contract Try.prog 10 [stkV x, .int d] (cntV (countR s d)) [] ∧ Contract Try.prog 12 [stkV x, spanV lo hi] (cntV (dueR s lo hi)) [] := by
  have h1 := c_term_End x hx y
  have h2 := c_cnt x hx d
  have h3 := c_du x hx lo hi
  unfold endV at h1
  rw [h.1] at h1
  rw [h.2.1] at h2
  rw [h.2.2] at h3
  exact ⟨h1, h2, h3⟩
theorem oth_of {s : Stk} {xp : List Pf} (t : Nat) (h1 : xp.Perm s.ps) (h2 : isortE dayLt xp = isortE dayLt s.ps) : Oth s ⟨s.cs, rot s.rs t, xp, rot s.bs t⟩ :=
  ⟨rfl, rot_perm _ _, rot_perm _ _, h1, by rw [ordP_eq, ordP_eq]; exact h2⟩
theorem val_small {s : Stk} (v : Val s) : Small s := by
  have h1 := v.ncs
  have h2 := v.nrs
  have h3 := v.nps
  have h4 := v.nbs
  exact ⟨by omega, by omega, by omega, by omega, fun p hp => by have := (v.prf p hp).2.2.1; omega⟩
set_option maxRecDepth 60000 in
set_option maxHeartbeats 64000000 in
/-- meterworks/meterworkslaw07.TermOrder -/
theorem c_law_TermOrder (s : Stk) (y d lo hi : Int) (t : Nat) (ht : t ≤ 255) : Contract Try.prog 6 [stkV s, .int y, .int d, spanV lo hi, .raw (.int .u8 (t : Int))] (.bool true) [] := by
  refine con_of follows_mixed Try.func6 rfl (by simp only [List.length_cons, List.length_nil, Try.ntmps6]; omega) (by kernel_rfl) rfl ?_
  refine Exec.reg ?_
  iterate 3 (refine Run.o ?_)
  refine Run.nil ?_
  refine Exec.assocS ?_
  refine Exec.reg ?_
  refine Run.o ?_
  refine Run.c1 (c_law_large s 1099511627776 (by decide)) (by simp only [go_sem] <;> rfl) (by simp only [go_sem] <;> rfl) ?_
  refine Run.nil ?_
  refine Exec.cndS (by simp only [go_sem] <;> rfl) (fun hb36 => ?_) (fun hb36 => ?_)
  · skip
    refine Exec.assocS ?_
    refine Exec.reg ?_
    refine Run.c1 (c_law_awake) (by simp only [go_sem] <;> rfl) (by simp only [go_sem] <;> rfl) ?_
    refine Run.o ?_
    refine Run.nil ?_
    refine Exec.retS ?_
    exact Ends.fin [] (rs := [.tmp 10]) rfl (by simp only [go_sem] <;> rfl) (by simp only [go_sem] <;> first | rfl | ((repeat' (first | with_reducible_and_instances rfl | refine st_eq ?_ ?_ ?_ | refine ret_eq ?_ | refine tup_eq ?_ | refine tm_eq ?_ ?_ | refine arr_eq ?_ | refine cells_eq ?_ | refine val_eq ?_ | refine ls_eq ?_ ?_ | refine own_eq ?_ ?_ | refine sl_eq ?_ | refine b_eq ?_ | (refine i_eq ?_; omega))); done))
  have hbl : largeB s 1099511627776 = false := by simpa using hb36
  obtain ⟨hsm, _⟩ := large_small hbl
  refine Exec.skipS ?_
  refine Exec.assocS ?_
  refine Exec.reg ?_
  refine Run.o ?_
  refine Run.c1 (c_term_Check s hsm) (by simp only [go_sem] <;> rfl) (by simp only [go_sem] <;> rfl) ?_
  iterate 5 (refine Run.o ?_)
  refine Run.nil ?_
  refine Exec.assocS ?_
  by_cases hok : (termsR s).2.2 = 0
  · skip
    have hst := (terms_zero hok).1
    have g1 : ((termsR s).2.2 != 0) = false := by rw [hok, bne_self_eq_false]
    refine Exec.reg ?_
    iterate 3 (refine Run.o1 (by simp only [go_sem, g1, hst, Bool.not_true] <;> rfl) ?_)
    refine Run.y1 (by simp only [go_sem, g1, hst, Bool.not_true] <;> rfl) ?_
    refine Run.calw (by simp only [go_sem] <;> rfl) (c_meterworksref07_Stock s hsm) (by simp only [go_sem]) (by simp only [go_sem, g1, hst, Bool.not_true] <;> rfl) (by simp only [go_sem, g1, hst, Bool.not_true] <;> rfl) (by exact ⟨by first | exact WkR.pure rfl | exact WkR.nil _ | exact WkR.int (by first | omega | (simp; done) | (simp; omega)), trivial⟩) (fr0) (by simp only [go_sem, g1, hst, Bool.not_true] <;> rfl) ?_
    refine Run.y1 (by simp only [go_sem, g1, hst, Bool.not_true] <;> rfl) ?_
    refine Run.o1 (by simp only [go_sem, g1, hst, Bool.not_true] <;> rfl) ?_
    refine Run.nil ?_
    refine Exec.cndS (by simp only [go_sem, g1, hst, Bool.not_true] <;> rfl) (fun hb49 => ?_) (fun hb49 => ?_)
    · exact absurd hb49 (by simp)
    have v := stock_val hst
    have hrn := v.nrs
    have hbn := v.nbs
    have hpn := v.nps
    have hrm3 := rot_len s.rs t
    have hbm3 := rot_len s.bs t
    have hpm3 := rot_len s.ps t
    have hrm : ((rot s.rs t).map encSl).length = s.rs.length := by rw [List.length_map, rot_len]
    have hrt : (rot s.rs t).take s.rs.length = rot s.rs t := List.take_of_length_le (by rw [rot_len]; exact Nat.le_refl _)
    have hrt2 : List.take s.rs.length ((rot s.rs t).map encSl) = (rot s.rs t).map encSl := List.take_of_length_le (by rw [hrm]; exact Nat.le_refl _)
    have hbm : ((rot s.bs t).map encBr).length = s.bs.length := by rw [List.length_map, rot_len]
    have hbt : (rot s.bs t).take s.bs.length = rot s.bs t := List.take_of_length_le (by rw [rot_len]; exact Nat.le_refl _)
    have hbt2 : List.take s.bs.length ((rot s.bs t).map encBr) = (rot s.bs t).map encBr := List.take_of_length_le (by rw [hbm]; exact Nat.le_refl _)
    have hpm : ((rot s.ps t).map encPf).length = s.ps.length := by rw [List.length_map, rot_len]
    have hpt : (rot s.ps t).take s.ps.length = rot s.ps t := List.take_of_length_le (by rw [rot_len]; exact Nat.le_refl _)
    have hpt2 : List.take s.ps.length ((rot s.ps t).map encPf) = (rot s.ps t).map encPf := List.take_of_length_le (by rw [hpm]; exact Nat.le_refl _)
    refine Exec.skipS ?_
    refine Exec.reg ?_
    refine Run.o1 (by simp only [go_sem, g1, hst, Bool.not_true] <;> rfl) ?_
    iterate 2 (refine Run.o ?_)
    refine Run.nil ?_
    refine Exec.reg ?_
    iterate 6 (refine Run.o ?_)
    refine Run.nil ?_
    refine Exec.assocS ?_
    refine Exec.reg ?_
    refine Run.nilC 13 1 1001 42 4 (by simp only [go_sem] <;> rfl) (by rfl) (by simp only [go_sem] <;> rfl) (by omega) (by omega) (by simp only [go_sem] <;> rfl) ?_
    refine Run.o ?_
    refine Run.nil ?_
    refine Exec.blk ?_
    refine Exec.forA [1, 2, 4, 5, 8, 13, 14] [5, 8, 13, 1001] (s.rs.length) (fun k => [.slot 14 (.int k), .obj 13 (.cells [.d (csD s.cs), .own 1001 0 k k, .d (.raw (.slice none 0 0)), .d (.raw (.slice none 0 0))]), .obj 1001 (.arr 42 4 (((rot s.rs t).take k).map encSl))]) (fun _ => True) (fun k => by simp only [go_sem] <;> rfl) (by simp only [go_sem, g1, hst, Bool.not_true, List.take_zero, List.map_nil, Int.natCast_zero] <;> rfl) ?_ (fun k hk hX => ?_)
    · trivial
    have htl : ((rot s.rs t).take k).length = k := by rw [List.length_take, rot_len]; omega
    refine Exec.assocS ?_
    refine Exec.reg ?_
    iterate 2 (refine Run.o ?_)
    iterate 3 (refine Run.o1 (by simp only [go_sem, g1, hst, Bool.not_true, htl] <;> rfl) ?_)
    refine Run.nil ?_
    refine Exec.cndS (by simp only [go_sem, g1, hst, Bool.not_true, htl] <;> rfl) (fun hb67 => ?_) (fun hb67 => ?_)
    · skip
      have hlt := lt_of_dec hb67
      have hz : ¬ (s.rs.length : Int) = 0 := by omega
      have hmd := tmod_nat k t s.rs.length
      have hri := rot_get (l := s.rs) (t := t) hlt
      obtain ⟨q, hq⟩ : ∃ q, (rot s.rs t)[k]? = some q := ⟨_, List.getElem?_eq_getElem (by rw [rot_len]; exact hlt)⟩
      have hrq := hri.symm.trans hq
      have hml : (k + t) % s.rs.length < s.rs.length := Nat.mod_lt _ (by omega)
      have hsn := take_snoc' hq
      refine Exec.skipS ?_
      refine Exec.blk ?_
      refine Exec.opk1 20 ?_
      iterate 6 (refine OpenK.o1 (by simp only [go_sem, g1, hst, Bool.not_true, htl, hz, hmd, nat_toNat, hrq, hsn, List.map_append, List.map_cons, List.map_nil] <;> rfl) ?_)
      iterate 2 (refine OpenK.o1 (by simp only [go_sem, g1, hst, Bool.not_true, htl, hz, hmd, nat_toNat, hrq, hsn, List.map_append, List.map_cons, List.map_nil]; (try simp (disch := omega) only [IntWalk.i64_in, IntWalk.u64_in, if_neg, if_pos])<;> rfl) ?_)
      iterate 3 (refine OpenK.o1 (by simp only [go_sem, g1, hst, Bool.not_true, htl, hz, hmd, nat_toNat, hrq, hsn, List.map_append, List.map_cons, List.map_nil] <;> rfl) ?_)
      refine OpenK.o1 (by simp only [go_sem, g1, hst, Bool.not_true, htl, hz, hmd, nat_toNat, hrq, hsn, List.map_append, List.map_cons, List.map_nil]; (try simp (disch := omega) only [IntWalk.i64_in, IntWalk.u64_in, if_neg, if_pos])<;> rfl) ?_
      refine OpenK.o1 (by simp only [go_sem, g1, hst, Bool.not_true, htl, hz, hmd, nat_toNat, hrq, hsn, List.map_append, List.map_cons, List.map_nil]; (try simp (disch := omega) only [if_pos]); (try simp only [go_sem, g1, hst, Bool.not_true, htl, hz, hmd, nat_toNat, hrq, hsn, List.map_append, List.map_cons, List.map_nil])<;> rfl) ?_
      iterate 2 (refine OpenK.o1 (by simp only [go_sem, g1, hst, Bool.not_true, htl, hz, hmd, nat_toNat, hrq, hsn, List.map_append, List.map_cons, List.map_nil] <;> rfl) ?_)
      refine OpenK.o1 (by simp only [go_sem, g1, hst, Bool.not_true, htl, hz, hmd, nat_toNat, hrq, hsn, List.map_append, List.map_cons, List.map_nil]; (try simp (disch := omega) only [if_pos]); (try simp only [go_sem, g1, hst, Bool.not_true, htl, hz, hmd, nat_toNat, hrq, hsn, List.map_append, List.map_cons, List.map_nil]) <;> first | (refine ite_run ⟨by (try simp only [List.length_append, List.length_drop, List.length_take, List.length_map, List.length_cons, List.length_nil, List.length_replicate, List.length_set, List.length_range, Nat.zero_add]); omega, by (try simp only [List.length_append, List.length_drop, List.length_take, List.length_map, List.length_cons, List.length_nil, List.length_replicate, List.length_set, List.length_range, Nat.zero_add]); omega, by repeat (first | exact al_nil | assumption | refine al_app ?_ ?_ | refine al_drop ?_ | refine al_take ?_ | exact al_map (fun _ => rfl) | exact al_rep rfl | refine al_cons rfl ?_)⟩ ?_; simp only [go_sem, g1, hst, Bool.not_true, htl, hz, hmd, nat_toNat, hrq, hsn, List.map_append, List.map_cons, List.map_nil] <;> rfl) | (refine ite_run ⟨by (try simp only [List.length_append, List.length_drop, List.length_take, List.length_map, List.length_cons, List.length_nil, List.length_replicate, List.length_set, List.length_range, Nat.zero_add]); omega, by repeat (first | exact al_nil | assumption | refine al_app ?_ ?_ | refine al_drop ?_ | refine al_take ?_ | exact al_map (fun _ => rfl) | exact al_rep rfl | refine al_cons rfl ?_)⟩ ?_; simp only [go_sem, g1, hst, Bool.not_true, htl, hz, hmd, nat_toNat, hrq, hsn, List.map_append, List.map_cons, List.map_nil] <;> rfl) | rfl) ?_
      iterate 2 (refine OpenK.o1 (by simp only [go_sem, g1, hst, Bool.not_true, htl, hz, hmd, nat_toNat, hrq, hsn, List.map_append, List.map_cons, List.map_nil] <;> rfl) ?_)
      refine OpenK.nil (OpenE.finT (by kernel_rfl) (by kernel_rfl) (by kernel_rfl) ?_)
      refine BlkK.nrm ?_
      refine Exec.reg1 ?_
      refine Run.o ?_
      refine Run.o1 (by simp only [go_sem, g1, hst, Bool.not_true, htl, hz, hmd, nat_toNat, hrq, hsn, List.map_append, List.map_cons, List.map_nil]; (try simp (disch := omega) only [IntWalk.i64_in, IntWalk.u64_in, if_neg, if_pos])<;> rfl) ?_
      refine Run.o ?_
      refine Run.nil ?_
      refine ForK.nxt ?_ ?_ ?_
      · omega
      · exact Ghost.kp [1, 2, 4, 5, 8, 13, 14] [5, 8, 13, 1001] (by simp only [go_sem, g1, hst, Bool.not_true, htl, hz, hmd, nat_toNat, hrq, hsn, List.map_append, List.map_cons, List.map_nil]; first | ((repeat' (first | with_reducible_and_instances rfl | refine st_eq ?_ ?_ ?_ | refine ret_eq ?_ | refine tup_eq ?_ | refine tm_eq ?_ ?_ | refine arr_eq ?_ | refine cells_eq ?_ | refine val_eq ?_ | refine ls_eq ?_ ?_ | refine own_eq ?_ ?_ | refine sl_eq ?_ | refine b_eq ?_ | (refine i_eq ?_; omega))); done) | rfl)
      · trivial
    have hke : k = s.rs.length := by have := ge_of_dec hb67; omega
    subst hke
    refine Exec.exitS ?_
    refine ForK.ext ?_
    refine BlkK.hit ?_
    refine Exec.assocS ?_
    refine Exec.reg ?_
    refine Run.nilC 13 3 1003 43 2 (by simp only [go_sem] <;> rfl) (by rfl) (by simp only [go_sem] <;> rfl) (by omega) (by omega) (by simp only [go_sem] <;> rfl) ?_
    refine Run.o ?_
    refine Run.nil ?_
    refine Exec.blk ?_
    refine Exec.forA [1, 2, 4, 5, 8, 13, 15] [5, 8, 13, 1001, 1003] (s.bs.length) (fun j => [.slot 15 (.int j), .obj 13 (.cells [.d (csD s.cs), .own 1001 0 s.rs.length s.rs.length, .d (.raw (.slice none 0 0)), .own 1003 0 j j]), .obj 1003 (.arr 43 2 (((rot s.bs t).take j).map encBr))]) (fun _ => True) (fun j => by simp only [go_sem] <;> rfl) (by simp only [go_sem, g1, hst, Bool.not_true, htl, hrt, List.take_zero, List.map_nil, Int.natCast_zero] <;> rfl) ?_ (fun j hj Xj => ?_)
    · trivial
    have htl : ((rot s.bs t).take j).length = j := by rw [List.length_take, rot_len]; omega
    refine Exec.assocS ?_
    refine Exec.reg ?_
    iterate 2 (refine Run.o ?_)
    iterate 3 (refine Run.o1 (by simp only [go_sem, g1, hst, Bool.not_true, htl, hrt, htl] <;> rfl) ?_)
    refine Run.nil ?_
    refine Exec.cndS (by simp only [go_sem, g1, hst, Bool.not_true, htl, hrt, htl] <;> rfl) (fun hb91 => ?_) (fun hb91 => ?_)
    · skip
      have hlt := lt_of_dec hb91
      have hz : ¬ (s.bs.length : Int) = 0 := by omega
      have hmd := tmod_nat j t s.bs.length
      have hri := rot_get (l := s.bs) (t := t) hlt
      obtain ⟨q, hq⟩ : ∃ q, (rot s.bs t)[j]? = some q := ⟨_, List.getElem?_eq_getElem (by rw [rot_len]; exact hlt)⟩
      have hrq := hri.symm.trans hq
      have hml : (j + t) % s.bs.length < s.bs.length := Nat.mod_lt _ (by omega)
      have hsn := take_snoc' hq
      refine Exec.skipS ?_
      refine Exec.blk ?_
      refine Exec.opk1 20 ?_
      iterate 6 (refine OpenK.o1 (by simp only [go_sem, g1, hst, Bool.not_true, htl, hrt, htl, hz, hmd, nat_toNat, hrq, hsn, List.map_append, List.map_cons, List.map_nil] <;> rfl) ?_)
      iterate 2 (refine OpenK.o1 (by simp only [go_sem, g1, hst, Bool.not_true, htl, hrt, htl, hz, hmd, nat_toNat, hrq, hsn, List.map_append, List.map_cons, List.map_nil]; (try simp (disch := omega) only [IntWalk.i64_in, IntWalk.u64_in, if_neg, if_pos])<;> rfl) ?_)
      iterate 3 (refine OpenK.o1 (by simp only [go_sem, g1, hst, Bool.not_true, htl, hrt, htl, hz, hmd, nat_toNat, hrq, hsn, List.map_append, List.map_cons, List.map_nil] <;> rfl) ?_)
      refine OpenK.o1 (by simp only [go_sem, g1, hst, Bool.not_true, htl, hrt, htl, hz, hmd, nat_toNat, hrq, hsn, List.map_append, List.map_cons, List.map_nil]; (try simp (disch := omega) only [IntWalk.i64_in, IntWalk.u64_in, if_neg, if_pos])<;> rfl) ?_
      refine OpenK.o1 (by simp only [go_sem, g1, hst, Bool.not_true, htl, hrt, htl, hz, hmd, nat_toNat, hrq, hsn, List.map_append, List.map_cons, List.map_nil]; (try simp (disch := omega) only [if_pos]); (try simp only [go_sem, g1, hst, Bool.not_true, htl, hrt, htl, hz, hmd, nat_toNat, hrq, hsn, List.map_append, List.map_cons, List.map_nil])<;> rfl) ?_
      iterate 2 (refine OpenK.o1 (by simp only [go_sem, g1, hst, Bool.not_true, htl, hrt, htl, hz, hmd, nat_toNat, hrq, hsn, List.map_append, List.map_cons, List.map_nil] <;> rfl) ?_)
      refine OpenK.o1 (by simp only [go_sem, g1, hst, Bool.not_true, htl, hrt, htl, hz, hmd, nat_toNat, hrq, hsn, List.map_append, List.map_cons, List.map_nil]; (try simp (disch := omega) only [if_pos]); (try simp only [go_sem, g1, hst, Bool.not_true, htl, hrt, htl, hz, hmd, nat_toNat, hrq, hsn, List.map_append, List.map_cons, List.map_nil]) <;> first | (refine ite_run ⟨by (try simp only [List.length_append, List.length_drop, List.length_take, List.length_map, List.length_cons, List.length_nil, List.length_replicate, List.length_set, List.length_range, Nat.zero_add]); omega, by (try simp only [List.length_append, List.length_drop, List.length_take, List.length_map, List.length_cons, List.length_nil, List.length_replicate, List.length_set, List.length_range, Nat.zero_add]); omega, by repeat (first | exact al_nil | assumption | refine al_app ?_ ?_ | refine al_drop ?_ | refine al_take ?_ | exact al_map (fun _ => rfl) | exact al_rep rfl | refine al_cons rfl ?_)⟩ ?_; simp only [go_sem, g1, hst, Bool.not_true, htl, hrt, htl, hz, hmd, nat_toNat, hrq, hsn, List.map_append, List.map_cons, List.map_nil] <;> rfl) | (refine ite_run ⟨by (try simp only [List.length_append, List.length_drop, List.length_take, List.length_map, List.length_cons, List.length_nil, List.length_replicate, List.length_set, List.length_range, Nat.zero_add]); omega, by repeat (first | exact al_nil | assumption | refine al_app ?_ ?_ | refine al_drop ?_ | refine al_take ?_ | exact al_map (fun _ => rfl) | exact al_rep rfl | refine al_cons rfl ?_)⟩ ?_; simp only [go_sem, g1, hst, Bool.not_true, htl, hrt, htl, hz, hmd, nat_toNat, hrq, hsn, List.map_append, List.map_cons, List.map_nil] <;> rfl) | rfl) ?_
      iterate 2 (refine OpenK.o1 (by simp only [go_sem, g1, hst, Bool.not_true, htl, hrt, htl, hz, hmd, nat_toNat, hrq, hsn, List.map_append, List.map_cons, List.map_nil] <;> rfl) ?_)
      refine OpenK.nil (OpenE.finT (by kernel_rfl) (by kernel_rfl) (by kernel_rfl) ?_)
      refine BlkK.nrm ?_
      refine Exec.reg1 ?_
      refine Run.o ?_
      refine Run.o1 (by simp only [go_sem, g1, hst, Bool.not_true, htl, hrt, htl, hz, hmd, nat_toNat, hrq, hsn, List.map_append, List.map_cons, List.map_nil]; (try simp (disch := omega) only [IntWalk.i64_in, IntWalk.u64_in, if_neg, if_pos])<;> rfl) ?_
      refine Run.o ?_
      refine Run.nil ?_
      refine ForK.nxt ?_ ?_ ?_
      · omega
      · exact Ghost.kp [1, 2, 4, 5, 8, 13, 15] [5, 8, 13, 1001, 1003] (by simp only [go_sem, g1, hst, Bool.not_true, htl, hrt, htl, hz, hmd, nat_toNat, hrq, hsn, List.map_append, List.map_cons, List.map_nil]; first | ((repeat' (first | with_reducible_and_instances rfl | refine st_eq ?_ ?_ ?_ | refine ret_eq ?_ | refine tup_eq ?_ | refine tm_eq ?_ ?_ | refine arr_eq ?_ | refine cells_eq ?_ | refine val_eq ?_ | refine ls_eq ?_ ?_ | refine own_eq ?_ ?_ | refine sl_eq ?_ | refine b_eq ?_ | (refine i_eq ?_; omega))); done) | rfl)
      · trivial
    have hje : j = s.bs.length := by have := ge_of_dec hb91; omega
    subst hje
    refine Exec.exitS ?_
    refine ForK.ext ?_
    refine BlkK.hit ?_
    refine Exec.reg ?_
    refine Run.frz 1003 (by simp only [go_sem, List.drop_zero, hbt, hbt2, hbm, hbm3, eq_self, if_true] <;> rfl) ?_
    refine Run.nilC 13 2 1002 52 4 (by simp only [go_sem] <;> rfl) (by rfl) (by simp only [go_sem] <;> rfl) (by omega) (by omega) (by simp only [go_sem] <;> rfl) ?_
    refine Run.o ?_
    refine Run.nil ?_
    refine Exec.assocS ?_
    refine Exec.reg ?_
    refine Run.o ?_
    refine Run.nil ?_
    refine Exec.blk ?_
    refine Exec.forA [1, 2, 4, 5, 8, 13, 16, 17] [5, 8, 13, 1001, 1002] (s.ps.length) (fun w => [.slot 17 (.int w), .slot 16 (.bool (anD s w)), .obj 13 (.cells [.d (csD s.cs), .own 1001 0 s.rs.length s.rs.length, .own 1002 0 w w, .d (bsD (rot s.bs t))]), .obj 1002 (.arr 52 4 (((rot s.ps t).take w).map encPf))]) (fun _ => True) (fun w => by simp only [go_sem] <;> rfl) (by simp only [go_sem, g1, hst, Bool.not_true, htl, hrt, htl, hbt, List.take_zero, List.map_nil, Int.natCast_zero, anD, List.range_zero, List.any_nil] <;> rfl) ?_ (fun w hw Xw => ?_)
    · trivial
    have htl : ((rot s.ps t).take w).length = w := by rw [List.length_take, rot_len]; omega
    refine Exec.assocS ?_
    refine Exec.reg ?_
    iterate 2 (refine Run.o ?_)
    iterate 3 (refine Run.o1 (by simp only [go_sem, g1, hst, Bool.not_true, htl, hrt, htl, hbt, htl] <;> rfl) ?_)
    refine Run.nil ?_
    refine Exec.cndS (by simp only [go_sem, g1, hst, Bool.not_true, htl, hrt, htl, hbt, htl] <;> rfl) (fun hb115 => ?_) (fun hb115 => ?_)
    · skip
      have hlt := lt_of_dec hb115
      have hz : ¬ (s.ps.length : Int) = 0 := by omega
      have hmd := tmod_nat w t s.ps.length
      have hri := rot_get (l := s.ps) (t := t) hlt
      obtain ⟨q, hq⟩ : ∃ q, (rot s.ps t)[w]? = some q := ⟨_, List.getElem?_eq_getElem (by rw [rot_len]; exact hlt)⟩
      have hrq := hri.symm.trans hq
      have hml : (w + t) % s.ps.length < s.ps.length := Nat.mod_lt _ (by omega)
      have hsn := take_snoc' hq
      have hpi := prOf_get hlt
      have hAs := anD_succ s w
      obtain ⟨A, hAe⟩ : ∃ b, anD s w = b := ⟨_, rfl⟩
      rw [hAe] at hAs
      refine Exec.skipS ?_
      refine Exec.blk ?_
      refine Exec.assocS ?_
      refine Exec.reg ?_
      refine Run.o ?_
      refine Run.nil ?_
      refine Exec.blk ?_
      refine Exec.forA [1, 2, 4, 5, 8, 13, 16, 17, 18] [5, 8, 13, 1001, 1002] (w) (fun m => [.slot 18 (.int m), .slot 16 (.bool (A || exD s w m))]) (fun _ => True) (fun m => by simp only [go_sem] <;> rfl) (by simp only [go_sem, g1, hst, Bool.not_true, htl, hrt, htl, hbt, htl, hz, hmd, nat_toNat, hrq, hsn, List.map_append, List.map_cons, List.map_nil, hpi, hAe, exD, List.range_zero, List.any_nil, Bool.or_false, Int.natCast_zero] <;> rfl) ?_ (fun m hm Xm => ?_)
      · trivial
      refine Exec.assocS ?_
      refine Exec.reg ?_
      iterate 2 (refine Run.o ?_)
      refine Run.o1 (by simp only [go_sem, g1, hst, Bool.not_true, htl, hrt, htl, hbt, htl, hz, hmd, nat_toNat, hrq, hsn, List.map_append, List.map_cons, List.map_nil, hpi, hAe] <;> rfl) ?_
      refine Run.nil ?_
      refine Exec.cndS (by simp only [go_sem, g1, hst, Bool.not_true, htl, hrt, htl, hbt, htl, hz, hmd, nat_toNat, hrq, hsn, List.map_append, List.map_cons, List.map_nil, hpi, hAe] <;> rfl) (fun hb120 => ?_) (fun hb120 => ?_)
      · skip
        have hmi : m < w := by have := of_decide_eq_true hb120; omega
        have hpm2 := prOf_get (s := s) (i := m) (by omega)
        have hes := exD_succ s w m
        refine Exec.skipS ?_
        refine Exec.blk ?_
        by_cases hA1 : A = true
        · skip
          subst hA1
          refine Exec.opk1 19 ?_
          iterate 2 (refine OpenK.o1 (by simp only [go_sem, g1, hst, Bool.not_true, htl, hrt, htl, hbt, htl, hz, hmd, nat_toNat, hrq, hsn, List.map_append, List.map_cons, List.map_nil, hpi, hAe, hpm2, hes, Bool.true_or] <;> rfl) ?_)
          iterate 13 (refine OpenK.s ?_)
          iterate 2 (refine OpenK.o1 (by simp only [go_sem, g1, hst, Bool.not_true, htl, hrt, htl, hbt, htl, hz, hmd, nat_toNat, hrq, hsn, List.map_append, List.map_cons, List.map_nil, hpi, hAe, hpm2, hes, Bool.true_or] <;> rfl) ?_)
          refine OpenK.nil (OpenE.finT (by kernel_rfl) (by kernel_rfl) (by kernel_rfl) ?_)
          refine BlkK.nrm ?_
          refine Exec.reg1 ?_
          refine Run.o ?_
          refine Run.o1 (by simp only [go_sem, g1, hst, Bool.not_true, htl, hrt, htl, hbt, htl, hz, hmd, nat_toNat, hrq, hsn, List.map_append, List.map_cons, List.map_nil, hpi, hAe, hpm2, hes, Bool.true_or]; (try simp (disch := omega) only [IntWalk.i64_in, IntWalk.u64_in, if_neg, if_pos])<;> rfl) ?_
          refine Run.o ?_
          refine Run.nil ?_
          refine ForK.nxt ?_ ?_ ?_
          · omega
          · exact Ghost.kp [1, 2, 4, 5, 8, 13, 16, 17, 18] [5, 8, 13, 1001, 1002] (by simp only [go_sem, g1, hst, Bool.not_true, htl, hrt, htl, hbt, htl, hz, hmd, nat_toNat, hrq, hsn, List.map_append, List.map_cons, List.map_nil, hpi, hAe, hpm2, hes, Bool.true_or]; first | ((repeat' (first | with_reducible_and_instances rfl | refine st_eq ?_ ?_ ?_ | refine ret_eq ?_ | refine tup_eq ?_ | refine tm_eq ?_ ?_ | refine arr_eq ?_ | refine cells_eq ?_ | refine val_eq ?_ | refine ls_eq ?_ ?_ | refine own_eq ?_ ?_ | refine sl_eq ?_ | refine b_eq ?_ | (refine i_eq ?_; omega))); done) | rfl)
          · trivial
        have hA1 : A = false := by simpa using hA1
        subst hA1
        by_cases hE1 : exD s w m = true
        · skip
          refine Exec.opk1 19 ?_
          iterate 2 (refine OpenK.o1 (by simp only [go_sem, g1, hst, Bool.not_true, htl, hrt, htl, hbt, htl, hz, hmd, nat_toNat, hrq, hsn, List.map_append, List.map_cons, List.map_nil, hpi, hAe, hpm2, hes, Bool.false_or, hE1, Bool.true_or] <;> rfl) ?_)
          iterate 13 (refine OpenK.s ?_)
          iterate 2 (refine OpenK.o1 (by simp only [go_sem, g1, hst, Bool.not_true, htl, hrt, htl, hbt, htl, hz, hmd, nat_toNat, hrq, hsn, List.map_append, List.map_cons, List.map_nil, hpi, hAe, hpm2, hes, Bool.false_or, hE1, Bool.true_or] <;> rfl) ?_)
          refine OpenK.nil (OpenE.finT (by kernel_rfl) (by kernel_rfl) (by kernel_rfl) ?_)
          refine BlkK.nrm ?_
          refine Exec.reg1 ?_
          refine Run.o ?_
          refine Run.o1 (by simp only [go_sem, g1, hst, Bool.not_true, htl, hrt, htl, hbt, htl, hz, hmd, nat_toNat, hrq, hsn, List.map_append, List.map_cons, List.map_nil, hpi, hAe, hpm2, hes, Bool.false_or, hE1, Bool.true_or]; (try simp (disch := omega) only [IntWalk.i64_in, IntWalk.u64_in, if_neg, if_pos])<;> rfl) ?_
          refine Run.o ?_
          refine Run.nil ?_
          refine ForK.nxt ?_ ?_ ?_
          · omega
          · exact Ghost.kp [1, 2, 4, 5, 8, 13, 16, 17, 18] [5, 8, 13, 1001, 1002] (by simp only [go_sem, g1, hst, Bool.not_true, htl, hrt, htl, hbt, htl, hz, hmd, nat_toNat, hrq, hsn, List.map_append, List.map_cons, List.map_nil, hpi, hAe, hpm2, hes, Bool.false_or, hE1, Bool.true_or]; first | ((repeat' (first | with_reducible_and_instances rfl | refine st_eq ?_ ?_ ?_ | refine ret_eq ?_ | refine tup_eq ?_ | refine tm_eq ?_ ?_ | refine arr_eq ?_ | refine cells_eq ?_ | refine val_eq ?_ | refine ls_eq ?_ ?_ | refine own_eq ?_ ?_ | refine sl_eq ?_ | refine b_eq ?_ | (refine i_eq ?_; omega))); done) | rfl)
          · trivial
        have hE1 : exD s w m = false := by simpa using hE1
        refine Exec.opk1 19 ?_
        iterate 2 (refine OpenK.o1 (by simp only [go_sem, g1, hst, Bool.not_true, htl, hrt, htl, hbt, htl, hz, hmd, nat_toNat, hrq, hsn, List.map_append, List.map_cons, List.map_nil, hpi, hAe, hpm2, hes, Bool.false_or, hE1, Bool.false_or] <;> rfl) ?_)
        iterate 3 (refine OpenK.y1 (by simp only [go_sem, g1, hst, Bool.not_true, htl, hrt, htl, hbt, htl, hz, hmd, nat_toNat, hrq, hsn, List.map_append, List.map_cons, List.map_nil, hpi, hAe, hpm2, hes, Bool.false_or, hE1, Bool.false_or] <;> rfl) ?_)
        refine OpenK.y1 (by simp only [go_sem, g1, hst, Bool.not_true, htl, hrt, htl, hbt, htl, hz, hmd, nat_toNat, hrq, hsn, List.map_append, List.map_cons, List.map_nil, hpi, hAe, hpm2, hes, Bool.false_or, hE1, Bool.false_or]; (try simp (disch := omega) only [if_pos]); (try simp only [go_sem, g1, hst, Bool.not_true, htl, hrt, htl, hbt, htl, hz, hmd, nat_toNat, hrq, hsn, List.map_append, List.map_cons, List.map_nil, hpi, hAe, hpm2, hes, Bool.false_or, hE1, Bool.false_or])<;> rfl) ?_
        iterate 5 (refine OpenK.y1 (by simp only [go_sem, g1, hst, Bool.not_true, htl, hrt, htl, hbt, htl, hz, hmd, nat_toNat, hrq, hsn, List.map_append, List.map_cons, List.map_nil, hpi, hAe, hpm2, hes, Bool.false_or, hE1, Bool.false_or] <;> rfl) ?_)
        refine OpenK.y1 (by simp only [go_sem, g1, hst, Bool.not_true, htl, hrt, htl, hbt, htl, hz, hmd, nat_toNat, hrq, hsn, List.map_append, List.map_cons, List.map_nil, hpi, hAe, hpm2, hes, Bool.false_or, hE1, Bool.false_or]; (try simp (disch := omega) only [if_pos]); (try simp only [go_sem, g1, hst, Bool.not_true, htl, hrt, htl, hbt, htl, hz, hmd, nat_toNat, hrq, hsn, List.map_append, List.map_cons, List.map_nil, hpi, hAe, hpm2, hes, Bool.false_or, hE1, Bool.false_or])<;> rfl) ?_
        iterate 3 (refine OpenK.y1 (by simp only [go_sem, g1, hst, Bool.not_true, htl, hrt, htl, hbt, htl, hz, hmd, nat_toNat, hrq, hsn, List.map_append, List.map_cons, List.map_nil, hpi, hAe, hpm2, hes, Bool.false_or, hE1, Bool.false_or] <;> rfl) ?_)
        iterate 2 (refine OpenK.o1 (by simp only [go_sem, g1, hst, Bool.not_true, htl, hrt, htl, hbt, htl, hz, hmd, nat_toNat, hrq, hsn, List.map_append, List.map_cons, List.map_nil, hpi, hAe, hpm2, hes, Bool.false_or, hE1, Bool.false_or] <;> rfl) ?_)
        refine OpenK.nil (OpenE.finT (by kernel_rfl) (by kernel_rfl) (by kernel_rfl) ?_)
        refine BlkK.nrm ?_
        refine Exec.reg1 ?_
        refine Run.o ?_
        refine Run.o1 (by simp only [go_sem, g1, hst, Bool.not_true, htl, hrt, htl, hbt, htl, hz, hmd, nat_toNat, hrq, hsn, List.map_append, List.map_cons, List.map_nil, hpi, hAe, hpm2, hes, Bool.false_or, hE1, Bool.false_or]; (try simp (disch := omega) only [IntWalk.i64_in, IntWalk.u64_in, if_neg, if_pos])<;> rfl) ?_
        refine Run.o ?_
        refine Run.nil ?_
        refine ForK.nxt ?_ ?_ ?_
        · omega
        · exact Ghost.kp [1, 2, 4, 5, 8, 13, 16, 17, 18] [5, 8, 13, 1001, 1002] (by simp only [go_sem, g1, hst, Bool.not_true, htl, hrt, htl, hbt, htl, hz, hmd, nat_toNat, hrq, hsn, List.map_append, List.map_cons, List.map_nil, hpi, hAe, hpm2, hes, Bool.false_or, hE1, Bool.false_or]; first | ((repeat' (first | with_reducible_and_instances rfl | refine st_eq ?_ ?_ ?_ | refine ret_eq ?_ | refine tup_eq ?_ | refine tm_eq ?_ ?_ | refine arr_eq ?_ | refine cells_eq ?_ | refine val_eq ?_ | refine ls_eq ?_ ?_ | refine own_eq ?_ ?_ | refine sl_eq ?_ | refine b_eq ?_ | (refine i_eq ?_; omega))); done) | rfl)
        · trivial
      have hme : m = w := by have : ¬ (m : Int) < w := of_decide_eq_false hb120; omega
      subst hme
      refine Exec.exitS ?_
      refine ForK.ext ?_
      refine BlkK.hit ?_
      refine Exec.opk1 20 ?_
      iterate 6 (refine OpenK.o1 (by simp only [go_sem, g1, hst, Bool.not_true, htl, hrt, htl, hbt, htl, hz, hmd, nat_toNat, hrq, hsn, List.map_append, List.map_cons, List.map_nil, hpi, hAe, hAs] <;> rfl) ?_)
      iterate 2 (refine OpenK.o1 (by simp only [go_sem, g1, hst, Bool.not_true, htl, hrt, htl, hbt, htl, hz, hmd, nat_toNat, hrq, hsn, List.map_append, List.map_cons, List.map_nil, hpi, hAe, hAs]; (try simp (disch := omega) only [IntWalk.i64_in, IntWalk.u64_in, if_neg, if_pos])<;> rfl) ?_)
      iterate 3 (refine OpenK.o1 (by simp only [go_sem, g1, hst, Bool.not_true, htl, hrt, htl, hbt, htl, hz, hmd, nat_toNat, hrq, hsn, List.map_append, List.map_cons, List.map_nil, hpi, hAe, hAs] <;> rfl) ?_)
      refine OpenK.o1 (by simp only [go_sem, g1, hst, Bool.not_true, htl, hrt, htl, hbt, htl, hz, hmd, nat_toNat, hrq, hsn, List.map_append, List.map_cons, List.map_nil, hpi, hAe, hAs]; (try simp (disch := omega) only [IntWalk.i64_in, IntWalk.u64_in, if_neg, if_pos])<;> rfl) ?_
      refine OpenK.o1 (by simp only [go_sem, g1, hst, Bool.not_true, htl, hrt, htl, hbt, htl, hz, hmd, nat_toNat, hrq, hsn, List.map_append, List.map_cons, List.map_nil, hpi, hAe, hAs]; (try simp (disch := omega) only [if_pos]); (try simp only [go_sem, g1, hst, Bool.not_true, htl, hrt, htl, hbt, htl, hz, hmd, nat_toNat, hrq, hsn, List.map_append, List.map_cons, List.map_nil, hpi, hAe, hAs])<;> rfl) ?_
      iterate 2 (refine OpenK.o1 (by simp only [go_sem, g1, hst, Bool.not_true, htl, hrt, htl, hbt, htl, hz, hmd, nat_toNat, hrq, hsn, List.map_append, List.map_cons, List.map_nil, hpi, hAe, hAs] <;> rfl) ?_)
      refine OpenK.o1 (by simp only [go_sem, g1, hst, Bool.not_true, htl, hrt, htl, hbt, htl, hz, hmd, nat_toNat, hrq, hsn, List.map_append, List.map_cons, List.map_nil, hpi, hAe, hAs]; (try simp (disch := omega) only [if_pos]); (try simp only [go_sem, g1, hst, Bool.not_true, htl, hrt, htl, hbt, htl, hz, hmd, nat_toNat, hrq, hsn, List.map_append, List.map_cons, List.map_nil, hpi, hAe, hAs]) <;> first | (refine ite_run ⟨by (try simp only [List.length_append, List.length_drop, List.length_take, List.length_map, List.length_cons, List.length_nil, List.length_replicate, List.length_set, List.length_range, Nat.zero_add]); omega, by (try simp only [List.length_append, List.length_drop, List.length_take, List.length_map, List.length_cons, List.length_nil, List.length_replicate, List.length_set, List.length_range, Nat.zero_add]); omega, by repeat (first | exact al_nil | assumption | refine al_app ?_ ?_ | refine al_drop ?_ | refine al_take ?_ | exact al_map (fun _ => rfl) | exact al_rep rfl | refine al_cons rfl ?_)⟩ ?_; simp only [go_sem, g1, hst, Bool.not_true, htl, hrt, htl, hbt, htl, hz, hmd, nat_toNat, hrq, hsn, List.map_append, List.map_cons, List.map_nil, hpi, hAe, hAs] <;> rfl) | (refine ite_run ⟨by (try simp only [List.length_append, List.length_drop, List.length_take, List.length_map, List.length_cons, List.length_nil, List.length_replicate, List.length_set, List.length_range, Nat.zero_add]); omega, by repeat (first | exact al_nil | assumption | refine al_app ?_ ?_ | refine al_drop ?_ | refine al_take ?_ | exact al_map (fun _ => rfl) | exact al_rep rfl | refine al_cons rfl ?_)⟩ ?_; simp only [go_sem, g1, hst, Bool.not_true, htl, hrt, htl, hbt, htl, hz, hmd, nat_toNat, hrq, hsn, List.map_append, List.map_cons, List.map_nil, hpi, hAe, hAs] <;> rfl) | rfl) ?_
      iterate 2 (refine OpenK.o1 (by simp only [go_sem, g1, hst, Bool.not_true, htl, hrt, htl, hbt, htl, hz, hmd, nat_toNat, hrq, hsn, List.map_append, List.map_cons, List.map_nil, hpi, hAe, hAs] <;> rfl) ?_)
      refine OpenK.nil (OpenE.finT (by kernel_rfl) (by kernel_rfl) (by kernel_rfl) ?_)
      refine BlkK.nrm ?_
      refine Exec.reg1 ?_
      refine Run.o ?_
      refine Run.o1 (by simp only [go_sem, g1, hst, Bool.not_true, htl, hrt, htl, hbt, htl, hz, hmd, nat_toNat, hrq, hsn, List.map_append, List.map_cons, List.map_nil, hpi, hAe, hAs]; (try simp (disch := omega) only [IntWalk.i64_in, IntWalk.u64_in, if_neg, if_pos])<;> rfl) ?_
      refine Run.o ?_
      refine Run.nil ?_
      refine ForK.nxt ?_ ?_ ?_
      · omega
      · exact Ghost.kp [1, 2, 4, 5, 8, 13, 16, 17] [5, 8, 13, 1001, 1002] (by simp only [go_sem, g1, hst, Bool.not_true, htl, hrt, htl, hbt, htl, hz, hmd, nat_toNat, hrq, hsn, List.map_append, List.map_cons, List.map_nil, hpi, hAe, hAs]; first | ((repeat' (first | with_reducible_and_instances rfl | refine st_eq ?_ ?_ ?_ | refine ret_eq ?_ | refine tup_eq ?_ | refine tm_eq ?_ ?_ | refine arr_eq ?_ | refine cells_eq ?_ | refine val_eq ?_ | refine ls_eq ?_ ?_ | refine own_eq ?_ ?_ | refine sl_eq ?_ | refine b_eq ?_ | (refine i_eq ?_; omega))); done) | rfl)
      · trivial
    have hie : w = s.ps.length := by have := ge_of_dec hb115; omega
    subst hie
    refine Exec.exitS ?_
    refine ForK.ext ?_
    refine BlkK.hit ?_
    refine Exec.assocS ?_
    refine Exec.reg ?_
    refine Run.frz 1002 (by simp only [go_sem, List.drop_zero, hpt, hpt2, hpm, hpm3, eq_self, if_true] <;> rfl) ?_
    refine Run.o ?_
    refine Run.nil ?_
    refine Exec.joinA [1, 2, 4, 5, 8, 13] [5, 8, 13, 1001] (fun (xp : List Pf) => [.obj 13 (.cells [.d (csD s.cs), .own 1001 0 s.rs.length s.rs.length, .d (psD xp), .d (bsD (rot s.bs t))]), .obj 1001 (.arr 42 4 ((rot s.rs t).map encSl))]) (fun (xp : List Pf) => (xp.Perm s.ps ∧ isortE dayLt xp = isortE dayLt s.ps)) (fun xp => by simp only [go_sem] <;> rfl) ?_ (fun xp hj => ?_)
    · skip
      refine Exec.cnd (by simp only [go_sem, g1, hst, Bool.not_true, htl, hrt, htl, hbt, htl, hpt] <;> rfl) (fun hb156 => ?_) (fun hb156 => ?_)
      · skip
        refine Exec.reg1 ?_
        refine Run.o ?_
        refine Run.o1 (by simp only [go_sem, g1, hst, Bool.not_true, htl, hrt, htl, hbt, htl, hpt] <;> rfl) ?_
        iterate 2 (refine Run.o ?_)
        refine Run.nil ?_
        refine JoinK.nrm (s.ps) ?_ ?_
        · exact ⟨List.Perm.refl _, rfl⟩
        · exact Ghost.kp [1, 2, 4, 5, 8, 13] [5, 8, 13, 1001] (by simp only [go_sem, g1, hst, Bool.not_true, htl, hrt, htl, hbt, htl, hpt]; first | ((repeat' (first | with_reducible_and_instances rfl | refine st_eq ?_ ?_ ?_ | refine ret_eq ?_ | refine tup_eq ?_ | refine tm_eq ?_ ?_ | refine arr_eq ?_ | refine cells_eq ?_ | refine val_eq ?_ | refine ls_eq ?_ ?_ | refine own_eq ?_ ?_ | refine sl_eq ?_ | refine b_eq ?_ | (refine i_eq ?_; omega))); done) | rfl)
      have hdd : anD s s.ps.length = false := by simpa using hb156
      refine JoinK.nrm (rot s.ps t) ?_ ?_
      · exact ⟨rot_perm _ _, sort_uniq (rot_perm _ _) fun p hp q hq => anD_days hdd p ((rot_perm _ _).mem_iff.1 hp) q ((rot_perm _ _).mem_iff.1 hq)⟩
      · exact Ghost.kp [1, 2, 4, 5, 8, 13] [5, 8, 13, 1001] (by simp only [go_sem, g1, hst, Bool.not_true, htl, hrt, htl, hbt, htl, hpt]; first | ((repeat' (first | with_reducible_and_instances rfl | refine st_eq ?_ ?_ ?_ | refine ret_eq ?_ | refine tup_eq ?_ | refine tm_eq ?_ ?_ | refine arr_eq ?_ | refine cells_eq ?_ | refine val_eq ?_ | refine ls_eq ?_ ?_ | refine own_eq ?_ ?_ | refine sl_eq ?_ | refine b_eq ?_ | (refine i_eq ?_; omega))); done) | rfl)
    have ho := oth_of t hj.1 hj.2
    have gs := gd_of hok
    have g1x := oth_gd ho gs
    have v1 := stock_val g1x.st
    have hsame := oth_same ho gs y d lo hi
    refine Exec.assocS ?_
    by_cases hcut : 0 < s.rs.length ∧ s.rs.length < 24
    · skip
      have g2 : decide ((s.rs.length : Int) > 0) = true := decide_eq_true (by omega)
      have g3 : decide ((s.rs.length : Int) < 24) = true := decide_eq_true (by omega)
      obtain ⟨r, R, hrot⟩ : ∃ r R, rot s.rs t = r :: R := by
        cases h : rot s.rs t with
        | nil => have := rot_len s.rs t; rw [h] at this; simp at this; omega
        | cons r R => exact ⟨r, R, rfl⟩
      have hRl : R.length + 1 = s.rs.length := by have := rot_len s.rs t; rw [hrot] at this; simpa using this
      have hrv := v1.row r (by show r ∈ rot s.rs t; rw [hrot]; exact List.mem_cons_self)
      have hRl3 := hRl
      have hrotx := hrot
      refine Exec.opk 25 ?_
      iterate 5 (refine OpenK.o1 (by simp only [go_sem, g1, hst, Bool.not_true, htl, hrt, htl, hbt, htl, hpt, g2, g3, hrot, List.map_cons, hRl, eq_self, if_true] <;> rfl) ?_)
      iterate 4 (refine OpenK.y1 (by simp only [go_sem, g1, hst, Bool.not_true, htl, hrt, htl, hbt, htl, hpt, g2, g3, hrot, List.map_cons, hRl, eq_self, if_true] <;> rfl) ?_)
      iterate 2 (refine OpenK.o1 (by simp only [go_sem, g1, hst, Bool.not_true, htl, hrt, htl, hbt, htl, hpt, g2, g3, hrot, List.map_cons, hRl, eq_self, if_true] <;> rfl) ?_)
      iterate 2 (refine OpenK.y1 (by simp only [go_sem, g1, hst, Bool.not_true, htl, hrt, htl, hbt, htl, hpt, g2, g3, hrot, List.map_cons, hRl, eq_self, if_true] <;> rfl) ?_)
      refine OpenK.y1 (by simp only [go_sem, g1, hst, Bool.not_true, htl, hrt, htl, hbt, htl, hpt, g2, g3, hrot, List.map_cons, hRl, eq_self, if_true]; (try simp (disch := omega) only [if_pos]); (try simp only [go_sem, g1, hst, Bool.not_true, htl, hrt, htl, hbt, htl, hpt, g2, g3, hrot, List.map_cons, hRl, eq_self, if_true])<;> rfl) ?_
      iterate 4 (refine OpenK.y1 (by simp only [go_sem, g1, hst, Bool.not_true, htl, hrt, htl, hbt, htl, hpt, g2, g3, hrot, List.map_cons, hRl, eq_self, if_true] <;> rfl) ?_)
      refine OpenK.y1 (by simp only [go_sem, g1, hst, Bool.not_true, htl, hrt, htl, hbt, htl, hpt, g2, g3, hrot, List.map_cons, hRl, eq_self, if_true]; (try simp (disch := omega) only [if_pos]); (try simp only [go_sem, g1, hst, Bool.not_true, htl, hrt, htl, hbt, htl, hpt, g2, g3, hrot, List.map_cons, hRl, eq_self, if_true])<;> rfl) ?_
      iterate 3 (refine OpenK.y1 (by simp only [go_sem, g1, hst, Bool.not_true, htl, hrt, htl, hbt, htl, hpt, g2, g3, hrot, List.map_cons, hRl, eq_self, if_true] <;> rfl) ?_)
      refine OpenK.o1 (by simp only [go_sem, g1, hst, Bool.not_true, htl, hrt, htl, hbt, htl, hpt, g2, g3, hrot, List.map_cons, hRl, eq_self, if_true] <;> rfl) ?_
      refine OpenK.nil (OpenE.finT (by kernel_rfl) (by kernel_rfl) (by kernel_rfl) ?_)
      refine Exec.cndS (by simp only [go_sem, g1, hst, Bool.not_true, htl, hrt, htl, hbt, htl, hpt, g2, g3, hrot, List.map_cons, hRl, eq_self, if_true] <;> rfl) (fun hb182 => ?_) (fun hb182 => ?_)
      · skip
        have hft : r.fr < r.to := of_decide_eq_true hb182
        obtain ⟨tm, htm⟩ : ∃ x, ((t : Nat) : Int).tmod (r.to - r.fr) = x := ⟨_, rfl⟩
        have htb : 0 ≤ tm ∧ tm < r.to - r.fr := by rw [← htm]; exact ⟨Int.tmod_nonneg _ (by omega), Int.tmod_lt_of_pos _ (by omega)⟩
        have hz : ¬ r.to - r.fr = 0 := by omega
        have hlen1 : (⟨s.cs, rot s.rs t, xp, rot s.bs t⟩ : Stk).rs.length < 24 := by show (rot s.rs t).length < 24; rw [rot_len]; omega
        have hcs := cut_same (m := r.fr + tm) hrot (by omega) hlen1 g1x y d lo hi
        have hcg := cut_gd (m := r.fr + tm) hrot (by omega) hlen1 g1x
        have hsame2 := And.intro (hcs.1.trans hsame.1) (And.intro (hcs.2.1.trans hsame.2.1) (hcs.2.2.trans hsame.2.2))
        have hfz : List.take (s.rs.length + 1) ([D.i r.fr, D.i (r.fr + tm), D.i r.cl, D.i r.day] :: (R.map encSl ++ [[D.i (r.fr + tm + 1), D.i r.to, D.i r.cl, D.i r.day]])) = (cutS ⟨s.cs, rot s.rs t, xp, rot s.bs t⟩ r R (r.fr + tm)).rs.map encSl := by
          rw [List.take_of_length_le (by simp; omega)]
          show _ = (cutL r (r.fr + tm) :: R ++ [cutR r (r.fr + tm)]).map encSl
          simp [encSl, cutL, cutR]
        have hfzl : ([D.i r.fr, D.i (r.fr + tm), D.i r.cl, D.i r.day] :: (R.map encSl ++ [[D.i (r.fr + tm + 1), D.i r.to, D.i r.cl, D.i r.day]])).length = s.rs.length + 1 := by simp; omega
        obtain ⟨hE2, hC2, hD2⟩ := ord_calls (val_small (stock_val hcg.st)) (s := s) (y := y) (d := d) (lo := lo) (hi := hi) hsame2
        refine Exec.assocS ?_
        refine Exec.reg ?_
        iterate 2 (refine Run.o1 (by simp only [go_sem, g1, hst, Bool.not_true, htl, hrt, htl, hbt, htl, hpt, g2, g3, hrot, List.map_cons, hRl, eq_self, if_true, htm, hz, List.cons_append, endV] <;> rfl) ?_)
        refine Run.o1 (by simp only [go_sem, g1, hst, Bool.not_true, htl, hrt, htl, hbt, htl, hpt, g2, g3, hrot, List.map_cons, hRl, eq_self, if_true, htm, hz, List.cons_append, endV]; (try simp (disch := omega) only [if_pos]); (try simp only [go_sem, g1, hst, Bool.not_true, htl, hrt, htl, hbt, htl, hpt, g2, g3, hrot, List.map_cons, hRl, eq_self, if_true, htm, hz, List.cons_append, endV])<;> rfl) ?_
        iterate 3 (refine Run.o1 (by simp only [go_sem, g1, hst, Bool.not_true, htl, hrt, htl, hbt, htl, hpt, g2, g3, hrot, List.map_cons, hRl, eq_self, if_true, htm, hz, List.cons_append, endV] <;> rfl) ?_)
        refine Run.nil ?_
        refine Exec.assocS ?_
        refine Exec.opk 14 ?_
        iterate 3 (refine OpenK.o1 (by simp only [go_sem, g1, hst, Bool.not_true, htl, hrt, htl, hbt, htl, hpt, g2, g3, hrot, List.map_cons, hRl, eq_self, if_true, htm, hz, List.cons_append, endV] <;> rfl) ?_)
        refine OpenK.o1 (by simp only [go_sem, g1, hst, Bool.not_true, htl, hrt, htl, hbt, htl, hpt, g2, g3, hrot, List.map_cons, hRl, eq_self, if_true, htm, hz, List.cons_append, endV]; (try simp (disch := omega) only [IntWalk.i64_in, IntWalk.u64_in, if_neg, if_pos])<;> rfl) ?_
        iterate 4 (refine OpenK.o1 (by simp only [go_sem, g1, hst, Bool.not_true, htl, hrt, htl, hbt, htl, hpt, g2, g3, hrot, List.map_cons, hRl, eq_self, if_true, htm, hz, List.cons_append, endV] <;> rfl) ?_)
        iterate 3 (refine OpenK.o1 (by simp only [go_sem, g1, hst, Bool.not_true, htl, hrt, htl, hbt, htl, hpt, g2, g3, hrot, List.map_cons, hRl, eq_self, if_true, htm, hz, List.cons_append, endV]; (try simp (disch := omega) only [IntWalk.i64_in, IntWalk.u64_in, if_neg, if_pos])<;> rfl) ?_)
        refine OpenK.o1 (by simp only [go_sem, g1, hst, Bool.not_true, htl, hrt, htl, hbt, htl, hpt, g2, g3, hrot, List.map_cons, hRl, eq_self, if_true, htm, hz, List.cons_append, endV] <;> rfl) ?_
        refine OpenK.nil (OpenE.fin (by decide +kernel) (by decide +kernel) ?_)
        refine Exec.assocS ?_
        refine Exec.reg ?_
        iterate 3 (refine Run.o1 (by simp only [go_sem, g1, hst, Bool.not_true, htl, hrt, htl, hbt, htl, hpt, g2, g3, hrot, List.map_cons, hRl, eq_self, if_true, htm, hz, List.cons_append, endV] <;> rfl) ?_)
        refine Run.o1 (by simp only [go_sem, g1, hst, Bool.not_true, htl, hrt, htl, hbt, htl, hpt, g2, g3, hrot, List.map_cons, hRl, eq_self, if_true, htm, hz, List.cons_append, endV]; (try simp (disch := omega) only [if_pos]); (try simp only [go_sem, g1, hst, Bool.not_true, htl, hrt, htl, hbt, htl, hpt, g2, g3, hrot, List.map_cons, hRl, eq_self, if_true, htm, hz, List.cons_append, endV])<;> rfl) ?_
        iterate 2 (refine Run.o1 (by simp only [go_sem, g1, hst, Bool.not_true, htl, hrt, htl, hbt, htl, hpt, g2, g3, hrot, List.map_cons, hRl, eq_self, if_true, htm, hz, List.cons_append, endV] <;> rfl) ?_)
        refine Run.nil ?_
        refine Exec.assocS ?_
        refine Exec.reg ?_
        refine Run.o1 (by simp only [go_sem, g1, hst, Bool.not_true, htl, hrt, htl, hbt, htl, hpt, g2, g3, hrot, List.map_cons, hRl, eq_self, if_true, htm, hz, List.cons_append, endV] <;> rfl) ?_
        refine Run.o1 (by simp only [go_sem, g1, hst, Bool.not_true, htl, hrt, htl, hbt, htl, hpt, g2, g3, hrot, List.map_cons, hRl, eq_self, if_true, htm, hz, List.cons_append, endV]; (try simp (disch := omega) only [IntWalk.i64_in, IntWalk.u64_in, if_neg, if_pos])<;> rfl) ?_
        iterate 2 (refine Run.o1 (by simp only [go_sem, g1, hst, Bool.not_true, htl, hrt, htl, hbt, htl, hpt, g2, g3, hrot, List.map_cons, hRl, eq_self, if_true, htm, hz, List.cons_append, endV] <;> rfl) ?_)
        refine Run.nil ?_
        refine Exec.reg ?_
        iterate 4 (refine Run.o1 (by simp only [go_sem, g1, hst, Bool.not_true, htl, hrt, htl, hbt, htl, hpt, g2, g3, hrot, List.map_cons, hRl, eq_self, if_true, htm, hz, List.cons_append, endV] <;> rfl) ?_)
        refine Run.o1 (by simp only [go_sem, g1, hst, Bool.not_true, htl, hrt, htl, hbt, htl, hpt, g2, g3, hrot, List.map_cons, hRl, eq_self, if_true, htm, hz, List.cons_append, endV]; (try simp (disch := omega) only [if_pos]); (try simp only [go_sem, g1, hst, Bool.not_true, htl, hrt, htl, hbt, htl, hpt, g2, g3, hrot, List.map_cons, hRl, eq_self, if_true, htm, hz, List.cons_append, endV]) <;> first | (refine ite_run ⟨by (try simp only [List.length_append, List.length_drop, List.length_take, List.length_map, List.length_cons, List.length_nil, List.length_replicate, List.length_set, List.length_range, Nat.zero_add]); omega, by (try simp only [List.length_append, List.length_drop, List.length_take, List.length_map, List.length_cons, List.length_nil, List.length_replicate, List.length_set, List.length_range, Nat.zero_add]); omega, by repeat (first | exact al_nil | assumption | refine al_app ?_ ?_ | refine al_drop ?_ | refine al_take ?_ | exact al_map (fun _ => rfl) | exact al_rep rfl | refine al_cons rfl ?_)⟩ ?_; simp only [go_sem, g1, hst, Bool.not_true, htl, hrt, htl, hbt, htl, hpt, g2, g3, hrot, List.map_cons, hRl, eq_self, if_true, htm, hz, List.cons_append, endV] <;> rfl) | (refine ite_run ⟨by (try simp only [List.length_append, List.length_drop, List.length_take, List.length_map, List.length_cons, List.length_nil, List.length_replicate, List.length_set, List.length_range, Nat.zero_add]); omega, by repeat (first | exact al_nil | assumption | refine al_app ?_ ?_ | refine al_drop ?_ | refine al_take ?_ | exact al_map (fun _ => rfl) | exact al_rep rfl | refine al_cons rfl ?_)⟩ ?_; simp only [go_sem, g1, hst, Bool.not_true, htl, hrt, htl, hbt, htl, hpt, g2, g3, hrot, List.map_cons, hRl, eq_self, if_true, htm, hz, List.cons_append, endV] <;> rfl) | rfl) ?_
        iterate 2 (refine Run.o1 (by simp only [go_sem, g1, hst, Bool.not_true, htl, hrt, htl, hbt, htl, hpt, g2, g3, hrot, List.map_cons, hRl, eq_self, if_true, htm, hz, List.cons_append, endV] <;> rfl) ?_)
        refine Run.nil ?_
        refine Exec.reg ?_
        refine Run.frz 1001 (by simp only [go_sem, hrotx, encSl, List.map_cons, Int.toNat_zero, List.set_cons_zero, List.cons_append, List.drop_zero, hfz, hfzl, hrm3, hRl3, eq_self, if_true] <;> rfl) ?_
        refine Run.o1 (by simp only [go_sem, g1, hst, Bool.not_true, htl, hrt, htl, hbt, htl, hpt, g2, g3, hrot, List.map_cons, hRl, eq_self, if_true, htm, hz, List.cons_append, endV] <;> rfl) ?_
        refine Run.o ?_
        refine Run.c1 (c_term_End s hsm y) (by simp only [go_sem, g1, hst, Bool.not_true, htl, hrt, htl, hbt, htl, hpt, g2, g3, hrot, List.map_cons, hRl, eq_self, if_true, htm, hz, List.cons_append, endV] <;> rfl) (by simp only [go_sem, g1, hst, Bool.not_true, htl, hrt, htl, hbt, htl, hpt, g2, g3, hrot, List.map_cons, hRl, eq_self, if_true, htm, hz, List.cons_append, endV] <;> rfl) ?_
        refine Run.o ?_
        iterate 3 (refine Run.o1 (by simp only [go_sem, g1, hst, Bool.not_true, htl, hrt, htl, hbt, htl, hpt, g2, g3, hrot, List.map_cons, hRl, eq_self, if_true, htm, hz, List.cons_append, endV] <;> rfl) ?_)
        iterate 3 (refine Run.o ?_)
        refine Run.nil ?_
        refine Exec.reg ?_
        refine Run.o1 (by simp only [go_sem, g1, hst, Bool.not_true, htl, hrt, htl, hbt, htl, hpt, g2, g3, hrot, List.map_cons, hRl, eq_self, if_true, htm, hz, List.cons_append, endV] <;> rfl) ?_
        refine Run.o ?_
        refine Run.c1 (hE2) (by simp only [go_sem, g1, hst, Bool.not_true, htl, hrt, htl, hbt, htl, hpt, g2, g3, hrot, List.map_cons, hRl, eq_self, if_true, htm, hz, List.cons_append, endV] <;> rfl) (by simp only [go_sem, g1, hst, Bool.not_true, htl, hrt, htl, hbt, htl, hpt, g2, g3, hrot, List.map_cons, hRl, eq_self, if_true, htm, hz, List.cons_append, endV] <;> rfl) ?_
        refine Run.o ?_
        iterate 3 (refine Run.o1 (by simp only [go_sem, g1, hst, Bool.not_true, htl, hrt, htl, hbt, htl, hpt, g2, g3, hrot, List.map_cons, hRl, eq_self, if_true, htm, hz, List.cons_append, endV] <;> rfl) ?_)
        iterate 3 (refine Run.o ?_)
        refine Run.nil ?_
        refine Exec.reg ?_
        refine Run.o1 (by simp only [go_sem, g1, hst, Bool.not_true, htl, hrt, htl, hbt, htl, hpt, g2, g3, hrot, List.map_cons, hRl, eq_self, if_true, htm, hz, List.cons_append, endV] <;> rfl) ?_
        refine Run.o ?_
        refine Run.c1 (c_cnt s hsm d) (by simp only [go_sem, g1, hst, Bool.not_true, htl, hrt, htl, hbt, htl, hpt, g2, g3, hrot, List.map_cons, hRl, eq_self, if_true, htm, hz, List.cons_append, endV] <;> rfl) (by simp only [go_sem, g1, hst, Bool.not_true, htl, hrt, htl, hbt, htl, hpt, g2, g3, hrot, List.map_cons, hRl, eq_self, if_true, htm, hz, List.cons_append, endV] <;> rfl) ?_
        refine Run.o ?_
        iterate 2 (refine Run.o1 (by simp only [go_sem, g1, hst, Bool.not_true, htl, hrt, htl, hbt, htl, hpt, g2, g3, hrot, List.map_cons, hRl, eq_self, if_true, htm, hz, List.cons_append, endV] <;> rfl) ?_)
        iterate 2 (refine Run.o ?_)
        refine Run.nil ?_
        refine Exec.reg ?_
        refine Run.o1 (by simp only [go_sem, g1, hst, Bool.not_true, htl, hrt, htl, hbt, htl, hpt, g2, g3, hrot, List.map_cons, hRl, eq_self, if_true, htm, hz, List.cons_append, endV] <;> rfl) ?_
        refine Run.o ?_
        refine Run.c1 (hC2) (by simp only [go_sem, g1, hst, Bool.not_true, htl, hrt, htl, hbt, htl, hpt, g2, g3, hrot, List.map_cons, hRl, eq_self, if_true, htm, hz, List.cons_append, endV] <;> rfl) (by simp only [go_sem, g1, hst, Bool.not_true, htl, hrt, htl, hbt, htl, hpt, g2, g3, hrot, List.map_cons, hRl, eq_self, if_true, htm, hz, List.cons_append, endV] <;> rfl) ?_
        refine Run.o ?_
        iterate 2 (refine Run.o1 (by simp only [go_sem, g1, hst, Bool.not_true, htl, hrt, htl, hbt, htl, hpt, g2, g3, hrot, List.map_cons, hRl, eq_self, if_true, htm, hz, List.cons_append, endV] <;> rfl) ?_)
        iterate 2 (refine Run.o ?_)
        refine Run.nil ?_
        refine Exec.reg ?_
        iterate 2 (refine Run.o1 (by simp only [go_sem, g1, hst, Bool.not_true, htl, hrt, htl, hbt, htl, hpt, g2, g3, hrot, List.map_cons, hRl, eq_self, if_true, htm, hz, List.cons_append, endV] <;> rfl) ?_)
        refine Run.c1 (c_du s hsm lo hi) (by simp only [go_sem, g1, hst, Bool.not_true, htl, hrt, htl, hbt, htl, hpt, g2, g3, hrot, List.map_cons, hRl, eq_self, if_true, htm, hz, List.cons_append, endV] <;> rfl) (by simp only [go_sem, g1, hst, Bool.not_true, htl, hrt, htl, hbt, htl, hpt, g2, g3, hrot, List.map_cons, hRl, eq_self, if_true, htm, hz, List.cons_append, endV] <;> rfl) ?_
        refine Run.o ?_
        iterate 2 (refine Run.o1 (by simp only [go_sem, g1, hst, Bool.not_true, htl, hrt, htl, hbt, htl, hpt, g2, g3, hrot, List.map_cons, hRl, eq_self, if_true, htm, hz, List.cons_append, endV] <;> rfl) ?_)
        iterate 2 (refine Run.o ?_)
        refine Run.nil ?_
        refine Exec.reg ?_
        iterate 2 (refine Run.o1 (by simp only [go_sem, g1, hst, Bool.not_true, htl, hrt, htl, hbt, htl, hpt, g2, g3, hrot, List.map_cons, hRl, eq_self, if_true, htm, hz, List.cons_append, endV] <;> rfl) ?_)
        refine Run.c1 (hD2) (by simp only [go_sem, g1, hst, Bool.not_true, htl, hrt, htl, hbt, htl, hpt, g2, g3, hrot, List.map_cons, hRl, eq_self, if_true, htm, hz, List.cons_append, endV] <;> rfl) (by simp only [go_sem, g1, hst, Bool.not_true, htl, hrt, htl, hbt, htl, hpt, g2, g3, hrot, List.map_cons, hRl, eq_self, if_true, htm, hz, List.cons_append, endV] <;> rfl) ?_
        refine Run.o ?_
        iterate 2 (refine Run.o1 (by simp only [go_sem, g1, hst, Bool.not_true, htl, hrt, htl, hbt, htl, hpt, g2, g3, hrot, List.map_cons, hRl, eq_self, if_true, htm, hz, List.cons_append, endV] <;> rfl) ?_)
        iterate 2 (refine Run.o ?_)
        refine Run.nil ?_
        refine Exec.reg ?_
        iterate 2 (refine Run.o ?_)
        iterate 2 (refine Run.o1 (by simp only [go_sem, g1, hst, Bool.not_true, htl, hrt, htl, hbt, htl, hpt, g2, g3, hrot, List.map_cons, hRl, eq_self, if_true, htm, hz, List.cons_append, endV] <;> rfl) ?_)
        iterate 2 (refine Run.y1 (by simp only [go_sem] <;> rfl) ?_)
        refine Run.y1 (by simp only [go_sem, g1, hst, Bool.not_true, htl, hrt, htl, hbt, htl, hpt, g2, g3, hrot, List.map_cons, hRl, eq_self, if_true, htm, hz, List.cons_append, endV] <;> rfl) ?_
        iterate 2 (refine Run.o1 (by simp only [go_sem, g1, hst, Bool.not_true, htl, hrt, htl, hbt, htl, hpt, g2, g3, hrot, List.map_cons, hRl, eq_self, if_true, htm, hz, List.cons_append, endV] <;> rfl) ?_)
        iterate 2 (refine Run.y1 (by simp only [go_sem] <;> rfl) ?_)
        refine Run.y1 (by simp only [go_sem, g1, hst, Bool.not_true, htl, hrt, htl, hbt, htl, hpt, g2, g3, hrot, List.map_cons, hRl, eq_self, if_true, htm, hz, List.cons_append, endV] <;> rfl) ?_
        iterate 2 (refine Run.o1 (by simp only [go_sem, g1, hst, Bool.not_true, htl, hrt, htl, hbt, htl, hpt, g2, g3, hrot, List.map_cons, hRl, eq_self, if_true, htm, hz, List.cons_append, endV] <;> rfl) ?_)
        iterate 2 (refine Run.y1 (by simp only [go_sem] <;> rfl) ?_)
        refine Run.calw (by simp only [go_sem] <;> rfl) (c_meterworksref07_Ints (countR s d).1 (countR s d).1 (cntR_len s d) (cntR_len s d)) (by simp only [go_sem]) (by simp only [go_sem, g1, hst, Bool.not_true, htl, hrt, htl, hbt, htl, hpt, g2, g3, hrot, List.map_cons, hRl, eq_self, if_true, htm, hz, List.cons_append, endV] <;> rfl) (by simp only [go_sem, g1, hst, Bool.not_true, htl, hrt, htl, hbt, htl, hpt, g2, g3, hrot, List.map_cons, hRl, eq_self, if_true, htm, hz, List.cons_append, endV] <;> rfl) (by exact ⟨by first | exact WkR.pure rfl | exact WkR.nil _ | exact WkR.int (by first | omega | (simp; done) | (simp; omega)), by first | exact WkR.pure rfl | exact WkR.nil _ | exact WkR.int (by first | omega | (simp; done) | (simp; omega)), trivial⟩) (fr0) (by simp only [go_sem, g1, hst, Bool.not_true, htl, hrt, htl, hbt, htl, hpt, g2, g3, hrot, List.map_cons, hRl, eq_self, if_true, htm, hz, List.cons_append, endV] <;> rfl) ?_
        iterate 2 (refine Run.o1 (by simp only [go_sem, g1, hst, Bool.not_true, htl, hrt, htl, hbt, htl, hpt, g2, g3, hrot, List.map_cons, hRl, eq_self, if_true, htm, hz, List.cons_append, endV] <;> rfl) ?_)
        iterate 2 (refine Run.y1 (by simp only [go_sem] <;> rfl) ?_)
        refine Run.y1 (by simp only [go_sem, g1, hst, Bool.not_true, htl, hrt, htl, hbt, htl, hpt, g2, g3, hrot, List.map_cons, hRl, eq_self, if_true, htm, hz, List.cons_append, endV] <;> rfl) ?_
        iterate 2 (refine Run.o1 (by simp only [go_sem, g1, hst, Bool.not_true, htl, hrt, htl, hbt, htl, hpt, g2, g3, hrot, List.map_cons, hRl, eq_self, if_true, htm, hz, List.cons_append, endV] <;> rfl) ?_)
        iterate 2 (refine Run.y1 (by simp only [go_sem] <;> rfl) ?_)
        refine Run.calw (by simp only [go_sem] <;> rfl) (c_meterworksref07_Ints (dueR s lo hi).1 (dueR s lo hi).1 (dueR_len s hsm lo hi) (dueR_len s hsm lo hi)) (by simp only [go_sem]) (by simp only [go_sem, g1, hst, Bool.not_true, htl, hrt, htl, hbt, htl, hpt, g2, g3, hrot, List.map_cons, hRl, eq_self, if_true, htm, hz, List.cons_append, endV] <;> rfl) (by simp only [go_sem, g1, hst, Bool.not_true, htl, hrt, htl, hbt, htl, hpt, g2, g3, hrot, List.map_cons, hRl, eq_self, if_true, htm, hz, List.cons_append, endV] <;> rfl) (by exact ⟨by first | exact WkR.pure rfl | exact WkR.nil _ | exact WkR.int (by first | omega | (simp; done) | (simp; omega)), by first | exact WkR.pure rfl | exact WkR.nil _ | exact WkR.int (by first | omega | (simp; done) | (simp; omega)), trivial⟩) (fr0) (by simp only [go_sem, g1, hst, Bool.not_true, htl, hrt, htl, hbt, htl, hpt, g2, g3, hrot, List.map_cons, hRl, eq_self, if_true, htm, hz, List.cons_append, endV] <;> rfl) ?_
        iterate 2 (refine Run.o1 (by simp only [go_sem, g1, hst, Bool.not_true, htl, hrt, htl, hbt, htl, hpt, g2, g3, hrot, List.map_cons, hRl, eq_self, if_true, htm, hz, List.cons_append, endV] <;> rfl) ?_)
        iterate 2 (refine Run.y1 (by simp only [go_sem] <;> rfl) ?_)
        refine Run.y1 (by simp only [go_sem, g1, hst, Bool.not_true, htl, hrt, htl, hbt, htl, hpt, g2, g3, hrot, List.map_cons, hRl, eq_self, if_true, htm, hz, List.cons_append, endV] <;> rfl) ?_
        iterate 2 (refine Run.o1 (by simp only [go_sem, g1, hst, Bool.not_true, htl, hrt, htl, hbt, htl, hpt, g2, g3, hrot, List.map_cons, hRl, eq_self, if_true, htm, hz, List.cons_append, endV] <;> rfl) ?_)
        refine Run.calw (by simp only [go_sem] <;> rfl) (c_law_awake) (by simp only [go_sem]) (by simp only [go_sem, g1, hst, Bool.not_true, htl, hrt, htl, hbt, htl, hpt, g2, g3, hrot, List.map_cons, hRl, eq_self, if_true, htm, hz, List.cons_append, endV] <;> rfl) (by simp only [go_sem, g1, hst, Bool.not_true, htl, hrt, htl, hbt, htl, hpt, g2, g3, hrot, List.map_cons, hRl, eq_self, if_true, htm, hz, List.cons_append, endV] <;> rfl) (by exact trivial) (fr0) (by simp only [go_sem, g1, hst, Bool.not_true, htl, hrt, htl, hbt, htl, hpt, g2, g3, hrot, List.map_cons, hRl, eq_self, if_true, htm, hz, List.cons_append, endV] <;> rfl) ?_
        refine Run.o1 (by simp only [go_sem, g1, hst, Bool.not_true, htl, hrt, htl, hbt, htl, hpt, g2, g3, hrot, List.map_cons, hRl, eq_self, if_true, htm, hz, List.cons_append, endV] <;> rfl) ?_
        refine Run.o ?_
        refine Run.nil ?_
        exact Ends.fin [] (rs := [.tmp 10]) rfl (by simp only [go_sem, g1, hst, Bool.not_true, htl, hrt, htl, hbt, htl, hpt, g2, g3, hrot, List.map_cons, hRl, eq_self, if_true, htm, hz, List.cons_append, endV] <;> rfl) (by simp only [go_sem, g1, hst, Bool.not_true, htl, hrt, htl, hbt, htl, hpt, g2, g3, hrot, List.map_cons, hRl, eq_self, if_true, htm, hz, List.cons_append, endV] <;> first | rfl | ((repeat' (first | with_reducible_and_instances rfl | refine st_eq ?_ ?_ ?_ | refine ret_eq ?_ | refine tup_eq ?_ | refine tm_eq ?_ ?_ | refine arr_eq ?_ | refine cells_eq ?_ | refine val_eq ?_ | refine ls_eq ?_ ?_ | refine own_eq ?_ ?_ | refine sl_eq ?_ | refine b_eq ?_ | (refine i_eq ?_; omega))); done))
      have hfz : List.take s.rs.length ([D.i r.fr, D.i r.to, D.i r.cl, D.i r.day] :: R.map encSl) = (rot s.rs t).map encSl := by rw [hrot, List.take_of_length_le (by simp; omega)]; rfl
      have hfzl : ([D.i r.fr, D.i r.to, D.i r.cl, D.i r.day] :: R.map encSl).length = s.rs.length := by simp; omega
      obtain ⟨hE2, hC2, hD2⟩ := ord_calls (val_small v1) (s := s) (y := y) (d := d) (lo := lo) (hi := hi) hsame
      rw [hrot] at hE2 hC2 hD2
      refine Exec.skipS ?_
      refine Exec.reg ?_
      refine Run.frz 1001 (by simp only [go_sem, hrotx, encSl, List.map_cons, Int.toNat_zero, List.set_cons_zero, List.cons_append, List.drop_zero, hfz, hfzl, hrm3, hRl3, eq_self, if_true] <;> rfl) ?_
      refine Run.o1 (by simp only [go_sem, g1, hst, Bool.not_true, htl, hrt, htl, hbt, htl, hpt, g2, g3, hrot, List.map_cons, hRl, eq_self, if_true, endV] <;> rfl) ?_
      refine Run.o ?_
      refine Run.c1 (c_term_End s hsm y) (by simp only [go_sem, g1, hst, Bool.not_true, htl, hrt, htl, hbt, htl, hpt, g2, g3, hrot, List.map_cons, hRl, eq_self, if_true, endV] <;> rfl) (by simp only [go_sem, g1, hst, Bool.not_true, htl, hrt, htl, hbt, htl, hpt, g2, g3, hrot, List.map_cons, hRl, eq_self, if_true, endV] <;> rfl) ?_
      refine Run.o ?_
      iterate 3 (refine Run.o1 (by simp only [go_sem, g1, hst, Bool.not_true, htl, hrt, htl, hbt, htl, hpt, g2, g3, hrot, List.map_cons, hRl, eq_self, if_true, endV] <;> rfl) ?_)
      iterate 3 (refine Run.o ?_)
      refine Run.nil ?_
      refine Exec.reg ?_
      refine Run.o1 (by simp only [go_sem, g1, hst, Bool.not_true, htl, hrt, htl, hbt, htl, hpt, g2, g3, hrot, List.map_cons, hRl, eq_self, if_true, endV] <;> rfl) ?_
      refine Run.o ?_
      refine Run.c1 (hE2) (by simp only [go_sem, g1, hst, Bool.not_true, htl, hrt, htl, hbt, htl, hpt, g2, g3, hrot, List.map_cons, hRl, eq_self, if_true, endV] <;> rfl) (by simp only [go_sem, g1, hst, Bool.not_true, htl, hrt, htl, hbt, htl, hpt, g2, g3, hrot, List.map_cons, hRl, eq_self, if_true, endV] <;> rfl) ?_
      refine Run.o ?_
      iterate 3 (refine Run.o1 (by simp only [go_sem, g1, hst, Bool.not_true, htl, hrt, htl, hbt, htl, hpt, g2, g3, hrot, List.map_cons, hRl, eq_self, if_true, endV] <;> rfl) ?_)
      iterate 3 (refine Run.o ?_)
      refine Run.nil ?_
      refine Exec.reg ?_
      refine Run.o1 (by simp only [go_sem, g1, hst, Bool.not_true, htl, hrt, htl, hbt, htl, hpt, g2, g3, hrot, List.map_cons, hRl, eq_self, if_true, endV] <;> rfl) ?_
      refine Run.o ?_
      refine Run.c1 (c_cnt s hsm d) (by simp only [go_sem, g1, hst, Bool.not_true, htl, hrt, htl, hbt, htl, hpt, g2, g3, hrot, List.map_cons, hRl, eq_self, if_true, endV] <;> rfl) (by simp only [go_sem, g1, hst, Bool.not_true, htl, hrt, htl, hbt, htl, hpt, g2, g3, hrot, List.map_cons, hRl, eq_self, if_true, endV] <;> rfl) ?_
      refine Run.o ?_
      iterate 2 (refine Run.o1 (by simp only [go_sem, g1, hst, Bool.not_true, htl, hrt, htl, hbt, htl, hpt, g2, g3, hrot, List.map_cons, hRl, eq_self, if_true, endV] <;> rfl) ?_)
      iterate 2 (refine Run.o ?_)
      refine Run.nil ?_
      refine Exec.reg ?_
      refine Run.o1 (by simp only [go_sem, g1, hst, Bool.not_true, htl, hrt, htl, hbt, htl, hpt, g2, g3, hrot, List.map_cons, hRl, eq_self, if_true, endV] <;> rfl) ?_
      refine Run.o ?_
      refine Run.c1 (hC2) (by simp only [go_sem, g1, hst, Bool.not_true, htl, hrt, htl, hbt, htl, hpt, g2, g3, hrot, List.map_cons, hRl, eq_self, if_true, endV] <;> rfl) (by simp only [go_sem, g1, hst, Bool.not_true, htl, hrt, htl, hbt, htl, hpt, g2, g3, hrot, List.map_cons, hRl, eq_self, if_true, endV] <;> rfl) ?_
      refine Run.o ?_
      iterate 2 (refine Run.o1 (by simp only [go_sem, g1, hst, Bool.not_true, htl, hrt, htl, hbt, htl, hpt, g2, g3, hrot, List.map_cons, hRl, eq_self, if_true, endV] <;> rfl) ?_)
      iterate 2 (refine Run.o ?_)
      refine Run.nil ?_
      refine Exec.reg ?_
      iterate 2 (refine Run.o1 (by simp only [go_sem, g1, hst, Bool.not_true, htl, hrt, htl, hbt, htl, hpt, g2, g3, hrot, List.map_cons, hRl, eq_self, if_true, endV] <;> rfl) ?_)
      refine Run.c1 (c_du s hsm lo hi) (by simp only [go_sem, g1, hst, Bool.not_true, htl, hrt, htl, hbt, htl, hpt, g2, g3, hrot, List.map_cons, hRl, eq_self, if_true, endV] <;> rfl) (by simp only [go_sem, g1, hst, Bool.not_true, htl, hrt, htl, hbt, htl, hpt, g2, g3, hrot, List.map_cons, hRl, eq_self, if_true, endV] <;> rfl) ?_
      refine Run.o ?_
      iterate 2 (refine Run.o1 (by simp only [go_sem, g1, hst, Bool.not_true, htl, hrt, htl, hbt, htl, hpt, g2, g3, hrot, List.map_cons, hRl, eq_self, if_true, endV] <;> rfl) ?_)
      iterate 2 (refine Run.o ?_)
      refine Run.nil ?_
      refine Exec.reg ?_
      iterate 2 (refine Run.o1 (by simp only [go_sem, g1, hst, Bool.not_true, htl, hrt, htl, hbt, htl, hpt, g2, g3, hrot, List.map_cons, hRl, eq_self, if_true, endV] <;> rfl) ?_)
      refine Run.c1 (hD2) (by simp only [go_sem, g1, hst, Bool.not_true, htl, hrt, htl, hbt, htl, hpt, g2, g3, hrot, List.map_cons, hRl, eq_self, if_true, endV] <;> rfl) (by simp only [go_sem, g1, hst, Bool.not_true, htl, hrt, htl, hbt, htl, hpt, g2, g3, hrot, List.map_cons, hRl, eq_self, if_true, endV] <;> rfl) ?_
      refine Run.o ?_
      iterate 2 (refine Run.o1 (by simp only [go_sem, g1, hst, Bool.not_true, htl, hrt, htl, hbt, htl, hpt, g2, g3, hrot, List.map_cons, hRl, eq_self, if_true, endV] <;> rfl) ?_)
      iterate 2 (refine Run.o ?_)
      refine Run.nil ?_
      refine Exec.reg ?_
      iterate 2 (refine Run.o ?_)
      iterate 2 (refine Run.o1 (by simp only [go_sem, g1, hst, Bool.not_true, htl, hrt, htl, hbt, htl, hpt, g2, g3, hrot, List.map_cons, hRl, eq_self, if_true, endV] <;> rfl) ?_)
      iterate 2 (refine Run.y1 (by simp only [go_sem] <;> rfl) ?_)
      refine Run.y1 (by simp only [go_sem, g1, hst, Bool.not_true, htl, hrt, htl, hbt, htl, hpt, g2, g3, hrot, List.map_cons, hRl, eq_self, if_true, endV] <;> rfl) ?_
      iterate 2 (refine Run.o1 (by simp only [go_sem, g1, hst, Bool.not_true, htl, hrt, htl, hbt, htl, hpt, g2, g3, hrot, List.map_cons, hRl, eq_self, if_true, endV] <;> rfl) ?_)
      iterate 2 (refine Run.y1 (by simp only [go_sem] <;> rfl) ?_)
      refine Run.y1 (by simp only [go_sem, g1, hst, Bool.not_true, htl, hrt, htl, hbt, htl, hpt, g2, g3, hrot, List.map_cons, hRl, eq_self, if_true, endV] <;> rfl) ?_
      iterate 2 (refine Run.o1 (by simp only [go_sem, g1, hst, Bool.not_true, htl, hrt, htl, hbt, htl, hpt, g2, g3, hrot, List.map_cons, hRl, eq_self, if_true, endV] <;> rfl) ?_)
      iterate 2 (refine Run.y1 (by simp only [go_sem] <;> rfl) ?_)
      refine Run.calw (by simp only [go_sem] <;> rfl) (c_meterworksref07_Ints (countR s d).1 (countR s d).1 (cntR_len s d) (cntR_len s d)) (by simp only [go_sem]) (by simp only [go_sem, g1, hst, Bool.not_true, htl, hrt, htl, hbt, htl, hpt, g2, g3, hrot, List.map_cons, hRl, eq_self, if_true, endV] <;> rfl) (by simp only [go_sem, g1, hst, Bool.not_true, htl, hrt, htl, hbt, htl, hpt, g2, g3, hrot, List.map_cons, hRl, eq_self, if_true, endV] <;> rfl) (by exact ⟨by first | exact WkR.pure rfl | exact WkR.nil _ | exact WkR.int (by first | omega | (simp; done) | (simp; omega)), by first | exact WkR.pure rfl | exact WkR.nil _ | exact WkR.int (by first | omega | (simp; done) | (simp; omega)), trivial⟩) (fr0) (by simp only [go_sem, g1, hst, Bool.not_true, htl, hrt, htl, hbt, htl, hpt, g2, g3, hrot, List.map_cons, hRl, eq_self, if_true, endV] <;> rfl) ?_
      iterate 2 (refine Run.o1 (by simp only [go_sem, g1, hst, Bool.not_true, htl, hrt, htl, hbt, htl, hpt, g2, g3, hrot, List.map_cons, hRl, eq_self, if_true, endV] <;> rfl) ?_)
      iterate 2 (refine Run.y1 (by simp only [go_sem] <;> rfl) ?_)
      refine Run.y1 (by simp only [go_sem, g1, hst, Bool.not_true, htl, hrt, htl, hbt, htl, hpt, g2, g3, hrot, List.map_cons, hRl, eq_self, if_true, endV] <;> rfl) ?_
      iterate 2 (refine Run.o1 (by simp only [go_sem, g1, hst, Bool.not_true, htl, hrt, htl, hbt, htl, hpt, g2, g3, hrot, List.map_cons, hRl, eq_self, if_true, endV] <;> rfl) ?_)
      iterate 2 (refine Run.y1 (by simp only [go_sem] <;> rfl) ?_)
      refine Run.calw (by simp only [go_sem] <;> rfl) (c_meterworksref07_Ints (dueR s lo hi).1 (dueR s lo hi).1 (dueR_len s hsm lo hi) (dueR_len s hsm lo hi)) (by simp only [go_sem]) (by simp only [go_sem, g1, hst, Bool.not_true, htl, hrt, htl, hbt, htl, hpt, g2, g3, hrot, List.map_cons, hRl, eq_self, if_true, endV] <;> rfl) (by simp only [go_sem, g1, hst, Bool.not_true, htl, hrt, htl, hbt, htl, hpt, g2, g3, hrot, List.map_cons, hRl, eq_self, if_true, endV] <;> rfl) (by exact ⟨by first | exact WkR.pure rfl | exact WkR.nil _ | exact WkR.int (by first | omega | (simp; done) | (simp; omega)), by first | exact WkR.pure rfl | exact WkR.nil _ | exact WkR.int (by first | omega | (simp; done) | (simp; omega)), trivial⟩) (fr0) (by simp only [go_sem, g1, hst, Bool.not_true, htl, hrt, htl, hbt, htl, hpt, g2, g3, hrot, List.map_cons, hRl, eq_self, if_true, endV] <;> rfl) ?_
      iterate 2 (refine Run.o1 (by simp only [go_sem, g1, hst, Bool.not_true, htl, hrt, htl, hbt, htl, hpt, g2, g3, hrot, List.map_cons, hRl, eq_self, if_true, endV] <;> rfl) ?_)
      iterate 2 (refine Run.y1 (by simp only [go_sem] <;> rfl) ?_)
      refine Run.y1 (by simp only [go_sem, g1, hst, Bool.not_true, htl, hrt, htl, hbt, htl, hpt, g2, g3, hrot, List.map_cons, hRl, eq_self, if_true, endV] <;> rfl) ?_
      iterate 2 (refine Run.o1 (by simp only [go_sem, g1, hst, Bool.not_true, htl, hrt, htl, hbt, htl, hpt, g2, g3, hrot, List.map_cons, hRl, eq_self, if_true, endV] <;> rfl) ?_)
      refine Run.calw (by simp only [go_sem] <;> rfl) (c_law_awake) (by simp only [go_sem]) (by simp only [go_sem, g1, hst, Bool.not_true, htl, hrt, htl, hbt, htl, hpt, g2, g3, hrot, List.map_cons, hRl, eq_self, if_true, endV] <;> rfl) (by simp only [go_sem, g1, hst, Bool.not_true, htl, hrt, htl, hbt, htl, hpt, g2, g3, hrot, List.map_cons, hRl, eq_self, if_true, endV] <;> rfl) (by exact trivial) (fr0) (by simp only [go_sem, g1, hst, Bool.not_true, htl, hrt, htl, hbt, htl, hpt, g2, g3, hrot, List.map_cons, hRl, eq_self, if_true, endV] <;> rfl) ?_
      refine Run.o1 (by simp only [go_sem, g1, hst, Bool.not_true, htl, hrt, htl, hbt, htl, hpt, g2, g3, hrot, List.map_cons, hRl, eq_self, if_true, endV] <;> rfl) ?_
      refine Run.o ?_
      refine Run.nil ?_
      exact Ends.fin [] (rs := [.tmp 10]) rfl (by simp only [go_sem, g1, hst, Bool.not_true, htl, hrt, htl, hbt, htl, hpt, g2, g3, hrot, List.map_cons, hRl, eq_self, if_true, endV] <;> rfl) (by simp only [go_sem, g1, hst, Bool.not_true, htl, hrt, htl, hbt, htl, hpt, g2, g3, hrot, List.map_cons, hRl, eq_self, if_true, endV] <;> first | rfl | ((repeat' (first | with_reducible_and_instances rfl | refine st_eq ?_ ?_ ?_ | refine ret_eq ?_ | refine tup_eq ?_ | refine tm_eq ?_ ?_ | refine arr_eq ?_ | refine cells_eq ?_ | refine val_eq ?_ | refine ls_eq ?_ ?_ | refine own_eq ?_ ?_ | refine sl_eq ?_ | refine b_eq ?_ | (refine i_eq ?_; omega))); done))
    have g2 : (decide ((s.rs.length : Int) > 0) && decide ((s.rs.length : Int) < 24)) = false := by
      rw [← Bool.not_eq_true, Bool.and_eq_true, decide_eq_true_eq, decide_eq_true_eq]; omega
    have hfz : List.take s.rs.length ((rot s.rs t).map encSl) = (rot s.rs t).map encSl := hrt2
    have hfzl : ((rot s.rs t).map encSl).length = s.rs.length := hrm
    have hRl3 := hrm3
    have hrotx := hrm3
    refine Exec.opk 25 ?_
    iterate 5 (refine OpenK.o1 (by simp only [go_sem, g1, hst, Bool.not_true, htl, hrt, htl, hbt, htl, hpt, g2, hrm3, eq_self, if_true] <;> rfl) ?_)
    iterate 4 (refine OpenK.gop (by simp only [go_sem] <;> rfl) (by simp only [go_sem, g1, hst, Bool.not_true, htl, hrt, htl, hbt, htl, hpt, g2, hrm3, eq_self, if_true] <;> rfl) (by simp only [go_sem] <;> rfl) ?_)
    iterate 2 (refine OpenK.o1 (by simp only [go_sem, g1, hst, Bool.not_true, htl, hrt, htl, hbt, htl, hpt, g2, hrm3, eq_self, if_true] <;> rfl) ?_)
    iterate 11 (refine OpenK.s ?_)
    refine OpenK.o1 (by simp only [go_sem, g1, hst, Bool.not_true, htl, hrt, htl, hbt, htl, hpt, g2, hrm3, eq_self, if_true] <;> rfl) ?_
    refine OpenK.nil (OpenE.finT (by kernel_rfl) (by kernel_rfl) (by kernel_rfl) ?_)
    refine Exec.cndS (by simp only [go_sem, g1, hst, Bool.not_true, htl, hrt, htl, hbt, htl, hpt, g2, hrm3, eq_self, if_true] <;> rfl) (fun hb182 => ?_) (fun hb182 => ?_)
    · exact absurd hb182 (by simp)
    obtain ⟨hE2, hC2, hD2⟩ := ord_calls (val_small v1) (s := s) (y := y) (d := d) (lo := lo) (hi := hi) hsame
    refine Exec.skipS ?_
    refine Exec.reg ?_
    refine Run.frz 1001 (by simp only [go_sem, hrotx, encSl, List.map_cons, Int.toNat_zero, List.set_cons_zero, List.cons_append, List.drop_zero, hfz, hfzl, hrm3, hRl3, eq_self, if_true] <;> rfl) ?_
    refine Run.o1 (by simp only [go_sem, g1, hst, Bool.not_true, htl, hrt, htl, hbt, htl, hpt, g2, hrm3, eq_self, if_true, endV] <;> rfl) ?_
    refine Run.o ?_
    refine Run.c1 (c_term_End s hsm y) (by simp only [go_sem, g1, hst, Bool.not_true, htl, hrt, htl, hbt, htl, hpt, g2, hrm3, eq_self, if_true, endV] <;> rfl) (by simp only [go_sem, g1, hst, Bool.not_true, htl, hrt, htl, hbt, htl, hpt, g2, hrm3, eq_self, if_true, endV] <;> rfl) ?_
    refine Run.o ?_
    iterate 3 (refine Run.o1 (by simp only [go_sem, g1, hst, Bool.not_true, htl, hrt, htl, hbt, htl, hpt, g2, hrm3, eq_self, if_true, endV] <;> rfl) ?_)
    iterate 3 (refine Run.o ?_)
    refine Run.nil ?_
    refine Exec.reg ?_
    refine Run.o1 (by simp only [go_sem, g1, hst, Bool.not_true, htl, hrt, htl, hbt, htl, hpt, g2, hrm3, eq_self, if_true, endV] <;> rfl) ?_
    refine Run.o ?_
    refine Run.c1 (hE2) (by simp only [go_sem, g1, hst, Bool.not_true, htl, hrt, htl, hbt, htl, hpt, g2, hrm3, eq_self, if_true, endV] <;> rfl) (by simp only [go_sem, g1, hst, Bool.not_true, htl, hrt, htl, hbt, htl, hpt, g2, hrm3, eq_self, if_true, endV] <;> rfl) ?_
    refine Run.o ?_
    iterate 3 (refine Run.o1 (by simp only [go_sem, g1, hst, Bool.not_true, htl, hrt, htl, hbt, htl, hpt, g2, hrm3, eq_self, if_true, endV] <;> rfl) ?_)
    iterate 3 (refine Run.o ?_)
    refine Run.nil ?_
    refine Exec.reg ?_
    refine Run.o1 (by simp only [go_sem, g1, hst, Bool.not_true, htl, hrt, htl, hbt, htl, hpt, g2, hrm3, eq_self, if_true, endV] <;> rfl) ?_
    refine Run.o ?_
    refine Run.c1 (c_cnt s hsm d) (by simp only [go_sem, g1, hst, Bool.not_true, htl, hrt, htl, hbt, htl, hpt, g2, hrm3, eq_self, if_true, endV] <;> rfl) (by simp only [go_sem, g1, hst, Bool.not_true, htl, hrt, htl, hbt, htl, hpt, g2, hrm3, eq_self, if_true, endV] <;> rfl) ?_
    refine Run.o ?_
    iterate 2 (refine Run.o1 (by simp only [go_sem, g1, hst, Bool.not_true, htl, hrt, htl, hbt, htl, hpt, g2, hrm3, eq_self, if_true, endV] <;> rfl) ?_)
    iterate 2 (refine Run.o ?_)
    refine Run.nil ?_
    refine Exec.reg ?_
    refine Run.o1 (by simp only [go_sem, g1, hst, Bool.not_true, htl, hrt, htl, hbt, htl, hpt, g2, hrm3, eq_self, if_true, endV] <;> rfl) ?_
    refine Run.o ?_
    refine Run.c1 (hC2) (by simp only [go_sem, g1, hst, Bool.not_true, htl, hrt, htl, hbt, htl, hpt, g2, hrm3, eq_self, if_true, endV] <;> rfl) (by simp only [go_sem, g1, hst, Bool.not_true, htl, hrt, htl, hbt, htl, hpt, g2, hrm3, eq_self, if_true, endV] <;> rfl) ?_
    refine Run.o ?_
    iterate 2 (refine Run.o1 (by simp only [go_sem, g1, hst, Bool.not_true, htl, hrt, htl, hbt, htl, hpt, g2, hrm3, eq_self, if_true, endV] <;> rfl) ?_)
    iterate 2 (refine Run.o ?_)
    refine Run.nil ?_
    refine Exec.reg ?_
    iterate 2 (refine Run.o1 (by simp only [go_sem, g1, hst, Bool.not_true, htl, hrt, htl, hbt, htl, hpt, g2, hrm3, eq_self, if_true, endV] <;> rfl) ?_)
    refine Run.c1 (c_du s hsm lo hi) (by simp only [go_sem, g1, hst, Bool.not_true, htl, hrt, htl, hbt, htl, hpt, g2, hrm3, eq_self, if_true, endV] <;> rfl) (by simp only [go_sem, g1, hst, Bool.not_true, htl, hrt, htl, hbt, htl, hpt, g2, hrm3, eq_self, if_true, endV] <;> rfl) ?_
    refine Run.o ?_
    iterate 2 (refine Run.o1 (by simp only [go_sem, g1, hst, Bool.not_true, htl, hrt, htl, hbt, htl, hpt, g2, hrm3, eq_self, if_true, endV] <;> rfl) ?_)
    iterate 2 (refine Run.o ?_)
    refine Run.nil ?_
    refine Exec.reg ?_
    iterate 2 (refine Run.o1 (by simp only [go_sem, g1, hst, Bool.not_true, htl, hrt, htl, hbt, htl, hpt, g2, hrm3, eq_self, if_true, endV] <;> rfl) ?_)
    refine Run.c1 (hD2) (by simp only [go_sem, g1, hst, Bool.not_true, htl, hrt, htl, hbt, htl, hpt, g2, hrm3, eq_self, if_true, endV] <;> rfl) (by simp only [go_sem, g1, hst, Bool.not_true, htl, hrt, htl, hbt, htl, hpt, g2, hrm3, eq_self, if_true, endV] <;> rfl) ?_
    refine Run.o ?_
    iterate 2 (refine Run.o1 (by simp only [go_sem, g1, hst, Bool.not_true, htl, hrt, htl, hbt, htl, hpt, g2, hrm3, eq_self, if_true, endV] <;> rfl) ?_)
    iterate 2 (refine Run.o ?_)
    refine Run.nil ?_
    refine Exec.reg ?_
    iterate 2 (refine Run.o ?_)
    iterate 2 (refine Run.o1 (by simp only [go_sem, g1, hst, Bool.not_true, htl, hrt, htl, hbt, htl, hpt, g2, hrm3, eq_self, if_true, endV] <;> rfl) ?_)
    iterate 2 (refine Run.y1 (by simp only [go_sem] <;> rfl) ?_)
    refine Run.y1 (by simp only [go_sem, g1, hst, Bool.not_true, htl, hrt, htl, hbt, htl, hpt, g2, hrm3, eq_self, if_true, endV] <;> rfl) ?_
    iterate 2 (refine Run.o1 (by simp only [go_sem, g1, hst, Bool.not_true, htl, hrt, htl, hbt, htl, hpt, g2, hrm3, eq_self, if_true, endV] <;> rfl) ?_)
    iterate 2 (refine Run.y1 (by simp only [go_sem] <;> rfl) ?_)
    refine Run.y1 (by simp only [go_sem, g1, hst, Bool.not_true, htl, hrt, htl, hbt, htl, hpt, g2, hrm3, eq_self, if_true, endV] <;> rfl) ?_
    iterate 2 (refine Run.o1 (by simp only [go_sem, g1, hst, Bool.not_true, htl, hrt, htl, hbt, htl, hpt, g2, hrm3, eq_self, if_true, endV] <;> rfl) ?_)
    iterate 2 (refine Run.y1 (by simp only [go_sem] <;> rfl) ?_)
    refine Run.calw (by simp only [go_sem] <;> rfl) (c_meterworksref07_Ints (countR s d).1 (countR s d).1 (cntR_len s d) (cntR_len s d)) (by simp only [go_sem]) (by simp only [go_sem, g1, hst, Bool.not_true, htl, hrt, htl, hbt, htl, hpt, g2, hrm3, eq_self, if_true, endV] <;> rfl) (by simp only [go_sem, g1, hst, Bool.not_true, htl, hrt, htl, hbt, htl, hpt, g2, hrm3, eq_self, if_true, endV] <;> rfl) (by exact ⟨by first | exact WkR.pure rfl | exact WkR.nil _ | exact WkR.int (by first | omega | (simp; done) | (simp; omega)), by first | exact WkR.pure rfl | exact WkR.nil _ | exact WkR.int (by first | omega | (simp; done) | (simp; omega)), trivial⟩) (fr0) (by simp only [go_sem, g1, hst, Bool.not_true, htl, hrt, htl, hbt, htl, hpt, g2, hrm3, eq_self, if_true, endV] <;> rfl) ?_
    iterate 2 (refine Run.o1 (by simp only [go_sem, g1, hst, Bool.not_true, htl, hrt, htl, hbt, htl, hpt, g2, hrm3, eq_self, if_true, endV] <;> rfl) ?_)
    iterate 2 (refine Run.y1 (by simp only [go_sem] <;> rfl) ?_)
    refine Run.y1 (by simp only [go_sem, g1, hst, Bool.not_true, htl, hrt, htl, hbt, htl, hpt, g2, hrm3, eq_self, if_true, endV] <;> rfl) ?_
    iterate 2 (refine Run.o1 (by simp only [go_sem, g1, hst, Bool.not_true, htl, hrt, htl, hbt, htl, hpt, g2, hrm3, eq_self, if_true, endV] <;> rfl) ?_)
    iterate 2 (refine Run.y1 (by simp only [go_sem] <;> rfl) ?_)
    refine Run.calw (by simp only [go_sem] <;> rfl) (c_meterworksref07_Ints (dueR s lo hi).1 (dueR s lo hi).1 (dueR_len s hsm lo hi) (dueR_len s hsm lo hi)) (by simp only [go_sem]) (by simp only [go_sem, g1, hst, Bool.not_true, htl, hrt, htl, hbt, htl, hpt, g2, hrm3, eq_self, if_true, endV] <;> rfl) (by simp only [go_sem, g1, hst, Bool.not_true, htl, hrt, htl, hbt, htl, hpt, g2, hrm3, eq_self, if_true, endV] <;> rfl) (by exact ⟨by first | exact WkR.pure rfl | exact WkR.nil _ | exact WkR.int (by first | omega | (simp; done) | (simp; omega)), by first | exact WkR.pure rfl | exact WkR.nil _ | exact WkR.int (by first | omega | (simp; done) | (simp; omega)), trivial⟩) (fr0) (by simp only [go_sem, g1, hst, Bool.not_true, htl, hrt, htl, hbt, htl, hpt, g2, hrm3, eq_self, if_true, endV] <;> rfl) ?_
    iterate 2 (refine Run.o1 (by simp only [go_sem, g1, hst, Bool.not_true, htl, hrt, htl, hbt, htl, hpt, g2, hrm3, eq_self, if_true, endV] <;> rfl) ?_)
    iterate 2 (refine Run.y1 (by simp only [go_sem] <;> rfl) ?_)
    refine Run.y1 (by simp only [go_sem, g1, hst, Bool.not_true, htl, hrt, htl, hbt, htl, hpt, g2, hrm3, eq_self, if_true, endV] <;> rfl) ?_
    iterate 2 (refine Run.o1 (by simp only [go_sem, g1, hst, Bool.not_true, htl, hrt, htl, hbt, htl, hpt, g2, hrm3, eq_self, if_true, endV] <;> rfl) ?_)
    refine Run.calw (by simp only [go_sem] <;> rfl) (c_law_awake) (by simp only [go_sem]) (by simp only [go_sem, g1, hst, Bool.not_true, htl, hrt, htl, hbt, htl, hpt, g2, hrm3, eq_self, if_true, endV] <;> rfl) (by simp only [go_sem, g1, hst, Bool.not_true, htl, hrt, htl, hbt, htl, hpt, g2, hrm3, eq_self, if_true, endV] <;> rfl) (by exact trivial) (fr0) (by simp only [go_sem, g1, hst, Bool.not_true, htl, hrt, htl, hbt, htl, hpt, g2, hrm3, eq_self, if_true, endV] <;> rfl) ?_
    refine Run.o1 (by simp only [go_sem, g1, hst, Bool.not_true, htl, hrt, htl, hbt, htl, hpt, g2, hrm3, eq_self, if_true, endV] <;> rfl) ?_
    refine Run.o ?_
    refine Run.nil ?_
    exact Ends.fin [] (rs := [.tmp 10]) rfl (by simp only [go_sem, g1, hst, Bool.not_true, htl, hrt, htl, hbt, htl, hpt, g2, hrm3, eq_self, if_true, endV] <;> rfl) (by simp only [go_sem, g1, hst, Bool.not_true, htl, hrt, htl, hbt, htl, hpt, g2, hrm3, eq_self, if_true, endV] <;> first | rfl | ((repeat' (first | with_reducible_and_instances rfl | refine st_eq ?_ ?_ ?_ | refine ret_eq ?_ | refine tup_eq ?_ | refine tm_eq ?_ ?_ | refine arr_eq ?_ | refine cells_eq ?_ | refine val_eq ?_ | refine ls_eq ?_ ?_ | refine own_eq ?_ ?_ | refine sl_eq ?_ | refine b_eq ?_ | (refine i_eq ?_; omega))); done))
  have g1 : ((termsR s).2.2 != 0) = true := by simpa using hok
  refine Exec.reg ?_
  iterate 3 (refine Run.o1 (by simp only [go_sem, g1] <;> rfl) ?_)
  iterate 3 (refine Run.s ?_)
  refine Run.o1 (by simp only [go_sem, g1] <;> rfl) ?_
  refine Run.nil ?_
  refine Exec.cndS (by simp only [go_sem, g1] <;> rfl) (fun hb49 => ?_) (fun hb49 => ?_)
  · skip
    refine Exec.assocS ?_
    refine Exec.reg ?_
    refine Run.o ?_
    iterate 2 (refine Run.o1 (by simp only [go_sem, g1] <;> rfl) ?_)
    iterate 2 (refine Run.s ?_)
    iterate 2 (refine Run.o1 (by simp only [go_sem, g1] <;> rfl) ?_)
    refine Run.calw (by simp only [go_sem] <;> rfl) (c_law_awake) (by simp only [go_sem]) (by simp only [go_sem, g1] <;> rfl) (by simp only [go_sem, g1] <;> rfl) (by exact trivial) (fr0) (by simp only [go_sem, g1] <;> rfl) ?_
    refine Run.o1 (by simp only [go_sem, g1] <;> rfl) ?_
    refine Run.o ?_
    refine Run.nil ?_
    refine Exec.retS ?_
    exact Ends.fin [] (rs := [.tmp 10]) rfl (by simp only [go_sem, g1] <;> rfl) (by simp only [go_sem, g1] <;> first | rfl | ((repeat' (first | with_reducible_and_instances rfl | refine st_eq ?_ ?_ ?_ | refine ret_eq ?_ | refine tup_eq ?_ | refine tm_eq ?_ ?_ | refine arr_eq ?_ | refine cells_eq ?_ | refine val_eq ?_ | refine ls_eq ?_ ?_ | refine own_eq ?_ ?_ | refine sl_eq ?_ | refine b_eq ?_ | (refine i_eq ?_; omega))); done))
  · exact absurd hb49 (by simp)

end Go.Mw
namespace Go.Proofs.Ytkekecfocnidpaa
open Go.Mw Go.ChangeShapes Go.WideShapes Go.ChangeAt Go.RowKit

theorem own : ownKnob Try.prog.godebug = none := by kernel_rfl
theorem laidOut : laidOutB Try.prog = true := by kernel_rfl
set_option maxRecDepth 100000 in
theorem lifted (os : Os) (started : os.Started) (H : Type) (enc : TypeId × Value → H) :
    ReturnsInHanded {} Try.checked os 6 .any (Rows.termOrderSpec.pre6 enc Try.prog Try.f6 Rows.termOrderRow.domain false) (Rows.termOrderSpec.post enc Try.prog Try.f6 false true false false) := by
  refine returnsInHanded_of_change (C := Try.checked) own started (by kernel_rfl) Try.func6
    (ChangeSpec.witness6 (enc := enc) (C := Try.checked) false ⟨#[], #[.agg #[.slice none 0 0, .slice none 0 0, .slice none 0 0, .slice none 0 0], .int .i64 0, .int .i64 0, .agg #[.int .i64 0, .int .i64 0], .int .u8 0], []⟩ 8 (by kernel_rfl) (by kernel_rfl) (by kernel_rfl) (by kernel_rfl)) ?_
  intro W base args ds gs before hval0 hW hcnd _
  have hval : ∀ (j : Nat) t v, Try.f6.params[j]? = some t → args[j]? = some v → Value.okWide Try.prog W .any base t v := hval0
  have hW' := hW
  obtain ⟨p, q, hA0, hV, rfl, hfz, hnd⟩ := hW
  have hA : DataW.TrodAll enc Try.prog W 0 (fun _ => true) true Try.f6.params.toList args.toList ds p := hA0
  rw [Try.params6] at hA hval
  obtain ⟨v0, v1, v2, v3, v4, d0, d1, d2, d3, d4, p0, p1, p2, p3, p4, rfl, rfl, rfl, h0, h1, h2, h3, h4⟩ := trodAll_five hA
  obtain ⟨rfl, rfl⟩ := trodVars_none hV
  obtain ⟨x0, hx0⟩ := stk_read (hval 0 27 v0 rfl rfl) h0
  obtain ⟨x1, hb1, hx1⟩ := int_read (k := .i64) (P := Try.prog) (by kernel_rfl) (hval 1 3 v1 rfl rfl) h1
  obtain ⟨x2, hb2, hx2⟩ := int_read (k := .i64) (P := Try.prog) (by kernel_rfl) (hval 2 3 v2 rfl rfl) h2
  obtain ⟨x3, hx3⟩ := span_read (hval 3 29 v3 rfl rfl) h3
  obtain ⟨x4, hb4, hx4⟩ := u8_read (P := Try.prog) (by kernel_rfl) (hval 4 5 v4 rfl rfl) h4
  refine (row_con (c_law_TermOrder x0 x1 x2 x3.1 x3.2 x4 (by omega)) W [v0, v1, v2, v3, v4] ⟨hx0, hx1, hx2, hx3, hx4, trivial⟩).mono fun e W' ⟨he, hb⟩ => ?_
  exact ⟨_, he, post_below (tb := 4) hW' hb rfl rfl rfl (by kernel_rfl) laidOut (by decide +kernel)⟩
theorem holds : Rows.TermOrderSaid :=
  OpenClaim.holds_of_wide 6 Try.f6 rfl rfl rfl rfl rfl rfl rfl ⟨rfl, rfl, rfl, rfl, rfl⟩ rfl rfl rfl rfl rfl (by kernel_rfl) Try.func6 (by kernel_rfl)
    (of_decide_eq_true (by kernel_rfl)) (by unfold Func.isWrapper; first | (rw [if_pos (by decide +kernel)]; kernel_rfl) | (rw [if_neg (by decide +kernel)]; exact ⟨rfl, rfl⟩))
    (fun os started H enc _ => lifted os started H enc)
end Go.Proofs.Ytkekecfocnidpaa
#print axioms Go.Proofs.Ytkekecfocnidpaa.holds

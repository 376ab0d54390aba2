/- The statements about the card. -/
import Derived.Test.YtfmdonllhchdpaaB10
import Derived.Test.YtfmdonllhchdpaaB4
import Derived.Test.YtfmdonllhchdpaaB3
set_option linter.unusedSimpArgs false
set_option linter.unusedVariables false
set_option linter.unusedSectionVars false
set_option linter.deprecated false
namespace Go.Mw
open Go.Proofs
theorem great_no {w : Walk} {n : Int} (h : greatB w n = false) : (w.rates.length ≤ 14 ∧ w.readings.length ≤ 32) ∧ ((w.readings.length : Int) ≤ n ∨ 24 < w.readings.length) := by
  unfold greatB at h
  simp only [Bool.or_eq_false_iff, Bool.and_eq_false_iff, decide_eq_false_iff_not] at h
  omega
theorem h20_great {w : Walk} {n : Int} (h : greatB w n = false) (hn : n ≤ 30) : walkB w = true → ∀ h, (ofS w h).length ≤ 39 := fun hw => by
  have h1 := great_no h
  have h2 := walk_len hw
  exact h20_of (by omega)
end Go.Mw
namespace Go.Mw

def tkL (s : Span) (n : Int) : Int := if n < 0 then s.hi * n else s.lo * n
def tkH (s : Span) (n : Int) : Int := if n < 0 then s.lo * n else s.hi * n
def rtOk (s : Span) : Prop := 0 ≤ s.lo ∧ s.lo ≤ s.hi
theorem tk_neg (s : Span) (n : Int) : tkL s (-n) = - tkH s n := by
  unfold tkL tkH
  rcases Int.lt_trichotomy n 0 with h | h | h
  · rw [if_neg (by omega), if_pos h, Int.mul_neg]
  · subst h; simp
  · rw [if_pos (by omega), if_neg (by omega), Int.mul_neg]
theorem tk_neg2 (s : Span) (n : Int) : tkH s (-n) = - tkL s n := by
  have := tk_neg s (-n)
  rw [Int.neg_neg] at this
  omega
theorem tkL_sub {s : Span} (hs : rtOk s) (a b : Int) : tkL s a + tkL s b ≤ tkL s (a + b) := by
  obtain ⟨h1, h2⟩ := hs
  have key : ∀ n : Int, n ≤ 0 → s.hi * n ≤ s.lo * n := fun n hn => Int.mul_le_mul_of_nonpos_right h2 hn
  have key2 : ∀ n : Int, 0 ≤ n → s.lo * n ≤ s.hi * n := fun n hn => Int.mul_le_mul_of_nonneg_right h2 hn
  have e1 := Int.mul_add s.lo a b
  have e2 := Int.mul_add s.hi a b
  unfold tkL
  by_cases ha : a < 0 <;> by_cases hb : b < 0 <;> by_cases hab : a + b < 0
  · rw [if_pos ha, if_pos hb, if_pos hab]; omega
  · omega
  · rw [if_pos ha, if_neg hb, if_pos hab]; have := key2 b (by omega); omega
  · rw [if_pos ha, if_neg hb, if_neg hab]; have := key a (by omega); omega
  · rw [if_neg ha, if_pos hb, if_pos hab]; have := key2 a (by omega); omega
  · rw [if_neg ha, if_pos hb, if_neg hab]; have := key b (by omega); omega
  · omega
  · rw [if_neg ha, if_neg hb, if_neg hab]; omega
theorem tkH_sub {s : Span} (hs : rtOk s) (a b : Int) : tkH s (a + b) ≤ tkH s a + tkH s b := by
  have h := tkL_sub hs (-a) (-b)
  have e : -a + -b = -(a + b) := by omega
  rw [e, tk_neg, tk_neg, tk_neg] at h
  omega
theorem tk_step {s : Span} (hs : rtOk s) (n : Int) : (tkL s n + s.lo ≤ tkL s (n + 1) ∧ tkL s (n + 1) ≤ tkL s n + s.hi) ∧ (tkH s n + s.lo ≤ tkH s (n + 1) ∧ tkH s (n + 1) ≤ tkH s n + s.hi) := by
  obtain ⟨h1, h2⟩ := hs
  have e1 : s.lo * (n + 1) = s.lo * n + s.lo := by rw [Int.mul_add, Int.mul_one]
  have e2 : s.hi * (n + 1) = s.hi * n + s.hi := by rw [Int.mul_add, Int.mul_one]
  unfold tkL tkH
  by_cases ha : n < 0 <;> by_cases hb : n + 1 < 0
  · rw [if_pos ha, if_pos hb, if_pos ha, if_pos hb]; omega
  · have hn : n = -1 := by omega
    subst hn
    rw [if_pos ha, if_neg hb, if_pos ha, if_neg hb]
    simp only [show (-1 : Int) + 1 = 0 by decide, Int.mul_zero, Int.mul_neg, Int.mul_one] at *
    omega
  · omega
  · rw [if_neg ha, if_neg hb, if_neg ha, if_neg hb]; omega

/-- Do two readings of a house fit? -/
def fitP (s : Span) (a b : Reading) : Prop := tkL s (b.day - a.day) ≤ b.shows - a.shows ∧ b.shows - a.shows ≤ tkH s (b.day - a.day)
theorem fit_symm {s : Span} {a b : Reading} (h : fitP s a b) : fitP s b a := by
  unfold fitP at *
  have e : a.day - b.day = -(b.day - a.day) := by omega
  rw [e, tk_neg, tk_neg2]
  omega
theorem fit_refl (s : Span) (a : Reading) : fitP s a a := by
  unfold fitP tkL tkH
  simp
theorem fit_trans {s : Span} {a b c : Reading} (hab : a.day ≤ b.day) (hbc : b.day ≤ c.day) (h1 : fitP s a b) (h2 : fitP s b c) : fitP s a c := by
  unfold fitP tkL tkH at *
  have e : c.day - a.day = (b.day - a.day) + (c.day - b.day) := by omega
  rw [if_neg (by omega), if_neg (by omega)] at h1 h2
  rw [if_neg (by omega), if_neg (by omega), e, Int.mul_add, Int.mul_add]
  omega
theorem two_fit {s : Span} {a b : Reading} (h : a.day ≤ b.day) : twoB s a b = true ↔ fitP s a b := by
  unfold twoB fitP tkL tkH
  rw [if_neg (by omega), if_neg (by omega)]
  simp
theorem bad_none {w : Walk} {s : Span} : ∀ {l : List Nat}, badL w s l = none ↔ ∀ k a b, l[k]? = some a → l[k + 1]? = some b → twoB s (rd w a) (rd w b) = true
  | [] => by simp [badL]
  | [x] => by simp [badL]
  | x :: y :: r => by
    unfold badL
    constructor
    · intro h k a b ha hb
      split at h
      · rename_i ht
        cases k with
        | zero => simp at ha hb; subst ha hb; exact ht
        | succ k => exact (bad_none.1 h) k a b (by simpa using ha) (by simpa using hb)
      · cases h
    · intro h
      rw [if_pos (h 0 x y rfl rfl)]
      exact bad_none.2 fun k a b ha hb => h (k + 1) a b (by simpa using ha) (by simpa using hb)
theorem asc_ofS' (w : Walk) (h : Int) (i j a b : Nat) (hij : i ≤ j) (ha : (ofS w h)[i]? = some a) (hb : (ofS w h)[j]? = some b) : (rd w a).day ≤ (rd w b).day := by
  rcases Nat.lt_or_eq_of_le hij with h1 | rfl
  · exact asc_ofS w h i j a b h1 ha hb
  · rw [ha] at hb; cases hb; exact Int.le_refl _
theorem bad_iff {w : Walk} {h : Nat} : badS w h = none ↔ ∀ x y, x < w.readings.length → y < w.readings.length → (rd w x).house = h → (rd w y).house = h → fitP (rt w h) (rd w x) (rd w y) := by
  unfold badS
  rw [bad_none]
  constructor
  · intro hb
    have hc : ∀ (k i a b : Nat), (ofS w (h : Int))[i]? = some a → (ofS w (h : Int))[i + k]? = some b → fitP (rt w h) (rd w a) (rd w b) := by
      intro k
      induction k with
      | zero =>
        intro i a b ha hb2
        rw [Nat.add_zero, ha] at hb2
        cases hb2; exact fit_refl _ _
      | succ k ih =>
        intro i a b ha hb2
        have hlt := (List.getElem?_eq_some_iff.1 hb2).1
        obtain ⟨c, hcg⟩ : ∃ c, (ofS w (h : Int))[i + k]? = some c := ⟨_, List.getElem?_eq_getElem (by omega)⟩
        have h1 := ih i a c ha hcg
        have h2 := hb (i + k) c b hcg (by rw [show i + k + 1 = i + (k + 1) by omega]; exact hb2)
        rw [two_fit (asc_ofS w h (i + k) (i + (k + 1)) c b (by omega) hcg hb2)] at h2
        exact fit_trans (asc_ofS' w h i (i + k) a c (by omega) ha hcg) (asc_ofS w h (i + k) (i + (k + 1)) c b (by omega) hcg hb2) h1 h2
    intro x y hx hy hxh hyh
    obtain ⟨i, hi⟩ := List.getElem?_of_mem (mem_ofS.2 ⟨hx, hxh⟩)
    obtain ⟨j, hj⟩ := List.getElem?_of_mem (mem_ofS.2 ⟨hy, hyh⟩)
    rcases Nat.le_total i j with hij | hij
    · exact hc (j - i) i x y hi (by rw [show i + (j - i) = j by omega]; exact hj)
    · exact fit_symm (hc (i - j) j y x hj (by rw [show j + (i - j) = i by omega]; exact hi))
  · intro hp k a b ha hb
    have h1 := mem_ofS.1 (List.mem_of_getElem? ha)
    have h2 := mem_ofS.1 (List.mem_of_getElem? hb)
    rw [two_fit (asc_ofS w h k (k + 1) a b (by omega) ha hb)]
    exact hp a b h1.1 h2.1 h1.2 h2.2
theorem rtOk_of {w : Walk} (hw : walkB w = true) {h : Nat} (hh : h < w.rates.length) : rtOk (rt w h) := by
  have := rate_ok hw hh
  exact ⟨this.1, this.2.1⟩
theorem fits_pairs {w : Walk} : fitsS w = true ↔ ∀ (h : Nat) x y, h < w.rates.length → x < w.readings.length → y < w.readings.length → (rd w x).house = h → (rd w y).house = h → fitP (rt w h) (rd w x) (rd w y) := by
  rw [fits_iff]
  constructor
  · intro hf h x y hh hx hy hxh hyh
    exact bad_iff.1 (hf h hh) x y hx hy hxh hyh
  · intro hf h hh
    exact bad_iff.2 fun x y hx hy hxh hyh => hf h x y hh hx hy hxh hyh

/-- What one reading says of another day. -/
theorem xSpan_eq (w : Walk) (s : Span) (day : Int) (i : Nat) : xSpan w s day i = ⟨(rd w i).shows + tkL s (day - (rd w i).day), (rd w i).shows + tkH s (day - (rd w i).day)⟩ := by
  unfold xSpan tkL tkH
  split <;> rfl
theorem shF_le {w : Walk} {s : Span} {day : Int} {l : List Nat} : ∀ {k : Nat}, 0 < k → k ≤ l.length → ∀ n, (shF w s day l k).lo ≤ n ↔ ∀ j i, j < k → l[j]? = some i → (xSpan w s day i).lo ≤ n := by
  intro k hk hkl n
  induction k with
  | zero => omega
  | succ k ih =>
    obtain ⟨i, hi⟩ : ∃ i, l[k]? = some i := ⟨_, List.getElem?_eq_getElem (by omega)⟩
    rw [shF_succ hi]
    by_cases h0 : k = 0
    · subst h0
      rw [if_pos rfl]
      simp only [Int.max_self]
      constructor
      · intro h j i' hj hi'
        have : j = 0 := by omega
        subst this
        rw [hi] at hi'; cases hi'; exact h
      · intro h; exact h 0 i (by omega) hi
    · rw [if_neg h0]
      simp only [Int.max_le]
      rw [ih (by omega) (by omega)]
      constructor
      · rintro ⟨h1, h2⟩ j i' hj hi'
        by_cases hjk : j < k
        · exact h1 j i' hjk hi'
        · have : j = k := by omega
          subst this
          rw [hi] at hi'; cases hi'; exact h2
      · intro h
        exact ⟨fun j i' hj hi' => h j i' (by omega) hi', h k i (by omega) hi⟩
theorem shF_ge {w : Walk} {s : Span} {day : Int} {l : List Nat} : ∀ {k : Nat}, 0 < k → k ≤ l.length → ∀ n, n ≤ (shF w s day l k).hi ↔ ∀ j i, j < k → l[j]? = some i → n ≤ (xSpan w s day i).hi := by
  intro k hk hkl n
  induction k with
  | zero => omega
  | succ k ih =>
    obtain ⟨i, hi⟩ : ∃ i, l[k]? = some i := ⟨_, List.getElem?_eq_getElem (by omega)⟩
    rw [shF_succ hi]
    by_cases h0 : k = 0
    · subst h0
      rw [if_pos rfl]
      simp only [Int.min_self]
      constructor
      · intro h j i' hj hi'
        have : j = 0 := by omega
        subst this
        rw [hi] at hi'; cases hi'; exact h
      · intro h; exact h 0 i (by omega) hi
    · rw [if_neg h0]
      simp only [Int.le_min]
      rw [ih (by omega) (by omega)]
      constructor
      · rintro ⟨h1, h2⟩ j i' hj hi'
        by_cases hjk : j < k
        · exact h1 j i' hjk hi'
        · have : j = k := by omega
          subst this
          rw [hi] at hi'; cases hi'; exact h2
      · intro h
        exact ⟨fun j i' hj hi' => h j i' (by omega) hi', h k i (by omega) hi⟩
/-- When there is something to show. -/
theorem shows_ok {w : Walk} {house day : Int} (h : (showsR w house day).2 = 0) : walkB w = true ∧ (0 ≤ house ∧ house < w.rates.length) ∧ (0 ≤ day ∧ day ≤ 131072) ∧ ofS w house ≠ [] ∧ badS w house.toNat = none ∧
    (showsR w house day).1 = shF w (rt w house.toNat) day (ofS w house) (ofS w house).length := by
  unfold showsR at h ⊢
  split at h
  · simp at h
  · rename_i h1
    rw [if_neg h1]
    split at h
    · simp at h
    · rename_i h2
      rw [if_neg h2]
      split at h
      · simp at h
      · rename_i h3
        rw [if_neg h3]
        split at h
        · simp at h
        · rename_i h4
          rw [if_neg h4]
          have h2' : ¬ inB house 0 ((w.rates.length : Int) - 1) = false ∧ ¬ inB day 0 131072 = false := ⟨fun e => h2 (.inl e), fun e => h2 (.inr e)⟩
          have a1 := inB_iff.1 (by simpa using h2'.1 : inB house 0 ((w.rates.length : Int) - 1) = true)
          have a2 := inB_iff.1 (by simpa using h2'.2 : inB day 0 131072 = true)
          exact ⟨by simpa using h1, ⟨a1.1, by omega⟩, a2, h3, by cases hb : badS w house.toNat <;> simp_all, rfl⟩
/-- What can be shown: just what fits each reading of the house. -/
theorem shows_iff {w : Walk} {house day : Int} (h : (showsR w house day).2 = 0) (n : Int) : ((showsR w house day).1.lo ≤ n ↔ ∀ i, i < w.readings.length → (rd w i).house = house → (rd w i).shows + tkL (rt w house.toNat) (day - (rd w i).day) ≤ n) ∧
    (n ≤ (showsR w house day).1.hi ↔ ∀ i, i < w.readings.length → (rd w i).house = house → n ≤ (rd w i).shows + tkH (rt w house.toNat) (day - (rd w i).day)) := by
  obtain ⟨_, _, _, hne, _, e⟩ := shows_ok h
  have hl := List.length_pos_iff.2 hne
  rw [e, shF_le hl (Nat.le_refl _), shF_ge hl (Nat.le_refl _)]
  simp only [xSpan_eq]
  constructor
  · constructor
    · intro h1 i hi hh
      obtain ⟨j, hj⟩ := List.getElem?_of_mem (mem_ofS.2 ⟨hi, hh⟩)
      exact h1 j i (List.getElem?_eq_some_iff.1 hj).1 hj
    · intro h1 j i _ hi
      have := mem_ofS.1 (List.mem_of_getElem? hi)
      exact h1 i this.1 this.2
  · constructor
    · intro h1 i hi hh
      obtain ⟨j, hj⟩ := List.getElem?_of_mem (mem_ofS.2 ⟨hi, hh⟩)
      exact h1 j i (List.getElem?_eq_some_iff.1 hj).1 hj
    · intro h1 j i _ hi
      have := mem_ofS.1 (List.mem_of_getElem? hi)
      exact h1 i this.1 this.2
end Go.Mw
namespace Go.Mw

theorem shows_pair {w : Walk} {house day : Int} (h : (showsR w house day).2 = 0) : ∀ i j, i < w.readings.length → j < w.readings.length → (rd w i).house = house → (rd w j).house = house → fitP (rt w house.toNat) (rd w i) (rd w j) := by
  obtain ⟨hw, hh, _, _, hb, _⟩ := shows_ok h
  intro i j hi hj hih hjh
  exact bad_iff.1 hb i j hi hj (by omega) (by omega)
theorem shows_rt {w : Walk} {house day : Int} (h : (showsR w house day).2 = 0) : rtOk (rt w house.toNat) := by
  obtain ⟨hw, hh, _⟩ := shows_ok h
  exact rtOk_of hw (by omega)
theorem shows_le {w : Walk} {house day : Int} (h : (showsR w house day).2 = 0) : (showsR w house day).1.lo ≤ (showsR w house day).1.hi := by
  have hs := shows_rt h
  rw [(shows_iff h _).2]
  intro j hj hjh
  rw [(shows_iff h _).1]
  intro i hi hih
  have hp := (shows_pair h i j hi hj hih hjh).1
  have e1 := tkH_sub hs ((rd w i).day - day) (day - (rd w j).day)
  have e2 := tk_neg2 (rt w house.toNat) (day - (rd w i).day)
  have e3 := tk_neg2 (rt w house.toNat) ((rd w j).day - (rd w i).day)
  rw [show -(day - (rd w i).day) = (rd w i).day - day by omega] at e2
  rw [show -((rd w j).day - (rd w i).day) = (rd w i).day - day + (day - (rd w j).day) by omega] at e3
  omega
theorem days_step {w : Walk} {house day : Int} (h : (showsR w house day).2 = 0) (h' : (showsR w house (day + 1)).2 = 0) :
    ((showsR w house day).1.lo + (rt w house.toNat).lo ≤ (showsR w house (day + 1)).1.lo ∧ (showsR w house (day + 1)).1.lo ≤ (showsR w house day).1.lo + (rt w house.toNat).hi) ∧
    ((showsR w house day).1.hi + (rt w house.toNat).lo ≤ (showsR w house (day + 1)).1.hi ∧ (showsR w house (day + 1)).1.hi ≤ (showsR w house day).1.hi + (rt w house.toNat).hi) := by
  have hs := shows_rt h
  have st : ∀ i, _ := fun i => tk_step hs (day - (rd w i).day)
  have en : ∀ i, day + 1 - (rd w i).day = day - (rd w i).day + 1 := fun i => by omega
  have l0 := ((shows_iff h _).1.1 (Int.le_refl _))
  have l1 := ((shows_iff h' _).1.1 (Int.le_refl _))
  have u0 := ((shows_iff h _).2.1 (Int.le_refl _))
  have u1 := ((shows_iff h' _).2.1 (Int.le_refl _))
  refine ⟨⟨?_, ?_⟩, ?_, ?_⟩
  · have : (showsR w house day).1.lo ≤ (showsR w house (day + 1)).1.lo - (rt w house.toNat).lo := (shows_iff h _).1.2 fun i hi hh => by
      have := l1 i hi hh; have := (st i).1; rw [en i] at *; omega
    omega
  · exact (shows_iff h' _).1.2 fun i hi hh => by have := l0 i hi hh; have := (st i).1; rw [en i]; omega
  · exact (shows_iff h' _).2.2 fun i hi hh => by have := u0 i hi hh; have := (st i).2; rw [en i]; omega
  · have : (showsR w house (day + 1)).1.hi - (rt w house.toNat).hi ≤ (showsR w house day).1.hi := (shows_iff h _).2.2 fun i hi hh => by
      have := u1 i hi hh; have := (st i).2; rw [en i] at *; omega
    omega

theorem rd_mem {w : Walk} {i : Nat} (h : i < w.readings.length) : rd w i ∈ w.readings := List.mem_of_getElem? (rd_get h)
theorem mem_rd {w : Walk} {r : Reading} (h : r ∈ w.readings) : ∃ i, i < w.readings.length ∧ rd w i = r := by
  obtain ⟨i, hi⟩ := List.getElem?_of_mem h
  have hl := (List.getElem?_eq_some_iff.1 hi).1
  rw [rd_get hl] at hi
  exact ⟨i, hl, Option.some.inj hi⟩
theorem fits_mem {w : Walk} : fitsS w = true ↔ ∀ (h : Nat), h < w.rates.length → ∀ r ∈ w.readings, ∀ q ∈ w.readings, r.house = h → q.house = h → fitP (rt w h) r q := by
  rw [fits_pairs]
  constructor
  · intro hf h hh r hr q hq hrh hqh
    obtain ⟨i, hi, rfl⟩ := mem_rd hr
    obtain ⟨j, hj, rfl⟩ := mem_rd hq
    exact hf h i j hh hi hj hrh hqh
  · intro hf h x y hh hx hy hxh hyh
    exact hf h hh _ (rd_mem hx) _ (rd_mem hy) hxh hyh
/-- The readings of one house, and one more. -/
def oneH (w : Walk) (house : Int) : List Reading := w.readings.filter fun r => decide (r.house = house)
def oneW (w : Walk) (house day n : Int) : Walk := ⟨w.rates, oneH w house ++ [⟨house, day, n⟩]⟩
theorem mem_oneH {w : Walk} {house : Int} {r : Reading} : r ∈ oneH w house ↔ r ∈ w.readings ∧ r.house = house := by
  unfold oneH; simp
theorem one_walk {w : Walk} {house day n : Int} (h : (showsR w house day).2 = 0) (hl : w.readings.length ≤ 23) (hn : 0 ≤ n ∧ n ≤ 1073741824) : walkB (oneW w house day n) = true := by
  obtain ⟨hw, hh, hd, _⟩ := shows_ok h
  have hle : (oneH w house).length ≤ w.readings.length := List.length_filter_le _ _
  refine walk_mk hw (by simp; omega) fun r hr => ?_
  rcases List.mem_append.1 hr with hr | hr
  · exact readB_mem hw (mem_oneH.1 hr).1
  · rw [List.mem_singleton.1 hr]
    exact readB_iff.2 ⟨⟨by simp only; omega, by simp only; omega⟩, hd, hn⟩
theorem one_fits {w : Walk} {house day n : Int} (h : (showsR w house day).2 = 0) : fitsS (oneW w house day n) = true ↔ (showsR w house day).1.lo ≤ n ∧ n ≤ (showsR w house day).1.hi := by
  obtain ⟨hw, hh, hd, _⟩ := shows_ok h
  rw [fits_mem, (shows_iff h n).1, (shows_iff h n).2]
  have hrt : rt (oneW w house day n) house.toNat = rt w house.toNat := rfl
  have hhN : ((house.toNat : Nat) : Int) = house := by omega
  constructor
  · intro hf
    have key : ∀ i, i < w.readings.length → (rd w i).house = house → fitP (rt w house.toNat) (rd w i) ⟨house, day, n⟩ := fun i hi hih =>
      hf house.toNat (by show house.toNat < w.rates.length; omega) (rd w i) (List.mem_append.2 (.inl (mem_oneH.2 ⟨rd_mem hi, hih⟩))) ⟨house, day, n⟩ (List.mem_append.2 (.inr (by simp))) (by omega) (by simp only; omega)
    constructor
    · intro i hi hih
      have := (key i hi hih).1
      simp only at this; omega
    · intro i hi hih
      have := (key i hi hih).2
      simp only at this; omega
  · rintro ⟨h1, h2⟩ k hk r hr q hq hrk hqk
    have hall : ∀ r, r ∈ (oneW w house day n).readings → r.house = house := fun r hr => by
      rcases List.mem_append.1 hr with hr | hr
      · exact (mem_oneH.1 hr).2
      · rw [List.mem_singleton.1 hr]
    have hkh : k = house.toNat := by have := hall r hr; omega
    subst hkh
    have new : ∀ r, r ∈ oneH w house → fitP (rt w house.toNat) r ⟨house, day, n⟩ := fun r hr => by
      obtain ⟨hm, hrh⟩ := mem_oneH.1 hr
      obtain ⟨i, hi, rfl⟩ := mem_rd hm
      have a1 := h1 i hi hrh
      have a2 := h2 i hi hrh
      unfold fitP
      simp only
      omega
    show fitP (rt w house.toNat) r q
    rcases List.mem_append.1 hr with hr | hr
    · rcases List.mem_append.1 hq with hq | hq
      · obtain ⟨hm, hrh⟩ := mem_oneH.1 hr
        obtain ⟨hm2, hqh⟩ := mem_oneH.1 hq
        obtain ⟨i, hi, rfl⟩ := mem_rd hm
        obtain ⟨j, hj, rfl⟩ := mem_rd hm2
        exact shows_pair h i j hi hj hrh hqh
      · rw [List.mem_singleton.1 hq]; exact new r hr
    · rw [List.mem_singleton.1 hr]
      rcases List.mem_append.1 hq with hq | hq
      · exact fit_symm (new q hq)
      · rw [List.mem_singleton.1 hq]; exact fit_refl _ _
theorem shows_err {w : Walk} {house day : Int} (h : ¬ (showsR w house day).2 = 0) : (showsR w house day).1 = ⟨0, 0⟩ ∧ ((showsR w house day).2 == 1) = !walkB w := by
  unfold showsR at h ⊢
  by_cases h1 : walkB w = false
  · rw [if_pos h1] at h ⊢; rw [h1]; exact ⟨rfl, rfl⟩
  · rw [if_neg h1] at h ⊢
    have h2 : walkB w = true := by simpa using h1
    rw [h2]
    split
    · exact ⟨rfl, rfl⟩
    · split
      · exact ⟨rfl, rfl⟩
      · split
        · exact ⟨rfl, rfl⟩
        · rename_i a b c
          rw [if_neg a, if_neg b, if_neg c] at h
          exact absurd rfl h
theorem shows_bnd {w : Walk} {house day : Int} (h : (showsR w house day).2 = 0) : -100000000000 ≤ (showsR w house day).1.lo ∧ (showsR w house day).1.hi ≤ 100000000000 := by
  obtain ⟨hw, hh, hd, hne, _⟩ := shows_ok h
  obtain ⟨i, hi⟩ : ∃ i, (ofS w house)[0]? = some i := ⟨_, List.getElem?_eq_getElem (List.length_pos_iff.2 hne)⟩
  have hm := mem_ofS.1 (List.mem_of_getElem? hi)
  have hr := read_ok hw hm.1
  have hrt := rate_ok hw (show house.toNat < w.rates.length by omega)
  have l := (shows_iff h _).1.1 (Int.le_refl _) i hm.1 hm.2
  have u := (shows_iff h _).2.1 (Int.le_refl _) i hm.1 hm.2
  have key : ∀ (r : Int), 0 ≤ r → r ≤ 100000 → -13200000000 ≤ r * (day - (rd w i).day) ∧ r * (day - (rd w i).day) ≤ 13200000000 := fun r h1 h2 => by
    have h3 : (r * (day - (rd w i).day)).natAbs ≤ 100000 * 132000 := by rw [Int.natAbs_mul]; exact Nat.mul_le_mul (by omega) (by omega)
    omega
  have k1 := key (rt w house.toNat).lo (by omega) (by omega)
  have k2 := key (rt w house.toNat).hi (by omega) (by omega)
  unfold tkL at l
  unfold tkH at u
  constructor
  · split at l <;> omega
  · split at u <;> omega
theorem misfit_is {m : Walk} (hm : walkB m = true) : (misfitR m).2.2 = if fitsS m = true then 4 else 0 := by
  have h := misfits_fits m
  unfold misfitR
  rw [if_pos hm, ← h]
  cases misfitsS m <;> rfl
def oneK (w : Walk) (house : Int) (k : Nat) : List Reading := (w.readings.take k).filter fun r => decide (r.house = house)
theorem oneK_zero (w : Walk) (house : Int) : oneK w house 0 = [] := by unfold oneK; simp
theorem oneK_succ {w : Walk} {house : Int} {k : Nat} (h : k < w.readings.length) : oneK w house (k + 1) = oneK w house k ++ if (rd w k).house = house then [rd w k] else [] := by
  unfold oneK
  rw [take_succ' (rd_get h), List.filter_append]
  congr 1
  simp only [List.filter_cons, List.filter_nil, decide_eq_true_eq]
theorem oneK_end (w : Walk) (house : Int) : oneK w house w.readings.length = oneH w house := by unfold oneK oneH; rw [List.take_length]
theorem oneK_len (w : Walk) (house : Int) (k : Nat) : (oneK w house k).length ≤ k := Nat.le_trans (List.length_filter_le _ _) (by simp; exact Nat.min_le_left _ _)
def q3 (w : Walk) (house day : Int) : List Int := [(showsR w house day).1.lo, (showsR w house day).1.hi, (showsR w house day).1.lo + ((showsR w house day).1.hi - (showsR w house day).1.lo).tdiv 2]
def q2 (w : Walk) (house day : Int) : List Int := [(showsR w house day).1.lo - 1, (showsR w house day).1.hi + 1]
theorem tdiv2 {a : Int} (h : 0 ≤ a) : 0 ≤ a.tdiv 2 ∧ a.tdiv 2 ≤ a := by
  rw [Int.tdiv_eq_ediv_of_nonneg h]
  omega
theorem q3_in {w : Walk} {house day : Int} (h : (showsR w house day).2 = 0) : ∀ x ∈ q3 w house day, (showsR w house day).1.lo ≤ x ∧ x ≤ (showsR w house day).1.hi := by
  have hle := shows_le h
  have ht := tdiv2 (a := (showsR w house day).1.hi - (showsR w house day).1.lo) (by omega)
  intro x hx
  unfold q3 at hx
  simp only [List.mem_cons, List.not_mem_nil, or_false] at hx
  rcases hx with rfl | rfl | rfl <;> omega
theorem q2_out {w : Walk} {house day : Int} (h : (showsR w house day).2 = 0) : ∀ x ∈ q2 w house day, ¬ ((showsR w house day).1.lo ≤ x ∧ x ≤ (showsR w house day).1.hi) := by
  intro x hx
  unfold q2 at hx
  simp only [List.mem_cons, List.not_mem_nil, or_false] at hx
  rcases hx with rfl | rfl <;> omega
end Go.Mw
namespace Go.Mw
open Go.Proofs
set_option maxRecDepth 20000 in
set_option maxHeartbeats 8000000 in
/-- meterworks/meterworkslaw12.CardDays_1 -/
theorem c_law_days (w : Walk) (house day n : Int) (h1 : w.rates.length ≤ 1000) (h2 : w.readings.length ≤ 23) : Contract Try.prog 32 [.int n, .leaf (.d (.pt (walkD w))), .leaf (.d (.pt [.i house])), .leaf (.d (.pt [.i day]))] (.int (misfitR (oneW w house day n)).2.2) [] := by
  have hol : (oneH w house).length ≤ 23 := Nat.le_trans (List.length_filter_le _ _) h2
  have eW : (oneW w house day n) = ⟨w.rates, oneH w house ++ [⟨house, day, n⟩]⟩ := rfl
  refine con_of follows_mixed Try.func32 rfl (by simp only [List.length_cons, List.length_nil, Try.ntmps32]; omega) (by kernel_rfl) rfl ?_
  refine Exec.reg ?_
  refine Run.op (by simp only [go_sem] <;> rfl) (by simp only [go_sem] <;> rfl) ?_
  refine Run.nil ?_
  refine Exec.reg ?_
  iterate 5 (refine Run.op (by simp only [go_sem] <;> rfl) (by simp only [go_sem] <;> rfl) ?_)
  refine Run.nil ?_
  refine Exec.assocS ?_
  refine Exec.reg ?_
  refine Run.nilC 6 1 1000 46 3 (by simp only [go_sem] <;> rfl) (by simp only [go_sem] <;> rfl) (by simp only [go_sem] <;> rfl) (by omega) (by omega) (by simp only [go_sem] <;> rfl) ?_
  iterate 4 (refine Run.op (by simp only [go_sem] <;> rfl) (by simp only [go_sem] <;> rfl) ?_)
  refine Run.nil ?_
  refine Exec.blk ?_
  refine Exec.forA [0, 2, 3, 6, 16, 17, 18] [6, 1000] (w.readings.length) (fun k => [.slot 18 (.int k), .obj 6 (.cells [.d (.sl 2 (w.rates.map encSpan)), .own 1000 0 (oneK w house k).length (oneK w house k).length]), .obj 1000 (.arr 46 3 ((oneK w house k).map encReading))]) (fun _ => True) (fun k => by simp only [go_sem] <;> rfl) (by simp only [go_sem, oneK_zero] <;> rfl) ?_ (fun k hk hX => ?_)
  · trivial
  · skip
    refine Exec.reg ?_
    refine Run.op (by simp only [go_sem] <;> rfl) (by simp only [go_sem] <;> rfl) ?_
    refine Run.nil ?_
    refine Exec.cndS (by simp only [go_sem] <;> rfl) (fun hb19 => ?_) (fun hb19 => ?_)
    · skip
      have hlt := lt_of_dec hb19
      have hs := rd_get hlt
      have hkl := oneK_len w house k
      have hsu := oneK_succ (house := house) hlt
      refine Exec.skipS ?_
      refine Exec.blk ?_
      refine Exec.reg ?_
      refine Run.op (by simp only [go_sem, hs]; (try simp (disch := omega) only [if_pos]); (try simp only [go_sem, hs])<;> rfl) (by simp only [go_sem] <;> rfl) ?_
      iterate 3 (refine Run.op (by simp only [go_sem, hs] <;> rfl) (by simp only [go_sem] <;> rfl) ?_)
      refine Run.nil ?_
      refine Exec.reg ?_
      iterate 4 (refine Run.op (by simp only [go_sem, hs] <;> rfl) (by simp only [go_sem] <;> rfl) ?_)
      refine Run.nil ?_
      refine Exec.cnd (by simp only [go_sem, hs] <;> rfl) (fun hb25 => ?_) (fun hb25 => ?_)
      · skip
        have hh : (rd w k).house = house := by simpa using hb25
        have e : oneK w house (k + 1) = oneK w house k ++ [rd w k] := by rw [hsu, if_pos hh]
        refine Exec.reg1 ?_
        iterate 4 (refine Run.op (by simp only [go_sem, hs] <;> rfl) (by simp only [go_sem] <;> rfl) ?_)
        refine Run.op (by simp only [go_sem, hs]; (try simp (disch := omega) only [if_pos]); (try simp only [go_sem, hs]) <;> first | (refine ite_run ⟨by (try simp only [List.length_append, List.length_drop, List.length_take, List.length_map, List.length_cons, List.length_nil, List.length_replicate, List.length_set, List.length_range, Nat.zero_add]); omega, by (try simp only [List.length_append, List.length_drop, List.length_take, List.length_map, List.length_cons, List.length_nil, List.length_replicate, List.length_set, List.length_range, Nat.zero_add]); omega, by repeat (first | exact al_nil | assumption | refine al_app ?_ ?_ | refine al_drop ?_ | refine al_take ?_ | exact al_map (fun _ => rfl) | exact al_rep rfl | refine al_cons rfl ?_)⟩ ?_; simp only [go_sem, hs] <;> rfl) | (refine ite_run ⟨by (try simp only [List.length_append, List.length_drop, List.length_take, List.length_map, List.length_cons, List.length_nil, List.length_replicate, List.length_set, List.length_range, Nat.zero_add]); omega, by repeat (first | exact al_nil | assumption | refine al_app ?_ ?_ | refine al_drop ?_ | refine al_take ?_ | exact al_map (fun _ => rfl) | exact al_rep rfl | refine al_cons rfl ?_)⟩ ?_; simp only [go_sem, hs] <;> rfl) | rfl) (by simp only [go_sem] <;> rfl) ?_
        iterate 2 (refine Run.op (by simp only [go_sem, hs] <;> rfl) (by simp only [go_sem] <;> rfl) ?_)
        refine Run.nil ?_
        refine BlkK.nrm ?_
        refine Exec.reg1 ?_
        refine Run.op (by simp only [go_sem, hs]; (try simp (disch := omega) only [IntWalk.i64_in, IntWalk.u64_in, if_neg, if_pos])<;> rfl) (by simp only [go_sem] <;> rfl) ?_
        refine Run.op (by simp only [go_sem, hs] <;> rfl) (by simp only [go_sem] <;> rfl) ?_
        refine Run.nil ?_
        refine ForK.nxt ?_ ?_ ?_
        · omega
        · exact Ghost.kp [0, 2, 3, 6, 16, 17, 18] [6, 1000] (by simp only [go_sem, hs]; first | ((repeat' (first | with_reducible_and_instances rfl | refine st_eq ?_ ?_ ?_ | refine ret_eq ?_ | refine tup_eq ?_ | refine tm_eq ?_ ?_ | refine arr_eq ?_ | refine cells_eq ?_ | refine val_eq ?_ | refine ls_eq ?_ ?_ | refine own_eq ?_ ?_ | refine sl_eq ?_ | refine b_eq ?_ | (refine i_eq ?_; omega))); (all_goals (simp [e, encReading]))) | rfl)
        · trivial
      · skip
        have hh : ¬ (rd w k).house = house := by simpa using hb25
        have e : oneK w house (k + 1) = oneK w house k := by rw [hsu, if_neg hh, List.append_nil]
        refine BlkK.nrm ?_
        refine Exec.reg1 ?_
        refine Run.op (by simp only [go_sem, hs, e]; (try simp (disch := omega) only [IntWalk.i64_in, IntWalk.u64_in, if_neg, if_pos])<;> rfl) (by simp only [go_sem] <;> rfl) ?_
        refine Run.op (by simp only [go_sem, hs, e] <;> rfl) (by simp only [go_sem] <;> rfl) ?_
        refine Run.nil ?_
        refine ForK.nxt ?_ ?_ ?_
        · omega
        · exact Ghost.kp [0, 2, 3, 6, 16, 17, 18] [6, 1000] (by simp only [go_sem, hs, e]; first | ((repeat' (first | with_reducible_and_instances rfl | refine st_eq ?_ ?_ ?_ | refine ret_eq ?_ | refine tup_eq ?_ | refine tm_eq ?_ ?_ | refine arr_eq ?_ | refine cells_eq ?_ | refine val_eq ?_ | refine ls_eq ?_ ?_ | refine own_eq ?_ ?_ | refine sl_eq ?_ | refine b_eq ?_ | (refine i_eq ?_; omega))); done) | rfl)
        · trivial
    · skip
      have hek : k = w.readings.length := by have := ge_of_dec hb19; omega
      subst hek
      have hen := oneK_end w house
      have hla : (oneH w house).length + 1 = (oneH w house ++ [(⟨house, day, n⟩ : Reading)]).length := by simp
      have hta : List.take ((oneH w house).length + 1) (List.map encReading (oneH w house) ++ [[D.i house, D.i day, D.i n]]) = (oneH w house ++ [(⟨house, day, n⟩ : Reading)]).map encReading := by rw [List.map_append]; exact List.take_of_length_le (by rw [List.length_append, List.length_map]; exact Nat.le_refl _)
      refine Exec.exitS ?_
      refine ForK.ext ?_
      refine BlkK.hit ?_
      refine Exec.reg ?_
      iterate 7 (refine Run.op (by simp only [go_sem, hen] <;> rfl) (by simp only [go_sem] <;> rfl) ?_)
      refine Run.op (by simp only [go_sem, hen]; (try simp (disch := omega) only [if_pos]); (try simp only [go_sem, hen]) <;> first | (refine ite_run ⟨by (try simp only [List.length_append, List.length_drop, List.length_take, List.length_map, List.length_cons, List.length_nil, List.length_replicate, List.length_set, List.length_range, Nat.zero_add]); omega, by (try simp only [List.length_append, List.length_drop, List.length_take, List.length_map, List.length_cons, List.length_nil, List.length_replicate, List.length_set, List.length_range, Nat.zero_add]); omega, by repeat (first | exact al_nil | assumption | refine al_app ?_ ?_ | refine al_drop ?_ | refine al_take ?_ | exact al_map (fun _ => rfl) | exact al_rep rfl | refine al_cons rfl ?_)⟩ ?_; simp only [go_sem, hen] <;> rfl) | (refine ite_run ⟨by (try simp only [List.length_append, List.length_drop, List.length_take, List.length_map, List.length_cons, List.length_nil, List.length_replicate, List.length_set, List.length_range, Nat.zero_add]); omega, by repeat (first | exact al_nil | assumption | refine al_app ?_ ?_ | refine al_drop ?_ | refine al_take ?_ | exact al_map (fun _ => rfl) | exact al_rep rfl | refine al_cons rfl ?_)⟩ ?_; simp only [go_sem, hen] <;> rfl) | rfl) (by simp only [go_sem] <;> rfl) ?_
      iterate 2 (refine Run.op (by simp only [go_sem, hen] <;> rfl) (by simp only [go_sem] <;> rfl) ?_)
      refine Run.nil ?_
      refine Exec.reg ?_
      refine Run.frz 1000 (by simp only [go_sem, hta] <;> rfl) ?_
      refine Run.op (by simp only [go_sem, hen] <;> rfl) (by simp only [go_sem] <;> rfl) ?_
      refine Run.cal (c_card_Misfit (oneW w house day n) h1 (by unfold oneW; simp only [List.length_append, List.length_cons, List.length_nil]; omega) (fun _ => h20_of (by unfold oneW; simp only [List.length_append, List.length_cons, List.length_nil]; omega))) (by simp only [go_sem]) (by simp only [go_sem, hen] <;> rfl) (by exact ⟨by first | exact WkR.pure rfl | exact WkR.nil _ | exact WkR.int (by first | omega | (simp; done) | (simp; omega)), trivial⟩) (fr0) (by simp only [go_sem, hen] <;> rfl) ?_
      iterate 7 (refine Run.op (by simp only [go_sem, hen] <;> rfl) (by simp only [go_sem] <;> rfl) ?_)
      refine Run.nil ?_
      refine Exec.reg ?_
      iterate 2 (refine Run.op (by simp only [go_sem, hen] <;> rfl) (by simp only [go_sem] <;> rfl) ?_)
      refine Run.nil ?_
      exact Ends.fin [] (rs := [.tmp 5]) rfl (by simp only [go_sem, hen] <;> rfl) (by simp only [go_sem, hen] <;> first | rfl | ((repeat' (first | with_reducible_and_instances rfl | refine st_eq ?_ ?_ ?_ | refine ret_eq ?_ | refine tup_eq ?_ | refine tm_eq ?_ ?_ | refine arr_eq ?_ | refine cells_eq ?_ | refine val_eq ?_ | refine ls_eq ?_ ?_ | refine own_eq ?_ ?_ | refine sl_eq ?_ | refine b_eq ?_ | (refine i_eq ?_; omega))); done))

set_option maxRecDepth 20000 in
set_option maxHeartbeats 64000000 in
/-- meterworks/meterworkslaw12.CardDays -/
theorem c_law_CardDays (w : Walk) (house day : Int) : Contract Try.prog 9 [walkV w, .int house, .int day] (.bool true) [] := by
  refine con_of follows_mixed Try.func9 rfl (by simp only [List.length_cons, List.length_nil, Try.ntmps9]; omega) (by kernel_rfl) rfl ?_
  refine Exec.reg ?_
  iterate 4 (refine Run.op (by simp only [go_sem] <;> rfl) (by simp only [go_sem] <;> rfl) ?_)
  refine Run.nil ?_
  refine Exec.assocS ?_
  refine Exec.reg ?_
  refine Run.op (by simp only [go_sem] <;> rfl) (by simp only [go_sem] <;> rfl) ?_
  refine Run.cal (c_law_great w 23) (by simp only [go_sem]) (by simp only [go_sem] <;> rfl) (by exact ⟨by first | exact WkR.pure rfl | exact WkR.nil _ | exact WkR.int (by first | omega | (simp; done) | (simp; omega)), by first | exact WkR.pure rfl | exact WkR.nil _ | exact WkR.int (by first | omega | (simp; done) | (simp; omega)), trivial⟩) (fr0) (by simp only [go_sem] <;> rfl) ?_
  refine Run.op (by simp only [go_sem] <;> rfl) (by simp only [go_sem] <;> rfl) ?_
  iterate 4 (refine Run.gop (by simp only [go_sem] <;> rfl) (by simp only [go_sem] <;> rfl) (by simp only [go_sem] <;> rfl) ?_)
  refine Run.op (by simp only [go_sem] <;> rfl) (by simp only [go_sem] <;> rfl) ?_
  refine Run.nil ?_
  refine Exec.cndS (by simp only [go_sem] <;> rfl) (fun hb24 => ?_) (fun hb24 => ?_)
  · skip
    refine Exec.assocS ?_
    refine Exec.reg ?_
    refine Run.cal (c_law_alive) (by simp only [go_sem]) (by simp only [go_sem] <;> rfl) (by exact trivial) (fr0) (by simp only [go_sem] <;> rfl) ?_
    refine Run.op (by simp only [go_sem] <;> rfl) (by simp only [go_sem] <;> rfl) ?_
    refine Run.nil ?_
    refine Exec.retS ?_
    exact Ends.fin [] (rs := [.tmp 6]) rfl (by simp only [go_sem] <;> rfl) (by simp only [go_sem] <;> first | rfl | ((repeat' (first | with_reducible_and_instances rfl | refine st_eq ?_ ?_ ?_ | refine ret_eq ?_ | refine tup_eq ?_ | refine tm_eq ?_ ?_ | refine arr_eq ?_ | refine cells_eq ?_ | refine val_eq ?_ | refine ls_eq ?_ ?_ | refine own_eq ?_ ?_ | refine sl_eq ?_ | refine b_eq ?_ | (refine i_eq ?_; omega))); done))
  simp only [Bool.or_eq_false_iff, decide_eq_false_iff_not] at hb24
  have hg := great_no hb24.1
  have h1 : w.rates.length ≤ 1000 := by omega
  have h2 : w.readings.length ≤ 23 := by have := hb24.2; omega
  have h20 := h20_great hb24.1 (by omega)
  refine Exec.skipS ?_
  refine Exec.reg ?_
  iterate 3 (refine Run.op (by simp only [go_sem] <;> rfl) (by simp only [go_sem] <;> rfl) ?_)
  refine Run.cal (c_card_Shows w house day h1 (by omega) h20) (by simp only [go_sem]) (by simp only [go_sem] <;> rfl) (by exact ⟨by first | exact WkR.pure rfl | exact WkR.nil _ | exact WkR.int (by first | omega | (simp; done) | (simp; omega)), by first | exact WkR.pure rfl | exact WkR.nil _ | exact WkR.int (by first | omega | (simp; done) | (simp; omega)), by first | exact WkR.pure rfl | exact WkR.nil _ | exact WkR.int (by first | omega | (simp; done) | (simp; omega)), trivial⟩) (fr0) (by simp only [go_sem] <;> rfl) ?_
  iterate 6 (refine Run.op (by simp only [go_sem] <;> rfl) (by simp only [go_sem] <;> rfl) ?_)
  refine Run.nil ?_
  refine Exec.assocS ?_
  refine Exec.reg ?_
  iterate 2 (refine Run.op (by simp only [go_sem] <;> rfl) (by simp only [go_sem] <;> rfl) ?_)
  refine Run.nil ?_
  refine Exec.cndS (by simp only [go_sem] <;> rfl) (fun hb34 => ?_) (fun hb34 => ?_)
  · skip
    have he : ¬ (showsR w house day).2 = 0 := by simpa using hb34
    obtain ⟨hs0, hs1⟩ := shows_err he
    refine Exec.assocS ?_
    refine Exec.reg ?_
    refine Run.op (by simp only [go_sem, hs0, hs1, beq_self_eq_true, Bool.and_self] <;> rfl) (by simp only [go_sem] <;> rfl) ?_
    refine Run.op (by simp only [go_sem] <;> rfl) (by simp only [go_sem] <;> rfl) ?_
    refine Run.op (by simp only [go_sem, hs0, hs1, beq_self_eq_true, Bool.and_self] <;> rfl) (by simp only [go_sem] <;> rfl) ?_
    refine Run.op (by simp only [go_sem] <;> rfl) (by simp only [go_sem] <;> rfl) ?_
    refine Run.yes (by simp only [go_sem] <;> rfl) (by simp only [go_sem] <;> rfl) (by simp only [go_sem] <;> rfl) ?_
    iterate 2 (refine Run.yes (by simp only [go_sem] <;> rfl) (by simp only [go_sem, hs0, hs1, beq_self_eq_true, Bool.and_self] <;> rfl) (by simp only [go_sem] <;> rfl) ?_)
    refine Run.calw (by simp only [go_sem] <;> rfl) (c_meterworksref12_Walk w h1 (by omega)) (by simp only [go_sem]) (by simp only [go_sem, hs0, hs1, beq_self_eq_true, Bool.and_self] <;> rfl) (by simp only [go_sem, hs0, hs1, beq_self_eq_true, Bool.and_self] <;> rfl) (by exact ⟨by first | exact WkR.pure rfl | exact WkR.nil _ | exact WkR.int (by first | omega | (simp; done) | (simp; omega)), trivial⟩) (fr0) (by simp only [go_sem, hs0, hs1, beq_self_eq_true, Bool.and_self] <;> rfl) ?_
    iterate 2 (refine Run.yes (by simp only [go_sem] <;> rfl) (by simp only [go_sem, hs0, hs1, beq_self_eq_true, Bool.and_self] <;> rfl) (by simp only [go_sem] <;> rfl) ?_)
    refine Run.op (by simp only [go_sem, hs0, hs1, beq_self_eq_true, Bool.and_self] <;> rfl) (by simp only [go_sem] <;> rfl) ?_
    refine Run.op (by simp only [go_sem] <;> rfl) (by simp only [go_sem] <;> rfl) ?_
    refine Run.calw (by simp only [go_sem] <;> rfl) (c_law_alive) (by simp only [go_sem]) (by simp only [go_sem, hs0, hs1, beq_self_eq_true, Bool.and_self] <;> rfl) (by simp only [go_sem, hs0, hs1, beq_self_eq_true, Bool.and_self] <;> rfl) (by exact trivial) (fr0) (by simp only [go_sem, hs0, hs1, beq_self_eq_true, Bool.and_self] <;> rfl) ?_
    refine Run.op (by simp only [go_sem, hs0, hs1, beq_self_eq_true, Bool.and_self] <;> rfl) (by simp only [go_sem] <;> rfl) ?_
    refine Run.op (by simp only [go_sem] <;> rfl) (by simp only [go_sem] <;> rfl) ?_
    refine Run.nil ?_
    refine Exec.retS ?_
    exact Ends.fin [] (rs := [.tmp 6]) rfl (by simp only [go_sem, hs0, hs1, beq_self_eq_true, Bool.and_self] <;> rfl) (by simp only [go_sem, hs0, hs1, beq_self_eq_true, Bool.and_self] <;> first | rfl | ((repeat' (first | with_reducible_and_instances rfl | refine st_eq ?_ ?_ ?_ | refine ret_eq ?_ | refine tup_eq ?_ | refine tm_eq ?_ ?_ | refine arr_eq ?_ | refine cells_eq ?_ | refine val_eq ?_ | refine ls_eq ?_ ?_ | refine own_eq ?_ ?_ | refine sl_eq ?_ | refine b_eq ?_ | (refine i_eq ?_; omega))); done))
  have he : (showsR w house day).2 = 0 := by simpa using hb34
  have hok := shows_ok he
  obtain ⟨house, rfl⟩ : ∃ h' : Nat, house = h' := ⟨house.toNat, by omega⟩
  have hw := hok.1
  have hhl : house < w.rates.length := by omega
  have hle := shows_le he
  have hbn := shows_bnd he
  have hrt := rate_ok hw hhl
  have hgt := rt_get hhl
  have g1 : decide ((house : Int) < 0) = false := by simp
  have g2 : decide ((house : Int) ≥ (w.rates.length : Int)) = false := by simp; omega
  have g3 : decide ((showsR w (house : Int) day).1.lo > (showsR w (house : Int) day).1.hi) = false := by simp; omega
  have htd := tdiv2 (a := (showsR w (house : Int) day).1.hi - (showsR w (house : Int) day).1.lo) (by omega)
  refine Exec.skipS ?_
  refine Exec.assocS ?_
  refine Exec.reg ?_
  refine Run.op (by simp only [go_sem, hw, g1, g2, g3, hgt, he, Bool.not_true] <;> rfl) (by simp only [go_sem] <;> rfl) ?_
  refine Run.cal (c_meterworksref12_Walk w h1 (by omega)) (by simp only [go_sem]) (by simp only [go_sem, hw, g1, g2, g3, hgt, he, Bool.not_true] <;> rfl) (by exact ⟨by first | exact WkR.pure rfl | exact WkR.nil _ | exact WkR.int (by first | omega | (simp; done) | (simp; omega)), trivial⟩) (fr0) (by simp only [go_sem, hw, g1, g2, g3, hgt, he, Bool.not_true] <;> rfl) ?_
  refine Run.op (by simp only [go_sem, hw, g1, g2, g3, hgt, he, Bool.not_true] <;> rfl) (by simp only [go_sem] <;> rfl) ?_
  refine Run.op (by simp only [go_sem] <;> rfl) (by simp only [go_sem] <;> rfl) ?_
  iterate 2 (refine Run.yes (by simp only [go_sem] <;> rfl) (by simp only [go_sem, hw, g1, g2, g3, hgt, he, Bool.not_true] <;> rfl) (by simp only [go_sem] <;> rfl) ?_)
  refine Run.op (by simp only [go_sem, hw, g1, g2, g3, hgt, he, Bool.not_true] <;> rfl) (by simp only [go_sem] <;> rfl) ?_
  refine Run.op (by simp only [go_sem] <;> rfl) (by simp only [go_sem] <;> rfl) ?_
  refine Run.yes (by simp only [go_sem] <;> rfl) (by simp only [go_sem, hw, g1, g2, g3, hgt, he, Bool.not_true] <;> rfl) (by simp only [go_sem] <;> rfl) ?_
  refine Run.yes (by simp only [go_sem] <;> rfl) (by simp only [go_sem] <;> rfl) (by simp only [go_sem] <;> rfl) ?_
  iterate 3 (refine Run.yes (by simp only [go_sem] <;> rfl) (by simp only [go_sem, hw, g1, g2, g3, hgt, he, Bool.not_true] <;> rfl) (by simp only [go_sem] <;> rfl) ?_)
  refine Run.op (by simp only [go_sem, hw, g1, g2, g3, hgt, he, Bool.not_true] <;> rfl) (by simp only [go_sem] <;> rfl) ?_
  refine Run.op (by simp only [go_sem] <;> rfl) (by simp only [go_sem] <;> rfl) ?_
  refine Run.yes (by simp only [go_sem] <;> rfl) (by simp only [go_sem] <;> rfl) (by simp only [go_sem] <;> rfl) ?_
  refine Run.yes (by simp only [go_sem] <;> rfl) (by simp only [go_sem, hw, g1, g2, g3, hgt, he, Bool.not_true] <;> rfl) (by simp only [go_sem] <;> rfl) ?_
  refine Run.yes (by simp only [go_sem] <;> rfl) (by simp only [go_sem] <;> rfl) (by simp only [go_sem] <;> rfl) ?_
  iterate 2 (refine Run.yes (by simp only [go_sem] <;> rfl) (by simp only [go_sem, hw, g1, g2, g3, hgt, he, Bool.not_true] <;> rfl) (by simp only [go_sem] <;> rfl) ?_)
  refine Run.op (by simp only [go_sem, hw, g1, g2, g3, hgt, he, Bool.not_true] <;> rfl) (by simp only [go_sem] <;> rfl) ?_
  refine Run.nil ?_
  refine Exec.cndS (by simp only [go_sem, hw, g1, g2, g3, hgt, he, Bool.not_true] <;> rfl) (fun hb69 => ?_) (fun hb69 => ?_)
  · exact absurd hb69 (by simp)
  refine Exec.skipS ?_
  refine Exec.reg ?_
  refine Run.op (by simp only [go_sem] <;> rfl) (by simp only [go_sem] <;> rfl) ?_
  iterate 2 (refine Run.op (by simp only [go_sem, hw, g1, g2, g3, hgt, he, Bool.not_true] <;> rfl) (by simp only [go_sem] <;> rfl) ?_)
  refine Run.op (by simp only [go_sem, hw, g1, g2, g3, hgt, he, Bool.not_true]; (try simp (disch := omega) only [if_pos]); (try simp only [go_sem, hw, g1, g2, g3, hgt, he, Bool.not_true])<;> rfl) (by simp only [go_sem] <;> rfl) ?_
  refine Run.op (by simp only [go_sem, hw, g1, g2, g3, hgt, he, Bool.not_true] <;> rfl) (by simp only [go_sem] <;> rfl) ?_
  iterate 2 (refine Run.op (by simp only [go_sem] <;> rfl) (by simp only [go_sem] <;> rfl) ?_)
  refine Run.nil ?_
  refine Exec.reg ?_
  iterate 3 (refine Run.op (by simp only [go_sem, hw, g1, g2, g3, hgt, he, Bool.not_true] <;> rfl) (by simp only [go_sem] <;> rfl) ?_)
  refine Run.op (by simp only [go_sem, hw, g1, g2, g3, hgt, he, Bool.not_true]; (try simp (disch := omega) only [IntWalk.i64_in, IntWalk.u64_in, if_neg, if_pos])<;> rfl) (by simp only [go_sem] <;> rfl) ?_
  refine Run.cal (c_card_Shows w house (day + 1) h1 (by omega) h20) (by simp only [go_sem]) (by simp only [go_sem, hw, g1, g2, g3, hgt, he, Bool.not_true] <;> rfl) (by exact ⟨by first | exact WkR.pure rfl | exact WkR.nil _ | exact WkR.int (by first | omega | (simp; done) | (simp; omega)), by first | exact WkR.pure rfl | exact WkR.nil _ | exact WkR.int (by first | omega | (simp; done) | (simp; omega)), by first | exact WkR.pure rfl | exact WkR.nil _ | exact WkR.int (by first | omega | (simp; done) | (simp; omega)), trivial⟩) (fr0) (by simp only [go_sem, hw, g1, g2, g3, hgt, he, Bool.not_true] <;> rfl) ?_
  refine Run.op (by simp only [go_sem] <;> rfl) (by simp only [go_sem] <;> rfl) ?_
  iterate 2 (refine Run.op (by simp only [go_sem, hw, g1, g2, g3, hgt, he, Bool.not_true] <;> rfl) (by simp only [go_sem] <;> rfl) ?_)
  iterate 3 (refine Run.op (by simp only [go_sem] <;> rfl) (by simp only [go_sem] <;> rfl) ?_)
  refine Run.nil ?_
  refine Exec.assocS ?_
  by_cases hf : (showsR w house (day + 1)).2 = 0
  · skip
    have hst := days_step he hf
    rw [Int.toNat_natCast] at hst
    have s1 : decide ((showsR w house (day + 1)).1.lo < (showsR w house day).1.lo + (rt w house).lo) = false := by simp; omega
    have s2 : decide ((showsR w house (day + 1)).1.lo > (showsR w house day).1.lo + (rt w house).hi) = false := by simp; omega
    have s3 : decide ((showsR w house (day + 1)).1.hi < (showsR w house day).1.hi + (rt w house).lo) = false := by simp; omega
    have s4 : decide ((showsR w house (day + 1)).1.hi > (showsR w house day).1.hi + (rt w house).hi) = false := by simp; omega
    refine Exec.reg ?_
    refine Run.op (by simp only [go_sem] <;> rfl) (by simp only [go_sem] <;> rfl) ?_
    refine Run.op (by simp only [go_sem, hw, g1, g2, g3, hgt, he, Bool.not_true, hf, s1, s2, s3, s4, beq_self_eq_true] <;> rfl) (by simp only [go_sem] <;> rfl) ?_
    refine Run.op (by simp only [go_sem] <;> rfl) (by simp only [go_sem] <;> rfl) ?_
    refine Run.yes (by simp only [go_sem] <;> rfl) (by simp only [go_sem] <;> rfl) (by simp only [go_sem] <;> rfl) ?_
    refine Run.yes (by simp only [go_sem] <;> rfl) (by simp only [go_sem, hw, g1, g2, g3, hgt, he, Bool.not_true, hf, s1, s2, s3, s4, beq_self_eq_true] <;> rfl) (by simp only [go_sem] <;> rfl) ?_
    refine Run.yes (by simp only [go_sem] <;> rfl) (by simp only [go_sem] <;> rfl) (by simp only [go_sem] <;> rfl) ?_
    refine Run.yes (by simp only [go_sem] <;> rfl) (by simp only [go_sem, hw, g1, g2, g3, hgt, he, Bool.not_true, hf, s1, s2, s3, s4, beq_self_eq_true] <;> rfl) (by simp only [go_sem] <;> rfl) ?_
    refine Run.yes (by simp only [go_sem] <;> rfl) (by simp only [go_sem] <;> rfl) (by simp only [go_sem] <;> rfl) ?_
    refine Run.yes (by simp only [go_sem] <;> rfl) (by simp only [go_sem, hw, g1, g2, g3, hgt, he, Bool.not_true, hf, s1, s2, s3, s4, beq_self_eq_true] <;> rfl) (by simp only [go_sem] <;> rfl) ?_
    refine Run.yes (by simp only [go_sem] <;> rfl) (by simp only [go_sem, hw, g1, g2, g3, hgt, he, Bool.not_true, hf, s1, s2, s3, s4, beq_self_eq_true]; (try simp (disch := omega) only [IntWalk.i64_in, IntWalk.u64_in, if_neg, if_pos])<;> rfl) (by simp only [go_sem] <;> rfl) ?_
    refine Run.yes (by simp only [go_sem] <;> rfl) (by simp only [go_sem, hw, g1, g2, g3, hgt, he, Bool.not_true, hf, s1, s2, s3, s4, beq_self_eq_true] <;> rfl) (by simp only [go_sem] <;> rfl) ?_
    iterate 2 (refine Run.yes (by simp only [go_sem] <;> rfl) (by simp only [go_sem] <;> rfl) (by simp only [go_sem] <;> rfl) ?_)
    refine Run.yes (by simp only [go_sem] <;> rfl) (by simp only [go_sem, hw, g1, g2, g3, hgt, he, Bool.not_true, hf, s1, s2, s3, s4, beq_self_eq_true] <;> rfl) (by simp only [go_sem] <;> rfl) ?_
    refine Run.yes (by simp only [go_sem] <;> rfl) (by simp only [go_sem] <;> rfl) (by simp only [go_sem] <;> rfl) ?_
    refine Run.yes (by simp only [go_sem] <;> rfl) (by simp only [go_sem, hw, g1, g2, g3, hgt, he, Bool.not_true, hf, s1, s2, s3, s4, beq_self_eq_true] <;> rfl) (by simp only [go_sem] <;> rfl) ?_
    refine Run.yes (by simp only [go_sem] <;> rfl) (by simp only [go_sem] <;> rfl) (by simp only [go_sem] <;> rfl) ?_
    refine Run.yes (by simp only [go_sem] <;> rfl) (by simp only [go_sem, hw, g1, g2, g3, hgt, he, Bool.not_true, hf, s1, s2, s3, s4, beq_self_eq_true] <;> rfl) (by simp only [go_sem] <;> rfl) ?_
    refine Run.yes (by simp only [go_sem] <;> rfl) (by simp only [go_sem, hw, g1, g2, g3, hgt, he, Bool.not_true, hf, s1, s2, s3, s4, beq_self_eq_true]; (try simp (disch := omega) only [IntWalk.i64_in, IntWalk.u64_in, if_neg, if_pos])<;> rfl) (by simp only [go_sem] <;> rfl) ?_
    iterate 2 (refine Run.yes (by simp only [go_sem] <;> rfl) (by simp only [go_sem, hw, g1, g2, g3, hgt, he, Bool.not_true, hf, s1, s2, s3, s4, beq_self_eq_true] <;> rfl) (by simp only [go_sem] <;> rfl) ?_)
    iterate 2 (refine Run.yes (by simp only [go_sem] <;> rfl) (by simp only [go_sem] <;> rfl) (by simp only [go_sem] <;> rfl) ?_)
    refine Run.yes (by simp only [go_sem] <;> rfl) (by simp only [go_sem, hw, g1, g2, g3, hgt, he, Bool.not_true, hf, s1, s2, s3, s4, beq_self_eq_true] <;> rfl) (by simp only [go_sem] <;> rfl) ?_
    refine Run.yes (by simp only [go_sem] <;> rfl) (by simp only [go_sem] <;> rfl) (by simp only [go_sem] <;> rfl) ?_
    refine Run.yes (by simp only [go_sem] <;> rfl) (by simp only [go_sem, hw, g1, g2, g3, hgt, he, Bool.not_true, hf, s1, s2, s3, s4, beq_self_eq_true] <;> rfl) (by simp only [go_sem] <;> rfl) ?_
    refine Run.yes (by simp only [go_sem] <;> rfl) (by simp only [go_sem] <;> rfl) (by simp only [go_sem] <;> rfl) ?_
    refine Run.yes (by simp only [go_sem] <;> rfl) (by simp only [go_sem, hw, g1, g2, g3, hgt, he, Bool.not_true, hf, s1, s2, s3, s4, beq_self_eq_true] <;> rfl) (by simp only [go_sem] <;> rfl) ?_
    refine Run.yes (by simp only [go_sem] <;> rfl) (by simp only [go_sem, hw, g1, g2, g3, hgt, he, Bool.not_true, hf, s1, s2, s3, s4, beq_self_eq_true]; (try simp (disch := omega) only [IntWalk.i64_in, IntWalk.u64_in, if_neg, if_pos])<;> rfl) (by simp only [go_sem] <;> rfl) ?_
    iterate 2 (refine Run.yes (by simp only [go_sem] <;> rfl) (by simp only [go_sem, hw, g1, g2, g3, hgt, he, Bool.not_true, hf, s1, s2, s3, s4, beq_self_eq_true] <;> rfl) (by simp only [go_sem] <;> rfl) ?_)
    iterate 2 (refine Run.yes (by simp only [go_sem] <;> rfl) (by simp only [go_sem] <;> rfl) (by simp only [go_sem] <;> rfl) ?_)
    refine Run.yes (by simp only [go_sem] <;> rfl) (by simp only [go_sem, hw, g1, g2, g3, hgt, he, Bool.not_true, hf, s1, s2, s3, s4, beq_self_eq_true] <;> rfl) (by simp only [go_sem] <;> rfl) ?_
    refine Run.yes (by simp only [go_sem] <;> rfl) (by simp only [go_sem] <;> rfl) (by simp only [go_sem] <;> rfl) ?_
    refine Run.yes (by simp only [go_sem] <;> rfl) (by simp only [go_sem, hw, g1, g2, g3, hgt, he, Bool.not_true, hf, s1, s2, s3, s4, beq_self_eq_true] <;> rfl) (by simp only [go_sem] <;> rfl) ?_
    refine Run.yes (by simp only [go_sem] <;> rfl) (by simp only [go_sem] <;> rfl) (by simp only [go_sem] <;> rfl) ?_
    refine Run.yes (by simp only [go_sem] <;> rfl) (by simp only [go_sem, hw, g1, g2, g3, hgt, he, Bool.not_true, hf, s1, s2, s3, s4, beq_self_eq_true] <;> rfl) (by simp only [go_sem] <;> rfl) ?_
    refine Run.yes (by simp only [go_sem] <;> rfl) (by simp only [go_sem, hw, g1, g2, g3, hgt, he, Bool.not_true, hf, s1, s2, s3, s4, beq_self_eq_true]; (try simp (disch := omega) only [IntWalk.i64_in, IntWalk.u64_in, if_neg, if_pos])<;> rfl) (by simp only [go_sem] <;> rfl) ?_
    iterate 2 (refine Run.yes (by simp only [go_sem] <;> rfl) (by simp only [go_sem, hw, g1, g2, g3, hgt, he, Bool.not_true, hf, s1, s2, s3, s4, beq_self_eq_true] <;> rfl) (by simp only [go_sem] <;> rfl) ?_)
    refine Run.op (by simp only [go_sem, hw, g1, g2, g3, hgt, he, Bool.not_true, hf, s1, s2, s3, s4, beq_self_eq_true] <;> rfl) (by simp only [go_sem] <;> rfl) ?_
    refine Run.nil ?_
    refine Exec.cndS (by simp only [go_sem, hw, g1, g2, g3, hgt, he, Bool.not_true, hf, s1, s2, s3, s4, beq_self_eq_true] <;> rfl) (fun hb124 => ?_) (fun hb124 => ?_)
    · skip
      exact absurd hb124 (by simp)
    refine Exec.skipS ?_
    refine Exec.reg ?_
    refine Run.frz 3 (by simp only [go_sem] <;> rfl) ?_
    refine Run.frz 4 (by simp only [go_sem] <;> rfl) ?_
    refine Run.frz 5 (by simp only [go_sem] <;> rfl) ?_
    refine Run.op (by simp only [go_sem, hw, g1, g2, g3, hgt, he, Bool.not_true, hf, s1, s2, s3, s4, beq_self_eq_true] <;> rfl) (by simp only [go_sem] <;> rfl) ?_
    refine Run.op (by simp only [go_sem] <;> rfl) (by simp only [go_sem] <;> rfl) ?_
    refine Run.nil ?_
    refine Exec.assocS ?_
    refine Exec.reg ?_
    refine Run.frz 125 (by simp only [go_sem] <;> rfl) ?_
    refine Run.op (by simp only [go_sem] <;> rfl) (by simp only [go_sem] <;> rfl) ?_
    refine Run.op (by simp only [go_sem, hw, g1, g2, g3, hgt, he, Bool.not_true, hf, s1, s2, s3, s4, beq_self_eq_true] <;> rfl) (by simp only [go_sem] <;> rfl) ?_
    refine Run.op (by simp only [go_sem] <;> rfl) (by simp only [go_sem] <;> rfl) ?_
    refine Run.op (by simp only [go_sem, hw, g1, g2, g3, hgt, he, Bool.not_true, hf, s1, s2, s3, s4, beq_self_eq_true] <;> rfl) (by simp only [go_sem] <;> rfl) ?_
    refine Run.op (by simp only [go_sem] <;> rfl) (by simp only [go_sem] <;> rfl) ?_
    refine Run.op (by simp only [go_sem, hw, g1, g2, g3, hgt, he, Bool.not_true, hf, s1, s2, s3, s4, beq_self_eq_true] <;> rfl) (by simp only [go_sem] <;> rfl) ?_
    refine Run.op (by simp only [go_sem] <;> rfl) (by simp only [go_sem] <;> rfl) ?_
    refine Run.op (by simp only [go_sem, hw, g1, g2, g3, hgt, he, Bool.not_true, hf, s1, s2, s3, s4, beq_self_eq_true] <;> rfl) (by simp only [go_sem] <;> rfl) ?_
    refine Run.op (by simp only [go_sem] <;> rfl) (by simp only [go_sem] <;> rfl) ?_
    refine Run.op (by simp only [go_sem, hw, g1, g2, g3, hgt, he, Bool.not_true, hf, s1, s2, s3, s4, beq_self_eq_true] <;> rfl) (by simp only [go_sem] <;> rfl) ?_
    iterate 3 (refine Run.op (by simp only [go_sem, hw, g1, g2, g3, hgt, he, Bool.not_true, hf, s1, s2, s3, s4, beq_self_eq_true]; (try simp (disch := omega) only [IntWalk.i64_in, IntWalk.u64_in, if_neg, if_pos])<;> rfl) (by simp only [go_sem] <;> rfl) ?_)
    refine Run.op (by simp only [go_sem, hw, g1, g2, g3, hgt, he, Bool.not_true, hf, s1, s2, s3, s4, beq_self_eq_true] <;> rfl) (by simp only [go_sem] <;> rfl) ?_
    refine Run.frz 139 (by simp only [go_sem] <;> rfl) ?_
    refine Run.op (by simp only [go_sem, hw, g1, g2, g3, hgt, he, Bool.not_true, hf, s1, s2, s3, s4, beq_self_eq_true] <;> rfl) (by simp only [go_sem] <;> rfl) ?_
    refine Run.op (by simp only [go_sem] <;> rfl) (by simp only [go_sem] <;> rfl) ?_
    refine Run.nil ?_
    refine Exec.blk ?_
    have hQ : [[D.i (showsR w (house : Int) day).1.lo], [D.i (showsR w (house : Int) day).1.hi], [D.i ((showsR w (house : Int) day).1.lo + ((showsR w (house : Int) day).1.hi - (showsR w (house : Int) day).1.lo).tdiv 2)]] = (q3 w house day).map encInt := rfl
    rw [hQ]
    refine Exec.forA [7, 12, 139, 140, 141] [7] (3) (fun k => [.slot 141 (.int k)]) (fun _ => True) (fun k => by simp only [go_sem] <;> rfl) (by simp only [go_sem, hw, g1, g2, g3, hgt, he, Bool.not_true, hf, s1, s2, s3, s4, beq_self_eq_true] <;> rfl) ?_ (fun k hk hX => ?_)
    · trivial
    refine Exec.reg ?_
    refine Run.op (by simp only [go_sem, hw, g1, g2, g3, hgt, he, Bool.not_true, hf, s1, s2, s3, s4, beq_self_eq_true] <;> rfl) (by simp only [go_sem] <;> rfl) ?_
    refine Run.nil ?_
    refine Exec.cndS (by simp only [go_sem, hw, g1, g2, g3, hgt, he, Bool.not_true, hf, s1, s2, s3, s4, beq_self_eq_true] <;> rfl) (fun hb142 => ?_) (fun hb142 => ?_)
    · skip
      have hlt : k < (q3 w house day).length := by
        have := of_decide_eq_true hb142
        show k < 3
        omega
      have hk3 : k < 3 := hlt
      obtain ⟨x, hx⟩ : ∃ x, (q3 w house day)[k]? = some x := ⟨_, List.getElem?_eq_getElem hlt⟩
      have hin := q3_in he x (List.mem_of_getElem? hx)
      refine Exec.skipS ?_
      refine Exec.blk ?_
      by_cases hx0 : 0 ≤ x
      · skip
        have gx : decide (x ≥ 0) = true := by simpa using hx0
        refine Exec.reg ?_
        refine Run.op (by simp only [go_sem, hw, g1, g2, g3, hgt, he, Bool.not_true, hf, s1, s2, s3, s4, beq_self_eq_true, List.getElem?_map, hx, Option.map_some, gx]; (try simp (disch := omega) only [if_pos]); (try simp only [go_sem, hw, g1, g2, g3, hgt, he, Bool.not_true, hf, s1, s2, s3, s4, beq_self_eq_true, List.getElem?_map, hx, Option.map_some, gx])<;> rfl) (by simp only [go_sem] <;> rfl) ?_
        refine Run.op (by simp only [go_sem, hw, g1, g2, g3, hgt, he, Bool.not_true, hf, s1, s2, s3, s4, beq_self_eq_true, List.getElem?_map, hx, Option.map_some, gx] <;> rfl) (by simp only [go_sem] <;> rfl) ?_
        refine Run.op (by simp only [go_sem] <;> rfl) (by simp only [go_sem] <;> rfl) ?_
        refine Run.nil ?_
        by_cases hx1 : x ≤ 1073741824
        · skip
          have gx1 : decide (x ≤ 1073741824) = true := by simpa using hx1
          have hwk := one_walk (n := x) he h2 ⟨hx0, hx1⟩
          have hmf : (misfitR (oneW w house day x)).2.2 = 4 := by rw [misfit_is hwk, if_pos ((one_fits he).2 hin)]
          refine Exec.reg ?_
          refine Run.op (by simp only [go_sem] <;> rfl) (by simp only [go_sem] <;> rfl) ?_
          refine Run.op (by simp only [go_sem, hw, g1, g2, g3, hgt, he, Bool.not_true, hf, s1, s2, s3, s4, beq_self_eq_true, List.getElem?_map, hx, Option.map_some, gx, gx1, hmf] <;> rfl) (by simp only [go_sem] <;> rfl) ?_
          refine Run.op (by simp only [go_sem] <;> rfl) (by simp only [go_sem] <;> rfl) ?_
          refine Run.yes (by simp only [go_sem] <;> rfl) (by simp only [go_sem] <;> rfl) (by simp only [go_sem] <;> rfl) ?_
          refine Run.yes (by simp only [go_sem] <;> rfl) (by simp only [go_sem, hw, g1, g2, g3, hgt, he, Bool.not_true, hf, s1, s2, s3, s4, beq_self_eq_true, List.getElem?_map, hx, Option.map_some, gx, gx1, hmf] <;> rfl) (by simp only [go_sem] <;> rfl) ?_
          refine Run.op (by simp only [go_sem, hw, g1, g2, g3, hgt, he, Bool.not_true, hf, s1, s2, s3, s4, beq_self_eq_true, List.getElem?_map, hx, Option.map_some, gx, gx1, hmf] <;> rfl) (by simp only [go_sem] <;> rfl) ?_
          refine Run.op (by simp only [go_sem] <;> rfl) (by simp only [go_sem] <;> rfl) ?_
          iterate 2 (refine Run.yes (by simp only [go_sem] <;> rfl) (by simp only [go_sem] <;> rfl) (by simp only [go_sem] <;> rfl) ?_)
          refine Run.calw (by simp only [go_sem] <;> rfl) (c_law_days w house day x h1 (by omega)) (by simp only [go_sem]) (by simp only [go_sem, hw, g1, g2, g3, hgt, he, Bool.not_true, hf, s1, s2, s3, s4, beq_self_eq_true, List.getElem?_map, hx, Option.map_some, gx, gx1, hmf] <;> rfl) (by simp only [go_sem, hw, g1, g2, g3, hgt, he, Bool.not_true, hf, s1, s2, s3, s4, beq_self_eq_true, List.getElem?_map, hx, Option.map_some, gx, gx1, hmf] <;> rfl) (by exact ⟨by first | exact WkR.pure rfl | exact WkR.nil _ | exact WkR.int (by first | omega | (simp; done) | (simp; omega)), by first | exact WkR.pure rfl | exact WkR.nil _ | exact WkR.int (by first | omega | (simp; done) | (simp; omega)), by first | exact WkR.pure rfl | exact WkR.nil _ | exact WkR.int (by first | omega | (simp; done) | (simp; omega)), by first | exact WkR.pure rfl | exact WkR.nil _ | exact WkR.int (by first | omega | (simp; done) | (simp; omega)), trivial⟩) (fr0) (by simp only [go_sem, hw, g1, g2, g3, hgt, he, Bool.not_true, hf, s1, s2, s3, s4, beq_self_eq_true, List.getElem?_map, hx, Option.map_some, gx, gx1, hmf] <;> rfl) ?_
          refine Run.yes (by simp only [go_sem] <;> rfl) (by simp only [go_sem, hw, g1, g2, g3, hgt, he, Bool.not_true, hf, s1, s2, s3, s4, beq_self_eq_true, List.getElem?_map, hx, Option.map_some, gx, gx1, hmf] <;> rfl) (by simp only [go_sem] <;> rfl) ?_
          refine Run.op (by simp only [go_sem, hw, g1, g2, g3, hgt, he, Bool.not_true, hf, s1, s2, s3, s4, beq_self_eq_true, List.getElem?_map, hx, Option.map_some, gx, gx1, hmf] <;> rfl) (by simp only [go_sem] <;> rfl) ?_
          refine Run.nil ?_
          refine Exec.cnd (by simp only [go_sem, hw, g1, g2, g3, hgt, he, Bool.not_true, hf, s1, s2, s3, s4, beq_self_eq_true, List.getElem?_map, hx, Option.map_some, gx, gx1, hmf] <;> rfl) (fun hb156 => ?_) (fun hb156 => ?_)
          · skip
            exact absurd hb156 (by simp)
          refine BlkK.nrm ?_
          refine Exec.reg1 ?_
          refine Run.op (by simp only [go_sem, hw, g1, g2, g3, hgt, he, Bool.not_true, hf, s1, s2, s3, s4, beq_self_eq_true, List.getElem?_map, hx, Option.map_some, gx, gx1, hmf]; (try simp (disch := omega) only [IntWalk.i64_in, IntWalk.u64_in, if_neg, if_pos])<;> rfl) (by simp only [go_sem] <;> rfl) ?_
          refine Run.op (by simp only [go_sem] <;> rfl) (by simp only [go_sem] <;> rfl) ?_
          refine Run.nil ?_
          refine ForK.nxt ?_ ?_ ?_
          · omega
          · exact Ghost.kp [7, 12, 139, 140, 141] [7] (by simp only [go_sem, hw, g1, g2, g3, hgt, he, Bool.not_true, hf, s1, s2, s3, s4, beq_self_eq_true, List.getElem?_map, hx, Option.map_some, gx, gx1, hmf]; first | ((repeat' (first | with_reducible_and_instances rfl | refine st_eq ?_ ?_ ?_ | refine ret_eq ?_ | refine tup_eq ?_ | refine tm_eq ?_ ?_ | refine arr_eq ?_ | refine cells_eq ?_ | refine val_eq ?_ | refine ls_eq ?_ ?_ | refine own_eq ?_ ?_ | refine sl_eq ?_ | refine b_eq ?_ | (refine i_eq ?_; omega))); done) | rfl)
          · trivial
        have gx1 : decide (x ≤ 1073741824) = false := by simpa using hx1
        refine Exec.reg ?_
        refine Run.op (by simp only [go_sem] <;> rfl) (by simp only [go_sem] <;> rfl) ?_
        refine Run.op (by simp only [go_sem, hw, g1, g2, g3, hgt, he, Bool.not_true, hf, s1, s2, s3, s4, beq_self_eq_true, List.getElem?_map, hx, Option.map_some, gx, gx1] <;> rfl) (by simp only [go_sem] <;> rfl) ?_
        refine Run.op (by simp only [go_sem] <;> rfl) (by simp only [go_sem] <;> rfl) ?_
        refine Run.yes (by simp only [go_sem] <;> rfl) (by simp only [go_sem] <;> rfl) (by simp only [go_sem] <;> rfl) ?_
        refine Run.yes (by simp only [go_sem] <;> rfl) (by simp only [go_sem, hw, g1, g2, g3, hgt, he, Bool.not_true, hf, s1, s2, s3, s4, beq_self_eq_true, List.getElem?_map, hx, Option.map_some, gx, gx1] <;> rfl) (by simp only [go_sem] <;> rfl) ?_
        refine Run.op (by simp only [go_sem, hw, g1, g2, g3, hgt, he, Bool.not_true, hf, s1, s2, s3, s4, beq_self_eq_true, List.getElem?_map, hx, Option.map_some, gx, gx1] <;> rfl) (by simp only [go_sem] <;> rfl) ?_
        refine Run.op (by simp only [go_sem] <;> rfl) (by simp only [go_sem] <;> rfl) ?_
        iterate 4 (refine Run.skp (by simp only [go_sem] <;> rfl) (by simp only [go_sem] <;> rfl) ?_)
        refine Run.op (by simp only [go_sem, hw, g1, g2, g3, hgt, he, Bool.not_true, hf, s1, s2, s3, s4, beq_self_eq_true, List.getElem?_map, hx, Option.map_some, gx, gx1] <;> rfl) (by simp only [go_sem] <;> rfl) ?_
        refine Run.nil ?_
        refine Exec.cnd (by simp only [go_sem, hw, g1, g2, g3, hgt, he, Bool.not_true, hf, s1, s2, s3, s4, beq_self_eq_true, List.getElem?_map, hx, Option.map_some, gx, gx1] <;> rfl) (fun hb156 => ?_) (fun hb156 => ?_)
        · skip
          exact absurd hb156 (by simp)
        refine BlkK.nrm ?_
        refine Exec.reg1 ?_
        refine Run.op (by simp only [go_sem, hw, g1, g2, g3, hgt, he, Bool.not_true, hf, s1, s2, s3, s4, beq_self_eq_true, List.getElem?_map, hx, Option.map_some, gx, gx1]; (try simp (disch := omega) only [IntWalk.i64_in, IntWalk.u64_in, if_neg, if_pos])<;> rfl) (by simp only [go_sem] <;> rfl) ?_
        refine Run.op (by simp only [go_sem] <;> rfl) (by simp only [go_sem] <;> rfl) ?_
        refine Run.nil ?_
        refine ForK.nxt ?_ ?_ ?_
        · omega
        · exact Ghost.kp [7, 12, 139, 140, 141] [7] (by simp only [go_sem, hw, g1, g2, g3, hgt, he, Bool.not_true, hf, s1, s2, s3, s4, beq_self_eq_true, List.getElem?_map, hx, Option.map_some, gx, gx1]; first | ((repeat' (first | with_reducible_and_instances rfl | refine st_eq ?_ ?_ ?_ | refine ret_eq ?_ | refine tup_eq ?_ | refine tm_eq ?_ ?_ | refine arr_eq ?_ | refine cells_eq ?_ | refine val_eq ?_ | refine ls_eq ?_ ?_ | refine own_eq ?_ ?_ | refine sl_eq ?_ | refine b_eq ?_ | (refine i_eq ?_; omega))); done) | rfl)
        · trivial
      have gx : decide (x ≥ 0) = false := by simpa using hx0
      refine Exec.reg ?_
      refine Run.op (by simp only [go_sem, hw, g1, g2, g3, hgt, he, Bool.not_true, hf, s1, s2, s3, s4, beq_self_eq_true, List.getElem?_map, hx, Option.map_some, gx]; (try simp (disch := omega) only [if_pos]); (try simp only [go_sem, hw, g1, g2, g3, hgt, he, Bool.not_true, hf, s1, s2, s3, s4, beq_self_eq_true, List.getElem?_map, hx, Option.map_some, gx])<;> rfl) (by simp only [go_sem] <;> rfl) ?_
      refine Run.op (by simp only [go_sem, hw, g1, g2, g3, hgt, he, Bool.not_true, hf, s1, s2, s3, s4, beq_self_eq_true, List.getElem?_map, hx, Option.map_some, gx] <;> rfl) (by simp only [go_sem] <;> rfl) ?_
      refine Run.op (by simp only [go_sem] <;> rfl) (by simp only [go_sem] <;> rfl) ?_
      refine Run.nil ?_
      refine Exec.reg ?_
      refine Run.op (by simp only [go_sem] <;> rfl) (by simp only [go_sem] <;> rfl) ?_
      refine Run.op (by simp only [go_sem, hw, g1, g2, g3, hgt, he, Bool.not_true, hf, s1, s2, s3, s4, beq_self_eq_true, List.getElem?_map, hx, Option.map_some, gx] <;> rfl) (by simp only [go_sem] <;> rfl) ?_
      refine Run.op (by simp only [go_sem] <;> rfl) (by simp only [go_sem] <;> rfl) ?_
      iterate 2 (refine Run.skp (by simp only [go_sem] <;> rfl) (by simp only [go_sem] <;> rfl) ?_)
      refine Run.op (by simp only [go_sem, hw, g1, g2, g3, hgt, he, Bool.not_true, hf, s1, s2, s3, s4, beq_self_eq_true, List.getElem?_map, hx, Option.map_some, gx] <;> rfl) (by simp only [go_sem] <;> rfl) ?_
      refine Run.op (by simp only [go_sem] <;> rfl) (by simp only [go_sem] <;> rfl) ?_
      iterate 4 (refine Run.skp (by simp only [go_sem] <;> rfl) (by simp only [go_sem] <;> rfl) ?_)
      refine Run.op (by simp only [go_sem, hw, g1, g2, g3, hgt, he, Bool.not_true, hf, s1, s2, s3, s4, beq_self_eq_true, List.getElem?_map, hx, Option.map_some, gx] <;> rfl) (by simp only [go_sem] <;> rfl) ?_
      refine Run.nil ?_
      refine Exec.cnd (by simp only [go_sem, hw, g1, g2, g3, hgt, he, Bool.not_true, hf, s1, s2, s3, s4, beq_self_eq_true, List.getElem?_map, hx, Option.map_some, gx] <;> rfl) (fun hb156 => ?_) (fun hb156 => ?_)
      · skip
        exact absurd hb156 (by simp)
      refine BlkK.nrm ?_
      refine Exec.reg1 ?_
      refine Run.op (by simp only [go_sem, hw, g1, g2, g3, hgt, he, Bool.not_true, hf, s1, s2, s3, s4, beq_self_eq_true, List.getElem?_map, hx, Option.map_some, gx]; (try simp (disch := omega) only [IntWalk.i64_in, IntWalk.u64_in, if_neg, if_pos])<;> rfl) (by simp only [go_sem] <;> rfl) ?_
      refine Run.op (by simp only [go_sem] <;> rfl) (by simp only [go_sem] <;> rfl) ?_
      refine Run.nil ?_
      refine ForK.nxt ?_ ?_ ?_
      · omega
      · exact Ghost.kp [7, 12, 139, 140, 141] [7] (by simp only [go_sem, hw, g1, g2, g3, hgt, he, Bool.not_true, hf, s1, s2, s3, s4, beq_self_eq_true, List.getElem?_map, hx, Option.map_some, gx]; first | ((repeat' (first | with_reducible_and_instances rfl | refine st_eq ?_ ?_ ?_ | refine ret_eq ?_ | refine tup_eq ?_ | refine tm_eq ?_ ?_ | refine arr_eq ?_ | refine cells_eq ?_ | refine val_eq ?_ | refine ls_eq ?_ ?_ | refine own_eq ?_ ?_ | refine sl_eq ?_ | refine b_eq ?_ | (refine i_eq ?_; omega))); done) | rfl)
      · trivial
    refine Exec.exitS ?_
    refine ForK.ext ?_
    refine BlkK.hit ?_
    refine Exec.assocS ?_
    refine Exec.reg ?_
    refine Run.op (by simp only [go_sem] <;> rfl) (by simp only [go_sem] <;> rfl) ?_
    refine Run.op (by simp only [go_sem, hw, g1, g2, g3, hgt, he, Bool.not_true, hf, s1, s2, s3, s4, beq_self_eq_true] <;> rfl) (by simp only [go_sem] <;> rfl) ?_
    refine Run.op (by simp only [go_sem, hw, g1, g2, g3, hgt, he, Bool.not_true, hf, s1, s2, s3, s4, beq_self_eq_true]; (try simp (disch := omega) only [IntWalk.i64_in, IntWalk.u64_in, if_neg, if_pos])<;> rfl) (by simp only [go_sem] <;> rfl) ?_
    refine Run.op (by simp only [go_sem] <;> rfl) (by simp only [go_sem] <;> rfl) ?_
    refine Run.op (by simp only [go_sem, hw, g1, g2, g3, hgt, he, Bool.not_true, hf, s1, s2, s3, s4, beq_self_eq_true] <;> rfl) (by simp only [go_sem] <;> rfl) ?_
    refine Run.op (by simp only [go_sem, hw, g1, g2, g3, hgt, he, Bool.not_true, hf, s1, s2, s3, s4, beq_self_eq_true]; (try simp (disch := omega) only [IntWalk.i64_in, IntWalk.u64_in, if_neg, if_pos])<;> rfl) (by simp only [go_sem] <;> rfl) ?_
    refine Run.op (by simp only [go_sem, hw, g1, g2, g3, hgt, he, Bool.not_true, hf, s1, s2, s3, s4, beq_self_eq_true] <;> rfl) (by simp only [go_sem] <;> rfl) ?_
    refine Run.frz 164 (by simp only [go_sem] <;> rfl) ?_
    refine Run.op (by simp only [go_sem, hw, g1, g2, g3, hgt, he, Bool.not_true, hf, s1, s2, s3, s4, beq_self_eq_true] <;> rfl) (by simp only [go_sem] <;> rfl) ?_
    refine Run.op (by simp only [go_sem] <;> rfl) (by simp only [go_sem] <;> rfl) ?_
    refine Run.nil ?_
    refine Exec.blk ?_
    have hQ2 : [[D.i ((showsR w (house : Int) day).1.lo - 1)], [D.i ((showsR w (house : Int) day).1.hi + 1)]] = (q2 w house day).map encInt := rfl
    rw [hQ2]
    refine Exec.forA [12, 164, 165, 166] [] (2) (fun k => [.slot 166 (.int k)]) (fun _ => True) (fun k => by simp only [go_sem] <;> rfl) (by simp only [go_sem, hw, g1, g2, g3, hgt, he, Bool.not_true, hf, s1, s2, s3, s4, beq_self_eq_true] <;> rfl) ?_ (fun k hk hX => ?_)
    · trivial
    refine Exec.reg ?_
    refine Run.op (by simp only [go_sem, hw, g1, g2, g3, hgt, he, Bool.not_true, hf, s1, s2, s3, s4, beq_self_eq_true] <;> rfl) (by simp only [go_sem] <;> rfl) ?_
    refine Run.nil ?_
    refine Exec.cndS (by simp only [go_sem, hw, g1, g2, g3, hgt, he, Bool.not_true, hf, s1, s2, s3, s4, beq_self_eq_true] <;> rfl) (fun hb167 => ?_) (fun hb167 => ?_)
    · skip
      have hlt : k < (q2 w house day).length := by
        have := of_decide_eq_true hb167
        show k < 2
        omega
      have hk3 : k < 2 := hlt
      obtain ⟨x, hx⟩ : ∃ x, (q2 w house day)[k]? = some x := ⟨_, List.getElem?_eq_getElem hlt⟩
      have hout := q2_out he x (List.mem_of_getElem? hx)
      refine Exec.skipS ?_
      refine Exec.blk ?_
      by_cases hx0 : 0 ≤ x
      · skip
        have gx : decide (x ≥ 0) = true := by simpa using hx0
        refine Exec.reg ?_
        refine Run.op (by simp only [go_sem, hw, g1, g2, g3, hgt, he, Bool.not_true, hf, s1, s2, s3, s4, beq_self_eq_true, List.getElem?_map, hx, Option.map_some, gx]; (try simp (disch := omega) only [if_pos]); (try simp only [go_sem, hw, g1, g2, g3, hgt, he, Bool.not_true, hf, s1, s2, s3, s4, beq_self_eq_true, List.getElem?_map, hx, Option.map_some, gx])<;> rfl) (by simp only [go_sem] <;> rfl) ?_
        refine Run.op (by simp only [go_sem, hw, g1, g2, g3, hgt, he, Bool.not_true, hf, s1, s2, s3, s4, beq_self_eq_true, List.getElem?_map, hx, Option.map_some, gx] <;> rfl) (by simp only [go_sem] <;> rfl) ?_
        refine Run.op (by simp only [go_sem] <;> rfl) (by simp only [go_sem] <;> rfl) ?_
        refine Run.nil ?_
        by_cases hx1 : x ≤ 1073741824
        · skip
          have gx1 : decide (x ≤ 1073741824) = true := by simpa using hx1
          have hwk := one_walk (n := x) he h2 ⟨hx0, hx1⟩
          have hmf : (misfitR (oneW w house day x)).2.2 = 0 := by rw [misfit_is hwk, if_neg (fun h => hout ((one_fits he).1 h))]
          refine Exec.reg ?_
          refine Run.op (by simp only [go_sem] <;> rfl) (by simp only [go_sem] <;> rfl) ?_
          refine Run.op (by simp only [go_sem, hw, g1, g2, g3, hgt, he, Bool.not_true, hf, s1, s2, s3, s4, beq_self_eq_true, List.getElem?_map, hx, Option.map_some, gx, gx1, hmf] <;> rfl) (by simp only [go_sem] <;> rfl) ?_
          refine Run.op (by simp only [go_sem] <;> rfl) (by simp only [go_sem] <;> rfl) ?_
          refine Run.yes (by simp only [go_sem] <;> rfl) (by simp only [go_sem] <;> rfl) (by simp only [go_sem] <;> rfl) ?_
          refine Run.yes (by simp only [go_sem] <;> rfl) (by simp only [go_sem, hw, g1, g2, g3, hgt, he, Bool.not_true, hf, s1, s2, s3, s4, beq_self_eq_true, List.getElem?_map, hx, Option.map_some, gx, gx1, hmf] <;> rfl) (by simp only [go_sem] <;> rfl) ?_
          refine Run.op (by simp only [go_sem, hw, g1, g2, g3, hgt, he, Bool.not_true, hf, s1, s2, s3, s4, beq_self_eq_true, List.getElem?_map, hx, Option.map_some, gx, gx1, hmf] <;> rfl) (by simp only [go_sem] <;> rfl) ?_
          refine Run.op (by simp only [go_sem] <;> rfl) (by simp only [go_sem] <;> rfl) ?_
          iterate 2 (refine Run.yes (by simp only [go_sem] <;> rfl) (by simp only [go_sem] <;> rfl) (by simp only [go_sem] <;> rfl) ?_)
          refine Run.calw (by simp only [go_sem] <;> rfl) (c_law_days w house day x h1 (by omega)) (by simp only [go_sem]) (by simp only [go_sem, hw, g1, g2, g3, hgt, he, Bool.not_true, hf, s1, s2, s3, s4, beq_self_eq_true, List.getElem?_map, hx, Option.map_some, gx, gx1, hmf] <;> rfl) (by simp only [go_sem, hw, g1, g2, g3, hgt, he, Bool.not_true, hf, s1, s2, s3, s4, beq_self_eq_true, List.getElem?_map, hx, Option.map_some, gx, gx1, hmf] <;> rfl) (by exact ⟨by first | exact WkR.pure rfl | exact WkR.nil _ | exact WkR.int (by first | omega | (simp; done) | (simp; omega)), by first | exact WkR.pure rfl | exact WkR.nil _ | exact WkR.int (by first | omega | (simp; done) | (simp; omega)), by first | exact WkR.pure rfl | exact WkR.nil _ | exact WkR.int (by first | omega | (simp; done) | (simp; omega)), by first | exact WkR.pure rfl | exact WkR.nil _ | exact WkR.int (by first | omega | (simp; done) | (simp; omega)), trivial⟩) (fr0) (by simp only [go_sem, hw, g1, g2, g3, hgt, he, Bool.not_true, hf, s1, s2, s3, s4, beq_self_eq_true, List.getElem?_map, hx, Option.map_some, gx, gx1, hmf] <;> rfl) ?_
          refine Run.yes (by simp only [go_sem] <;> rfl) (by simp only [go_sem, hw, g1, g2, g3, hgt, he, Bool.not_true, hf, s1, s2, s3, s4, beq_self_eq_true, List.getElem?_map, hx, Option.map_some, gx, gx1, hmf] <;> rfl) (by simp only [go_sem] <;> rfl) ?_
          refine Run.op (by simp only [go_sem, hw, g1, g2, g3, hgt, he, Bool.not_true, hf, s1, s2, s3, s4, beq_self_eq_true, List.getElem?_map, hx, Option.map_some, gx, gx1, hmf] <;> rfl) (by simp only [go_sem] <;> rfl) ?_
          refine Run.nil ?_
          refine Exec.cnd (by simp only [go_sem, hw, g1, g2, g3, hgt, he, Bool.not_true, hf, s1, s2, s3, s4, beq_self_eq_true, List.getElem?_map, hx, Option.map_some, gx, gx1, hmf] <;> rfl) (fun hb181 => ?_) (fun hb181 => ?_)
          · skip
            exact absurd hb181 (by simp)
          refine BlkK.nrm ?_
          refine Exec.reg1 ?_
          refine Run.op (by simp only [go_sem, hw, g1, g2, g3, hgt, he, Bool.not_true, hf, s1, s2, s3, s4, beq_self_eq_true, List.getElem?_map, hx, Option.map_some, gx, gx1, hmf]; (try simp (disch := omega) only [IntWalk.i64_in, IntWalk.u64_in, if_neg, if_pos])<;> rfl) (by simp only [go_sem] <;> rfl) ?_
          refine Run.op (by simp only [go_sem] <;> rfl) (by simp only [go_sem] <;> rfl) ?_
          refine Run.nil ?_
          refine ForK.nxt ?_ ?_ ?_
          · omega
          · exact Ghost.kp [12, 164, 165, 166] [] (by simp only [go_sem, hw, g1, g2, g3, hgt, he, Bool.not_true, hf, s1, s2, s3, s4, beq_self_eq_true, List.getElem?_map, hx, Option.map_some, gx, gx1, hmf]; first | ((repeat' (first | with_reducible_and_instances rfl | refine st_eq ?_ ?_ ?_ | refine ret_eq ?_ | refine tup_eq ?_ | refine tm_eq ?_ ?_ | refine arr_eq ?_ | refine cells_eq ?_ | refine val_eq ?_ | refine ls_eq ?_ ?_ | refine own_eq ?_ ?_ | refine sl_eq ?_ | refine b_eq ?_ | (refine i_eq ?_; omega))); done) | rfl)
          · trivial
        have gx1 : decide (x ≤ 1073741824) = false := by simpa using hx1
        refine Exec.reg ?_
        refine Run.op (by simp only [go_sem] <;> rfl) (by simp only [go_sem] <;> rfl) ?_
        refine Run.op (by simp only [go_sem, hw, g1, g2, g3, hgt, he, Bool.not_true, hf, s1, s2, s3, s4, beq_self_eq_true, List.getElem?_map, hx, Option.map_some, gx, gx1] <;> rfl) (by simp only [go_sem] <;> rfl) ?_
        refine Run.op (by simp only [go_sem] <;> rfl) (by simp only [go_sem] <;> rfl) ?_
        refine Run.yes (by simp only [go_sem] <;> rfl) (by simp only [go_sem] <;> rfl) (by simp only [go_sem] <;> rfl) ?_
        refine Run.yes (by simp only [go_sem] <;> rfl) (by simp only [go_sem, hw, g1, g2, g3, hgt, he, Bool.not_true, hf, s1, s2, s3, s4, beq_self_eq_true, List.getElem?_map, hx, Option.map_some, gx, gx1] <;> rfl) (by simp only [go_sem] <;> rfl) ?_
        refine Run.op (by simp only [go_sem, hw, g1, g2, g3, hgt, he, Bool.not_true, hf, s1, s2, s3, s4, beq_self_eq_true, List.getElem?_map, hx, Option.map_some, gx, gx1] <;> rfl) (by simp only [go_sem] <;> rfl) ?_
        refine Run.op (by simp only [go_sem] <;> rfl) (by simp only [go_sem] <;> rfl) ?_
        iterate 4 (refine Run.skp (by simp only [go_sem] <;> rfl) (by simp only [go_sem] <;> rfl) ?_)
        refine Run.op (by simp only [go_sem, hw, g1, g2, g3, hgt, he, Bool.not_true, hf, s1, s2, s3, s4, beq_self_eq_true, List.getElem?_map, hx, Option.map_some, gx, gx1] <;> rfl) (by simp only [go_sem] <;> rfl) ?_
        refine Run.nil ?_
        refine Exec.cnd (by simp only [go_sem, hw, g1, g2, g3, hgt, he, Bool.not_true, hf, s1, s2, s3, s4, beq_self_eq_true, List.getElem?_map, hx, Option.map_some, gx, gx1] <;> rfl) (fun hb181 => ?_) (fun hb181 => ?_)
        · skip
          exact absurd hb181 (by simp)
        refine BlkK.nrm ?_
        refine Exec.reg1 ?_
        refine Run.op (by simp only [go_sem, hw, g1, g2, g3, hgt, he, Bool.not_true, hf, s1, s2, s3, s4, beq_self_eq_true, List.getElem?_map, hx, Option.map_some, gx, gx1]; (try simp (disch := omega) only [IntWalk.i64_in, IntWalk.u64_in, if_neg, if_pos])<;> rfl) (by simp only [go_sem] <;> rfl) ?_
        refine Run.op (by simp only [go_sem] <;> rfl) (by simp only [go_sem] <;> rfl) ?_
        refine Run.nil ?_
        refine ForK.nxt ?_ ?_ ?_
        · omega
        · exact Ghost.kp [12, 164, 165, 166] [] (by simp only [go_sem, hw, g1, g2, g3, hgt, he, Bool.not_true, hf, s1, s2, s3, s4, beq_self_eq_true, List.getElem?_map, hx, Option.map_some, gx, gx1]; first | ((repeat' (first | with_reducible_and_instances rfl | refine st_eq ?_ ?_ ?_ | refine ret_eq ?_ | refine tup_eq ?_ | refine tm_eq ?_ ?_ | refine arr_eq ?_ | refine cells_eq ?_ | refine val_eq ?_ | refine ls_eq ?_ ?_ | refine own_eq ?_ ?_ | refine sl_eq ?_ | refine b_eq ?_ | (refine i_eq ?_; omega))); done) | rfl)
        · trivial
      have gx : decide (x ≥ 0) = false := by simpa using hx0
      refine Exec.reg ?_
      refine Run.op (by simp only [go_sem, hw, g1, g2, g3, hgt, he, Bool.not_true, hf, s1, s2, s3, s4, beq_self_eq_true, List.getElem?_map, hx, Option.map_some, gx]; (try simp (disch := omega) only [if_pos]); (try simp only [go_sem, hw, g1, g2, g3, hgt, he, Bool.not_true, hf, s1, s2, s3, s4, beq_self_eq_true, List.getElem?_map, hx, Option.map_some, gx])<;> rfl) (by simp only [go_sem] <;> rfl) ?_
      refine Run.op (by simp only [go_sem, hw, g1, g2, g3, hgt, he, Bool.not_true, hf, s1, s2, s3, s4, beq_self_eq_true, List.getElem?_map, hx, Option.map_some, gx] <;> rfl) (by simp only [go_sem] <;> rfl) ?_
      refine Run.op (by simp only [go_sem] <;> rfl) (by simp only [go_sem] <;> rfl) ?_
      refine Run.nil ?_
      refine Exec.reg ?_
      refine Run.op (by simp only [go_sem] <;> rfl) (by simp only [go_sem] <;> rfl) ?_
      refine Run.op (by simp only [go_sem, hw, g1, g2, g3, hgt, he, Bool.not_true, hf, s1, s2, s3, s4, beq_self_eq_true, List.getElem?_map, hx, Option.map_some, gx] <;> rfl) (by simp only [go_sem] <;> rfl) ?_
      refine Run.op (by simp only [go_sem] <;> rfl) (by simp only [go_sem] <;> rfl) ?_
      iterate 2 (refine Run.skp (by simp only [go_sem] <;> rfl) (by simp only [go_sem] <;> rfl) ?_)
      refine Run.op (by simp only [go_sem, hw, g1, g2, g3, hgt, he, Bool.not_true, hf, s1, s2, s3, s4, beq_self_eq_true, List.getElem?_map, hx, Option.map_some, gx] <;> rfl) (by simp only [go_sem] <;> rfl) ?_
      refine Run.op (by simp only [go_sem] <;> rfl) (by simp only [go_sem] <;> rfl) ?_
      iterate 4 (refine Run.skp (by simp only [go_sem] <;> rfl) (by simp only [go_sem] <;> rfl) ?_)
      refine Run.op (by simp only [go_sem, hw, g1, g2, g3, hgt, he, Bool.not_true, hf, s1, s2, s3, s4, beq_self_eq_true, List.getElem?_map, hx, Option.map_some, gx] <;> rfl) (by simp only [go_sem] <;> rfl) ?_
      refine Run.nil ?_
      refine Exec.cnd (by simp only [go_sem, hw, g1, g2, g3, hgt, he, Bool.not_true, hf, s1, s2, s3, s4, beq_self_eq_true, List.getElem?_map, hx, Option.map_some, gx] <;> rfl) (fun hb181 => ?_) (fun hb181 => ?_)
      · skip
        exact absurd hb181 (by simp)
      refine BlkK.nrm ?_
      refine Exec.reg1 ?_
      refine Run.op (by simp only [go_sem, hw, g1, g2, g3, hgt, he, Bool.not_true, hf, s1, s2, s3, s4, beq_self_eq_true, List.getElem?_map, hx, Option.map_some, gx]; (try simp (disch := omega) only [IntWalk.i64_in, IntWalk.u64_in, if_neg, if_pos])<;> rfl) (by simp only [go_sem] <;> rfl) ?_
      refine Run.op (by simp only [go_sem] <;> rfl) (by simp only [go_sem] <;> rfl) ?_
      refine Run.nil ?_
      refine ForK.nxt ?_ ?_ ?_
      · omega
      · exact Ghost.kp [12, 164, 165, 166] [] (by simp only [go_sem, hw, g1, g2, g3, hgt, he, Bool.not_true, hf, s1, s2, s3, s4, beq_self_eq_true, List.getElem?_map, hx, Option.map_some, gx]; first | ((repeat' (first | with_reducible_and_instances rfl | refine st_eq ?_ ?_ ?_ | refine ret_eq ?_ | refine tup_eq ?_ | refine tm_eq ?_ ?_ | refine arr_eq ?_ | refine cells_eq ?_ | refine val_eq ?_ | refine ls_eq ?_ ?_ | refine own_eq ?_ ?_ | refine sl_eq ?_ | refine b_eq ?_ | (refine i_eq ?_; omega))); done) | rfl)
      · trivial
    refine Exec.exitS ?_
    refine ForK.ext ?_
    refine BlkK.hit ?_
    refine Exec.reg ?_
    refine Run.cal (c_law_alive) (by simp only [go_sem]) (by simp only [go_sem, hw, g1, g2, g3, hgt, he, Bool.not_true, hf, s1, s2, s3, s4, beq_self_eq_true] <;> rfl) (by exact trivial) (fr0) (by simp only [go_sem, hw, g1, g2, g3, hgt, he, Bool.not_true, hf, s1, s2, s3, s4, beq_self_eq_true] <;> rfl) ?_
    refine Run.op (by simp only [go_sem] <;> rfl) (by simp only [go_sem] <;> rfl) ?_
    refine Run.nil ?_
    exact Ends.fin [] (rs := [.tmp 6]) rfl (by simp only [go_sem, hw, g1, g2, g3, hgt, he, Bool.not_true, hf, s1, s2, s3, s4, beq_self_eq_true] <;> rfl) (by simp only [go_sem, hw, g1, g2, g3, hgt, he, Bool.not_true, hf, s1, s2, s3, s4, beq_self_eq_true] <;> first | rfl | ((repeat' (first | with_reducible_and_instances rfl | refine st_eq ?_ ?_ ?_ | refine ret_eq ?_ | refine tup_eq ?_ | refine tm_eq ?_ ?_ | refine arr_eq ?_ | refine cells_eq ?_ | refine val_eq ?_ | refine ls_eq ?_ ?_ | refine own_eq ?_ ?_ | refine sl_eq ?_ | refine b_eq ?_ | (refine i_eq ?_; omega))); done))
  have hf2 : ((showsR w house (day + 1)).2 == 0) = false := by simpa using hf
  refine Exec.reg ?_
  refine Run.op (by simp only [go_sem] <;> rfl) (by simp only [go_sem] <;> rfl) ?_
  refine Run.op (by simp only [go_sem, hw, g1, g2, g3, hgt, he, Bool.not_true, hf2] <;> rfl) (by simp only [go_sem] <;> rfl) ?_
  refine Run.op (by simp only [go_sem] <;> rfl) (by simp only [go_sem] <;> rfl) ?_
  iterate 38 (refine Run.skp (by simp only [go_sem] <;> rfl) (by simp only [go_sem] <;> rfl) ?_)
  refine Run.op (by simp only [go_sem, hw, g1, g2, g3, hgt, he, Bool.not_true, hf2] <;> rfl) (by simp only [go_sem] <;> rfl) ?_
  refine Run.nil ?_
  refine Exec.cndS (by simp only [go_sem, hw, g1, g2, g3, hgt, he, Bool.not_true, hf2] <;> rfl) (fun hb124 => ?_) (fun hb124 => ?_)
  · skip
    exact absurd hb124 (by simp)
  refine Exec.skipS ?_
  refine Exec.reg ?_
  refine Run.frz 3 (by simp only [go_sem] <;> rfl) ?_
  refine Run.frz 4 (by simp only [go_sem] <;> rfl) ?_
  refine Run.frz 5 (by simp only [go_sem] <;> rfl) ?_
  refine Run.op (by simp only [go_sem, hw, g1, g2, g3, hgt, he, Bool.not_true, hf2] <;> rfl) (by simp only [go_sem] <;> rfl) ?_
  refine Run.op (by simp only [go_sem] <;> rfl) (by simp only [go_sem] <;> rfl) ?_
  refine Run.nil ?_
  refine Exec.assocS ?_
  refine Exec.reg ?_
  refine Run.frz 125 (by simp only [go_sem] <;> rfl) ?_
  refine Run.op (by simp only [go_sem] <;> rfl) (by simp only [go_sem] <;> rfl) ?_
  refine Run.op (by simp only [go_sem, hw, g1, g2, g3, hgt, he, Bool.not_true, hf2] <;> rfl) (by simp only [go_sem] <;> rfl) ?_
  refine Run.op (by simp only [go_sem] <;> rfl) (by simp only [go_sem] <;> rfl) ?_
  refine Run.op (by simp only [go_sem, hw, g1, g2, g3, hgt, he, Bool.not_true, hf2] <;> rfl) (by simp only [go_sem] <;> rfl) ?_
  refine Run.op (by simp only [go_sem] <;> rfl) (by simp only [go_sem] <;> rfl) ?_
  refine Run.op (by simp only [go_sem, hw, g1, g2, g3, hgt, he, Bool.not_true, hf2] <;> rfl) (by simp only [go_sem] <;> rfl) ?_
  refine Run.op (by simp only [go_sem] <;> rfl) (by simp only [go_sem] <;> rfl) ?_
  refine Run.op (by simp only [go_sem, hw, g1, g2, g3, hgt, he, Bool.not_true, hf2] <;> rfl) (by simp only [go_sem] <;> rfl) ?_
  refine Run.op (by simp only [go_sem] <;> rfl) (by simp only [go_sem] <;> rfl) ?_
  refine Run.op (by simp only [go_sem, hw, g1, g2, g3, hgt, he, Bool.not_true, hf2] <;> rfl) (by simp only [go_sem] <;> rfl) ?_
  iterate 3 (refine Run.op (by simp only [go_sem, hw, g1, g2, g3, hgt, he, Bool.not_true, hf2]; (try simp (disch := omega) only [IntWalk.i64_in, IntWalk.u64_in, if_neg, if_pos])<;> rfl) (by simp only [go_sem] <;> rfl) ?_)
  refine Run.op (by simp only [go_sem, hw, g1, g2, g3, hgt, he, Bool.not_true, hf2] <;> rfl) (by simp only [go_sem] <;> rfl) ?_
  refine Run.frz 139 (by simp only [go_sem] <;> rfl) ?_
  refine Run.op (by simp only [go_sem, hw, g1, g2, g3, hgt, he, Bool.not_true, hf2] <;> rfl) (by simp only [go_sem] <;> rfl) ?_
  refine Run.op (by simp only [go_sem] <;> rfl) (by simp only [go_sem] <;> rfl) ?_
  refine Run.nil ?_
  refine Exec.blk ?_
  have hQ : [[D.i (showsR w (house : Int) day).1.lo], [D.i (showsR w (house : Int) day).1.hi], [D.i ((showsR w (house : Int) day).1.lo + ((showsR w (house : Int) day).1.hi - (showsR w (house : Int) day).1.lo).tdiv 2)]] = (q3 w house day).map encInt := rfl
  rw [hQ]
  refine Exec.forA [7, 12, 139, 140, 141] [7] (3) (fun k => [.slot 141 (.int k)]) (fun _ => True) (fun k => by simp only [go_sem] <;> rfl) (by simp only [go_sem, hw, g1, g2, g3, hgt, he, Bool.not_true, hf2] <;> rfl) ?_ (fun k hk hX => ?_)
  · trivial
  refine Exec.reg ?_
  refine Run.op (by simp only [go_sem, hw, g1, g2, g3, hgt, he, Bool.not_true, hf2] <;> rfl) (by simp only [go_sem] <;> rfl) ?_
  refine Run.nil ?_
  refine Exec.cndS (by simp only [go_sem, hw, g1, g2, g3, hgt, he, Bool.not_true, hf2] <;> rfl) (fun hb142 => ?_) (fun hb142 => ?_)
  · skip
    have hlt : k < (q3 w house day).length := by
      have := of_decide_eq_true hb142
      show k < 3
      omega
    have hk3 : k < 3 := hlt
    obtain ⟨x, hx⟩ : ∃ x, (q3 w house day)[k]? = some x := ⟨_, List.getElem?_eq_getElem hlt⟩
    have hin := q3_in he x (List.mem_of_getElem? hx)
    refine Exec.skipS ?_
    refine Exec.blk ?_
    by_cases hx0 : 0 ≤ x
    · skip
      have gx : decide (x ≥ 0) = true := by simpa using hx0
      refine Exec.reg ?_
      refine Run.op (by simp only [go_sem, hw, g1, g2, g3, hgt, he, Bool.not_true, hf2, List.getElem?_map, hx, Option.map_some, gx]; (try simp (disch := omega) only [if_pos]); (try simp only [go_sem, hw, g1, g2, g3, hgt, he, Bool.not_true, hf2, List.getElem?_map, hx, Option.map_some, gx])<;> rfl) (by simp only [go_sem] <;> rfl) ?_
      refine Run.op (by simp only [go_sem, hw, g1, g2, g3, hgt, he, Bool.not_true, hf2, List.getElem?_map, hx, Option.map_some, gx] <;> rfl) (by simp only [go_sem] <;> rfl) ?_
      refine Run.op (by simp only [go_sem] <;> rfl) (by simp only [go_sem] <;> rfl) ?_
      refine Run.nil ?_
      by_cases hx1 : x ≤ 1073741824
      · skip
        have gx1 : decide (x ≤ 1073741824) = true := by simpa using hx1
        have hwk := one_walk (n := x) he h2 ⟨hx0, hx1⟩
        have hmf : (misfitR (oneW w house day x)).2.2 = 4 := by rw [misfit_is hwk, if_pos ((one_fits he).2 hin)]
        refine Exec.reg ?_
        refine Run.op (by simp only [go_sem] <;> rfl) (by simp only [go_sem] <;> rfl) ?_
        refine Run.op (by simp only [go_sem, hw, g1, g2, g3, hgt, he, Bool.not_true, hf2, List.getElem?_map, hx, Option.map_some, gx, gx1, hmf] <;> rfl) (by simp only [go_sem] <;> rfl) ?_
        refine Run.op (by simp only [go_sem] <;> rfl) (by simp only [go_sem] <;> rfl) ?_
        refine Run.yes (by simp only [go_sem] <;> rfl) (by simp only [go_sem] <;> rfl) (by simp only [go_sem] <;> rfl) ?_
        refine Run.yes (by simp only [go_sem] <;> rfl) (by simp only [go_sem, hw, g1, g2, g3, hgt, he, Bool.not_true, hf2, List.getElem?_map, hx, Option.map_some, gx, gx1, hmf] <;> rfl) (by simp only [go_sem] <;> rfl) ?_
        refine Run.op (by simp only [go_sem, hw, g1, g2, g3, hgt, he, Bool.not_true, hf2, List.getElem?_map, hx, Option.map_some, gx, gx1, hmf] <;> rfl) (by simp only [go_sem] <;> rfl) ?_
        refine Run.op (by simp only [go_sem] <;> rfl) (by simp only [go_sem] <;> rfl) ?_
        iterate 2 (refine Run.yes (by simp only [go_sem] <;> rfl) (by simp only [go_sem] <;> rfl) (by simp only [go_sem] <;> rfl) ?_)
        refine Run.calw (by simp only [go_sem] <;> rfl) (c_law_days w house day x h1 (by omega)) (by simp only [go_sem]) (by simp only [go_sem, hw, g1, g2, g3, hgt, he, Bool.not_true, hf2, List.getElem?_map, hx, Option.map_some, gx, gx1, hmf] <;> rfl) (by simp only [go_sem, hw, g1, g2, g3, hgt, he, Bool.not_true, hf2, List.getElem?_map, hx, Option.map_some, gx, gx1, hmf] <;> rfl) (by exact ⟨by first | exact WkR.pure rfl | exact WkR.nil _ | exact WkR.int (by first | omega | (simp; done) | (simp; omega)), by first | exact WkR.pure rfl | exact WkR.nil _ | exact WkR.int (by first | omega | (simp; done) | (simp; omega)), by first | exact WkR.pure rfl | exact WkR.nil _ | exact WkR.int (by first | omega | (simp; done) | (simp; omega)), by first | exact WkR.pure rfl | exact WkR.nil _ | exact WkR.int (by first | omega | (simp; done) | (simp; omega)), trivial⟩) (fr0) (by simp only [go_sem, hw, g1, g2, g3, hgt, he, Bool.not_true, hf2, List.getElem?_map, hx, Option.map_some, gx, gx1, hmf] <;> rfl) ?_
        refine Run.yes (by simp only [go_sem] <;> rfl) (by simp only [go_sem, hw, g1, g2, g3, hgt, he, Bool.not_true, hf2, List.getElem?_map, hx, Option.map_some, gx, gx1, hmf] <;> rfl) (by simp only [go_sem] <;> rfl) ?_
        refine Run.op (by simp only [go_sem, hw, g1, g2, g3, hgt, he, Bool.not_true, hf2, List.getElem?_map, hx, Option.map_some, gx, gx1, hmf] <;> rfl) (by simp only [go_sem] <;> rfl) ?_
        refine Run.nil ?_
        refine Exec.cnd (by simp only [go_sem, hw, g1, g2, g3, hgt, he, Bool.not_true, hf2, List.getElem?_map, hx, Option.map_some, gx, gx1, hmf] <;> rfl) (fun hb156 => ?_) (fun hb156 => ?_)
        · skip
          exact absurd hb156 (by simp)
        refine BlkK.nrm ?_
        refine Exec.reg1 ?_
        refine Run.op (by simp only [go_sem, hw, g1, g2, g3, hgt, he, Bool.not_true, hf2, List.getElem?_map, hx, Option.map_some, gx, gx1, hmf]; (try simp (disch := omega) only [IntWalk.i64_in, IntWalk.u64_in, if_neg, if_pos])<;> rfl) (by simp only [go_sem] <;> rfl) ?_
        refine Run.op (by simp only [go_sem] <;> rfl) (by simp only [go_sem] <;> rfl) ?_
        refine Run.nil ?_
        refine ForK.nxt ?_ ?_ ?_
        · omega
        · exact Ghost.kp [7, 12, 139, 140, 141] [7] (by simp only [go_sem, hw, g1, g2, g3, hgt, he, Bool.not_true, hf2, List.getElem?_map, hx, Option.map_some, gx, gx1, hmf]; first | ((repeat' (first | with_reducible_and_instances rfl | refine st_eq ?_ ?_ ?_ | refine ret_eq ?_ | refine tup_eq ?_ | refine tm_eq ?_ ?_ | refine arr_eq ?_ | refine cells_eq ?_ | refine val_eq ?_ | refine ls_eq ?_ ?_ | refine own_eq ?_ ?_ | refine sl_eq ?_ | refine b_eq ?_ | (refine i_eq ?_; omega))); done) | rfl)
        · trivial
      have gx1 : decide (x ≤ 1073741824) = false := by simpa using hx1
      refine Exec.reg ?_
      refine Run.op (by simp only [go_sem] <;> rfl) (by simp only [go_sem] <;> rfl) ?_
      refine Run.op (by simp only [go_sem, hw, g1, g2, g3, hgt, he, Bool.not_true, hf2, List.getElem?_map, hx, Option.map_some, gx, gx1] <;> rfl) (by simp only [go_sem] <;> rfl) ?_
      refine Run.op (by simp only [go_sem] <;> rfl) (by simp only [go_sem] <;> rfl) ?_
      refine Run.yes (by simp only [go_sem] <;> rfl) (by simp only [go_sem] <;> rfl) (by simp only [go_sem] <;> rfl) ?_
      refine Run.yes (by simp only [go_sem] <;> rfl) (by simp only [go_sem, hw, g1, g2, g3, hgt, he, Bool.not_true, hf2, List.getElem?_map, hx, Option.map_some, gx, gx1] <;> rfl) (by simp only [go_sem] <;> rfl) ?_
      refine Run.op (by simp only [go_sem, hw, g1, g2, g3, hgt, he, Bool.not_true, hf2, List.getElem?_map, hx, Option.map_some, gx, gx1] <;> rfl) (by simp only [go_sem] <;> rfl) ?_
      refine Run.op (by simp only [go_sem] <;> rfl) (by simp only [go_sem] <;> rfl) ?_
      iterate 4 (refine Run.skp (by simp only [go_sem] <;> rfl) (by simp only [go_sem] <;> rfl) ?_)
      refine Run.op (by simp only [go_sem, hw, g1, g2, g3, hgt, he, Bool.not_true, hf2, List.getElem?_map, hx, Option.map_some, gx, gx1] <;> rfl) (by simp only [go_sem] <;> rfl) ?_
      refine Run.nil ?_
      refine Exec.cnd (by simp only [go_sem, hw, g1, g2, g3, hgt, he, Bool.not_true, hf2, List.getElem?_map, hx, Option.map_some, gx, gx1] <;> rfl) (fun hb156 => ?_) (fun hb156 => ?_)
      · skip
        exact absurd hb156 (by simp)
      refine BlkK.nrm ?_
      refine Exec.reg1 ?_
      refine Run.op (by simp only [go_sem, hw, g1, g2, g3, hgt, he, Bool.not_true, hf2, List.getElem?_map, hx, Option.map_some, gx, gx1]; (try simp (disch := omega) only [IntWalk.i64_in, IntWalk.u64_in, if_neg, if_pos])<;> rfl) (by simp only [go_sem] <;> rfl) ?_
      refine Run.op (by simp only [go_sem] <;> rfl) (by simp only [go_sem] <;> rfl) ?_
      refine Run.nil ?_
      refine ForK.nxt ?_ ?_ ?_
      · omega
      · exact Ghost.kp [7, 12, 139, 140, 141] [7] (by simp only [go_sem, hw, g1, g2, g3, hgt, he, Bool.not_true, hf2, List.getElem?_map, hx, Option.map_some, gx, gx1]; first | ((repeat' (first | with_reducible_and_instances rfl | refine st_eq ?_ ?_ ?_ | refine ret_eq ?_ | refine tup_eq ?_ | refine tm_eq ?_ ?_ | refine arr_eq ?_ | refine cells_eq ?_ | refine val_eq ?_ | refine ls_eq ?_ ?_ | refine own_eq ?_ ?_ | refine sl_eq ?_ | refine b_eq ?_ | (refine i_eq ?_; omega))); done) | rfl)
      · trivial
    have gx : decide (x ≥ 0) = false := by simpa using hx0
    refine Exec.reg ?_
    refine Run.op (by simp only [go_sem, hw, g1, g2, g3, hgt, he, Bool.not_true, hf2, List.getElem?_map, hx, Option.map_some, gx]; (try simp (disch := omega) only [if_pos]); (try simp only [go_sem, hw, g1, g2, g3, hgt, he, Bool.not_true, hf2, List.getElem?_map, hx, Option.map_some, gx])<;> rfl) (by simp only [go_sem] <;> rfl) ?_
    refine Run.op (by simp only [go_sem, hw, g1, g2, g3, hgt, he, Bool.not_true, hf2, List.getElem?_map, hx, Option.map_some, gx] <;> rfl) (by simp only [go_sem] <;> rfl) ?_
    refine Run.op (by simp only [go_sem] <;> rfl) (by simp only [go_sem] <;> rfl) ?_
    refine Run.nil ?_
    refine Exec.reg ?_
    refine Run.op (by simp only [go_sem] <;> rfl) (by simp only [go_sem] <;> rfl) ?_
    refine Run.op (by simp only [go_sem, hw, g1, g2, g3, hgt, he, Bool.not_true, hf2, List.getElem?_map, hx, Option.map_some, gx] <;> rfl) (by simp only [go_sem] <;> rfl) ?_
    refine Run.op (by simp only [go_sem] <;> rfl) (by simp only [go_sem] <;> rfl) ?_
    iterate 2 (refine Run.skp (by simp only [go_sem] <;> rfl) (by simp only [go_sem] <;> rfl) ?_)
    refine Run.op (by simp only [go_sem, hw, g1, g2, g3, hgt, he, Bool.not_true, hf2, List.getElem?_map, hx, Option.map_some, gx] <;> rfl) (by simp only [go_sem] <;> rfl) ?_
    refine Run.op (by simp only [go_sem] <;> rfl) (by simp only [go_sem] <;> rfl) ?_
    iterate 4 (refine Run.skp (by simp only [go_sem] <;> rfl) (by simp only [go_sem] <;> rfl) ?_)
    refine Run.op (by simp only [go_sem, hw, g1, g2, g3, hgt, he, Bool.not_true, hf2, List.getElem?_map, hx, Option.map_some, gx] <;> rfl) (by simp only [go_sem] <;> rfl) ?_
    refine Run.nil ?_
    refine Exec.cnd (by simp only [go_sem, hw, g1, g2, g3, hgt, he, Bool.not_true, hf2, List.getElem?_map, hx, Option.map_some, gx] <;> rfl) (fun hb156 => ?_) (fun hb156 => ?_)
    · skip
      exact absurd hb156 (by simp)
    refine BlkK.nrm ?_
    refine Exec.reg1 ?_
    refine Run.op (by simp only [go_sem, hw, g1, g2, g3, hgt, he, Bool.not_true, hf2, List.getElem?_map, hx, Option.map_some, gx]; (try simp (disch := omega) only [IntWalk.i64_in, IntWalk.u64_in, if_neg, if_pos])<;> rfl) (by simp only [go_sem] <;> rfl) ?_
    refine Run.op (by simp only [go_sem] <;> rfl) (by simp only [go_sem] <;> rfl) ?_
    refine Run.nil ?_
    refine ForK.nxt ?_ ?_ ?_
    · omega
    · exact Ghost.kp [7, 12, 139, 140, 141] [7] (by simp only [go_sem, hw, g1, g2, g3, hgt, he, Bool.not_true, hf2, List.getElem?_map, hx, Option.map_some, gx]; first | ((repeat' (first | with_reducible_and_instances rfl | refine st_eq ?_ ?_ ?_ | refine ret_eq ?_ | refine tup_eq ?_ | refine tm_eq ?_ ?_ | refine arr_eq ?_ | refine cells_eq ?_ | refine val_eq ?_ | refine ls_eq ?_ ?_ | refine own_eq ?_ ?_ | refine sl_eq ?_ | refine b_eq ?_ | (refine i_eq ?_; omega))); done) | rfl)
    · trivial
  refine Exec.exitS ?_
  refine ForK.ext ?_
  refine BlkK.hit ?_
  refine Exec.assocS ?_
  refine Exec.reg ?_
  refine Run.op (by simp only [go_sem] <;> rfl) (by simp only [go_sem] <;> rfl) ?_
  refine Run.op (by simp only [go_sem, hw, g1, g2, g3, hgt, he, Bool.not_true, hf2] <;> rfl) (by simp only [go_sem] <;> rfl) ?_
  refine Run.op (by simp only [go_sem, hw, g1, g2, g3, hgt, he, Bool.not_true, hf2]; (try simp (disch := omega) only [IntWalk.i64_in, IntWalk.u64_in, if_neg, if_pos])<;> rfl) (by simp only [go_sem] <;> rfl) ?_
  refine Run.op (by simp only [go_sem] <;> rfl) (by simp only [go_sem] <;> rfl) ?_
  refine Run.op (by simp only [go_sem, hw, g1, g2, g3, hgt, he, Bool.not_true, hf2] <;> rfl) (by simp only [go_sem] <;> rfl) ?_
  refine Run.op (by simp only [go_sem, hw, g1, g2, g3, hgt, he, Bool.not_true, hf2]; (try simp (disch := omega) only [IntWalk.i64_in, IntWalk.u64_in, if_neg, if_pos])<;> rfl) (by simp only [go_sem] <;> rfl) ?_
  refine Run.op (by simp only [go_sem, hw, g1, g2, g3, hgt, he, Bool.not_true, hf2] <;> rfl) (by simp only [go_sem] <;> rfl) ?_
  refine Run.frz 164 (by simp only [go_sem] <;> rfl) ?_
  refine Run.op (by simp only [go_sem, hw, g1, g2, g3, hgt, he, Bool.not_true, hf2] <;> rfl) (by simp only [go_sem] <;> rfl) ?_
  refine Run.op (by simp only [go_sem] <;> rfl) (by simp only [go_sem] <;> rfl) ?_
  refine Run.nil ?_
  refine Exec.blk ?_
  have hQ2 : [[D.i ((showsR w (house : Int) day).1.lo - 1)], [D.i ((showsR w (house : Int) day).1.hi + 1)]] = (q2 w house day).map encInt := rfl
  rw [hQ2]
  refine Exec.forA [12, 164, 165, 166] [] (2) (fun k => [.slot 166 (.int k)]) (fun _ => True) (fun k => by simp only [go_sem] <;> rfl) (by simp only [go_sem, hw, g1, g2, g3, hgt, he, Bool.not_true, hf2] <;> rfl) ?_ (fun k hk hX => ?_)
  · trivial
  refine Exec.reg ?_
  refine Run.op (by simp only [go_sem, hw, g1, g2, g3, hgt, he, Bool.not_true, hf2] <;> rfl) (by simp only [go_sem] <;> rfl) ?_
  refine Run.nil ?_
  refine Exec.cndS (by simp only [go_sem, hw, g1, g2, g3, hgt, he, Bool.not_true, hf2] <;> rfl) (fun hb167 => ?_) (fun hb167 => ?_)
  · skip
    have hlt : k < (q2 w house day).length := by
      have := of_decide_eq_true hb167
      show k < 2
      omega
    have hk3 : k < 2 := hlt
    obtain ⟨x, hx⟩ : ∃ x, (q2 w house day)[k]? = some x := ⟨_, List.getElem?_eq_getElem hlt⟩
    have hout := q2_out he x (List.mem_of_getElem? hx)
    refine Exec.skipS ?_
    refine Exec.blk ?_
    by_cases hx0 : 0 ≤ x
    · skip
      have gx : decide (x ≥ 0) = true := by simpa using hx0
      refine Exec.reg ?_
      refine Run.op (by simp only [go_sem, hw, g1, g2, g3, hgt, he, Bool.not_true, hf2, List.getElem?_map, hx, Option.map_some, gx]; (try simp (disch := omega) only [if_pos]); (try simp only [go_sem, hw, g1, g2, g3, hgt, he, Bool.not_true, hf2, List.getElem?_map, hx, Option.map_some, gx])<;> rfl) (by simp only [go_sem] <;> rfl) ?_
      refine Run.op (by simp only [go_sem, hw, g1, g2, g3, hgt, he, Bool.not_true, hf2, List.getElem?_map, hx, Option.map_some, gx] <;> rfl) (by simp only [go_sem] <;> rfl) ?_
      refine Run.op (by simp only [go_sem] <;> rfl) (by simp only [go_sem] <;> rfl) ?_
      refine Run.nil ?_
      by_cases hx1 : x ≤ 1073741824
      · skip
        have gx1 : decide (x ≤ 1073741824) = true := by simpa using hx1
        have hwk := one_walk (n := x) he h2 ⟨hx0, hx1⟩
        have hmf : (misfitR (oneW w house day x)).2.2 = 0 := by rw [misfit_is hwk, if_neg (fun h => hout ((one_fits he).1 h))]
        refine Exec.reg ?_
        refine Run.op (by simp only [go_sem] <;> rfl) (by simp only [go_sem] <;> rfl) ?_
        refine Run.op (by simp only [go_sem, hw, g1, g2, g3, hgt, he, Bool.not_true, hf2, List.getElem?_map, hx, Option.map_some, gx, gx1, hmf] <;> rfl) (by simp only [go_sem] <;> rfl) ?_
        refine Run.op (by simp only [go_sem] <;> rfl) (by simp only [go_sem] <;> rfl) ?_
        refine Run.yes (by simp only [go_sem] <;> rfl) (by simp only [go_sem] <;> rfl) (by simp only [go_sem] <;> rfl) ?_
        refine Run.yes (by simp only [go_sem] <;> rfl) (by simp only [go_sem, hw, g1, g2, g3, hgt, he, Bool.not_true, hf2, List.getElem?_map, hx, Option.map_some, gx, gx1, hmf] <;> rfl) (by simp only [go_sem] <;> rfl) ?_
        refine Run.op (by simp only [go_sem, hw, g1, g2, g3, hgt, he, Bool.not_true, hf2, List.getElem?_map, hx, Option.map_some, gx, gx1, hmf] <;> rfl) (by simp only [go_sem] <;> rfl) ?_
        refine Run.op (by simp only [go_sem] <;> rfl) (by simp only [go_sem] <;> rfl) ?_
        iterate 2 (refine Run.yes (by simp only [go_sem] <;> rfl) (by simp only [go_sem] <;> rfl) (by simp only [go_sem] <;> rfl) ?_)
        refine Run.calw (by simp only [go_sem] <;> rfl) (c_law_days w house day x h1 (by omega)) (by simp only [go_sem]) (by simp only [go_sem, hw, g1, g2, g3, hgt, he, Bool.not_true, hf2, List.getElem?_map, hx, Option.map_some, gx, gx1, hmf] <;> rfl) (by simp only [go_sem, hw, g1, g2, g3, hgt, he, Bool.not_true, hf2, List.getElem?_map, hx, Option.map_some, gx, gx1, hmf] <;> rfl) (by exact ⟨by first | exact WkR.pure rfl | exact WkR.nil _ | exact WkR.int (by first | omega | (simp; done) | (simp; omega)), by first | exact WkR.pure rfl | exact WkR.nil _ | exact WkR.int (by first | omega | (simp; done) | (simp; omega)), by first | exact WkR.pure rfl | exact WkR.nil _ | exact WkR.int (by first | omega | (simp; done) | (simp; omega)), by first | exact WkR.pure rfl | exact WkR.nil _ | exact WkR.int (by first | omega | (simp; done) | (simp; omega)), trivial⟩) (fr0) (by simp only [go_sem, hw, g1, g2, g3, hgt, he, Bool.not_true, hf2, List.getElem?_map, hx, Option.map_some, gx, gx1, hmf] <;> rfl) ?_
        refine Run.yes (by simp only [go_sem] <;> rfl) (by simp only [go_sem, hw, g1, g2, g3, hgt, he, Bool.not_true, hf2, List.getElem?_map, hx, Option.map_some, gx, gx1, hmf] <;> rfl) (by simp only [go_sem] <;> rfl) ?_
        refine Run.op (by simp only [go_sem, hw, g1, g2, g3, hgt, he, Bool.not_true, hf2, List.getElem?_map, hx, Option.map_some, gx, gx1, hmf] <;> rfl) (by simp only [go_sem] <;> rfl) ?_
        refine Run.nil ?_
        refine Exec.cnd (by simp only [go_sem, hw, g1, g2, g3, hgt, he, Bool.not_true, hf2, List.getElem?_map, hx, Option.map_some, gx, gx1, hmf] <;> rfl) (fun hb181 => ?_) (fun hb181 => ?_)
        · skip
          exact absurd hb181 (by simp)
        refine BlkK.nrm ?_
        refine Exec.reg1 ?_
        refine Run.op (by simp only [go_sem, hw, g1, g2, g3, hgt, he, Bool.not_true, hf2, List.getElem?_map, hx, Option.map_some, gx, gx1, hmf]; (try simp (disch := omega) only [IntWalk.i64_in, IntWalk.u64_in, if_neg, if_pos])<;> rfl) (by simp only [go_sem] <;> rfl) ?_
        refine Run.op (by simp only [go_sem] <;> rfl) (by simp only [go_sem] <;> rfl) ?_
        refine Run.nil ?_
        refine ForK.nxt ?_ ?_ ?_
        · omega
        · exact Ghost.kp [12, 164, 165, 166] [] (by simp only [go_sem, hw, g1, g2, g3, hgt, he, Bool.not_true, hf2, List.getElem?_map, hx, Option.map_some, gx, gx1, hmf]; first | ((repeat' (first | with_reducible_and_instances rfl | refine st_eq ?_ ?_ ?_ | refine ret_eq ?_ | refine tup_eq ?_ | refine tm_eq ?_ ?_ | refine arr_eq ?_ | refine cells_eq ?_ | refine val_eq ?_ | refine ls_eq ?_ ?_ | refine own_eq ?_ ?_ | refine sl_eq ?_ | refine b_eq ?_ | (refine i_eq ?_; omega))); done) | rfl)
        · trivial
      have gx1 : decide (x ≤ 1073741824) = false := by simpa using hx1
      refine Exec.reg ?_
      refine Run.op (by simp only [go_sem] <;> rfl) (by simp only [go_sem] <;> rfl) ?_
      refine Run.op (by simp only [go_sem, hw, g1, g2, g3, hgt, he, Bool.not_true, hf2, List.getElem?_map, hx, Option.map_some, gx, gx1] <;> rfl) (by simp only [go_sem] <;> rfl) ?_
      refine Run.op (by simp only [go_sem] <;> rfl) (by simp only [go_sem] <;> rfl) ?_
      refine Run.yes (by simp only [go_sem] <;> rfl) (by simp only [go_sem] <;> rfl) (by simp only [go_sem] <;> rfl) ?_
      refine Run.yes (by simp only [go_sem] <;> rfl) (by simp only [go_sem, hw, g1, g2, g3, hgt, he, Bool.not_true, hf2, List.getElem?_map, hx, Option.map_some, gx, gx1] <;> rfl) (by simp only [go_sem] <;> rfl) ?_
      refine Run.op (by simp only [go_sem, hw, g1, g2, g3, hgt, he, Bool.not_true, hf2, List.getElem?_map, hx, Option.map_some, gx, gx1] <;> rfl) (by simp only [go_sem] <;> rfl) ?_
      refine Run.op (by simp only [go_sem] <;> rfl) (by simp only [go_sem] <;> rfl) ?_
      iterate 4 (refine Run.skp (by simp only [go_sem] <;> rfl) (by simp only [go_sem] <;> rfl) ?_)
      refine Run.op (by simp only [go_sem, hw, g1, g2, g3, hgt, he, Bool.not_true, hf2, List.getElem?_map, hx, Option.map_some, gx, gx1] <;> rfl) (by simp only [go_sem] <;> rfl) ?_
      refine Run.nil ?_
      refine Exec.cnd (by simp only [go_sem, hw, g1, g2, g3, hgt, he, Bool.not_true, hf2, List.getElem?_map, hx, Option.map_some, gx, gx1] <;> rfl) (fun hb181 => ?_) (fun hb181 => ?_)
      · skip
        exact absurd hb181 (by simp)
      refine BlkK.nrm ?_
      refine Exec.reg1 ?_
      refine Run.op (by simp only [go_sem, hw, g1, g2, g3, hgt, he, Bool.not_true, hf2, List.getElem?_map, hx, Option.map_some, gx, gx1]; (try simp (disch := omega) only [IntWalk.i64_in, IntWalk.u64_in, if_neg, if_pos])<;> rfl) (by simp only [go_sem] <;> rfl) ?_
      refine Run.op (by simp only [go_sem] <;> rfl) (by simp only [go_sem] <;> rfl) ?_
      refine Run.nil ?_
      refine ForK.nxt ?_ ?_ ?_
      · omega
      · exact Ghost.kp [12, 164, 165, 166] [] (by simp only [go_sem, hw, g1, g2, g3, hgt, he, Bool.not_true, hf2, List.getElem?_map, hx, Option.map_some, gx, gx1]; first | ((repeat' (first | with_reducible_and_instances rfl | refine st_eq ?_ ?_ ?_ | refine ret_eq ?_ | refine tup_eq ?_ | refine tm_eq ?_ ?_ | refine arr_eq ?_ | refine cells_eq ?_ | refine val_eq ?_ | refine ls_eq ?_ ?_ | refine own_eq ?_ ?_ | refine sl_eq ?_ | refine b_eq ?_ | (refine i_eq ?_; omega))); done) | rfl)
      · trivial
    have gx : decide (x ≥ 0) = false := by simpa using hx0
    refine Exec.reg ?_
    refine Run.op (by simp only [go_sem, hw, g1, g2, g3, hgt, he, Bool.not_true, hf2, List.getElem?_map, hx, Option.map_some, gx]; (try simp (disch := omega) only [if_pos]); (try simp only [go_sem, hw, g1, g2, g3, hgt, he, Bool.not_true, hf2, List.getElem?_map, hx, Option.map_some, gx])<;> rfl) (by simp only [go_sem] <;> rfl) ?_
    refine Run.op (by simp only [go_sem, hw, g1, g2, g3, hgt, he, Bool.not_true, hf2, List.getElem?_map, hx, Option.map_some, gx] <;> rfl) (by simp only [go_sem] <;> rfl) ?_
    refine Run.op (by simp only [go_sem] <;> rfl) (by simp only [go_sem] <;> rfl) ?_
    refine Run.nil ?_
    refine Exec.reg ?_
    refine Run.op (by simp only [go_sem] <;> rfl) (by simp only [go_sem] <;> rfl) ?_
    refine Run.op (by simp only [go_sem, hw, g1, g2, g3, hgt, he, Bool.not_true, hf2, List.getElem?_map, hx, Option.map_some, gx] <;> rfl) (by simp only [go_sem] <;> rfl) ?_
    refine Run.op (by simp only [go_sem] <;> rfl) (by simp only [go_sem] <;> rfl) ?_
    iterate 2 (refine Run.skp (by simp only [go_sem] <;> rfl) (by simp only [go_sem] <;> rfl) ?_)
    refine Run.op (by simp only [go_sem, hw, g1, g2, g3, hgt, he, Bool.not_true, hf2, List.getElem?_map, hx, Option.map_some, gx] <;> rfl) (by simp only [go_sem] <;> rfl) ?_
    refine Run.op (by simp only [go_sem] <;> rfl) (by simp only [go_sem] <;> rfl) ?_
    iterate 4 (refine Run.skp (by simp only [go_sem] <;> rfl) (by simp only [go_sem] <;> rfl) ?_)
    refine Run.op (by simp only [go_sem, hw, g1, g2, g3, hgt, he, Bool.not_true, hf2, List.getElem?_map, hx, Option.map_some, gx] <;> rfl) (by simp only [go_sem] <;> rfl) ?_
    refine Run.nil ?_
    refine Exec.cnd (by simp only [go_sem, hw, g1, g2, g3, hgt, he, Bool.not_true, hf2, List.getElem?_map, hx, Option.map_some, gx] <;> rfl) (fun hb181 => ?_) (fun hb181 => ?_)
    · skip
      exact absurd hb181 (by simp)
    refine BlkK.nrm ?_
    refine Exec.reg1 ?_
    refine Run.op (by simp only [go_sem, hw, g1, g2, g3, hgt, he, Bool.not_true, hf2, List.getElem?_map, hx, Option.map_some, gx]; (try simp (disch := omega) only [IntWalk.i64_in, IntWalk.u64_in, if_neg, if_pos])<;> rfl) (by simp only [go_sem] <;> rfl) ?_
    refine Run.op (by simp only [go_sem] <;> rfl) (by simp only [go_sem] <;> rfl) ?_
    refine Run.nil ?_
    refine ForK.nxt ?_ ?_ ?_
    · omega
    · exact Ghost.kp [12, 164, 165, 166] [] (by simp only [go_sem, hw, g1, g2, g3, hgt, he, Bool.not_true, hf2, List.getElem?_map, hx, Option.map_some, gx]; first | ((repeat' (first | with_reducible_and_instances rfl | refine st_eq ?_ ?_ ?_ | refine ret_eq ?_ | refine tup_eq ?_ | refine tm_eq ?_ ?_ | refine arr_eq ?_ | refine cells_eq ?_ | refine val_eq ?_ | refine ls_eq ?_ ?_ | refine own_eq ?_ ?_ | refine sl_eq ?_ | refine b_eq ?_ | (refine i_eq ?_; omega))); done) | rfl)
    · trivial
  refine Exec.exitS ?_
  refine ForK.ext ?_
  refine BlkK.hit ?_
  refine Exec.reg ?_
  refine Run.cal (c_law_alive) (by simp only [go_sem]) (by simp only [go_sem, hw, g1, g2, g3, hgt, he, Bool.not_true, hf2] <;> rfl) (by exact trivial) (fr0) (by simp only [go_sem, hw, g1, g2, g3, hgt, he, Bool.not_true, hf2] <;> rfl) ?_
  refine Run.op (by simp only [go_sem] <;> rfl) (by simp only [go_sem] <;> rfl) ?_
  refine Run.nil ?_
  exact Ends.fin [] (rs := [.tmp 6]) rfl (by simp only [go_sem, hw, g1, g2, g3, hgt, he, Bool.not_true, hf2] <;> rfl) (by simp only [go_sem, hw, g1, g2, g3, hgt, he, Bool.not_true, hf2] <;> first | rfl | ((repeat' (first | with_reducible_and_instances rfl | refine st_eq ?_ ?_ ?_ | refine ret_eq ?_ | refine tup_eq ?_ | refine tm_eq ?_ ?_ | refine arr_eq ?_ | refine cells_eq ?_ | refine val_eq ?_ | refine ls_eq ?_ ?_ | refine own_eq ?_ ?_ | refine sl_eq ?_ | refine b_eq ?_ | (refine i_eq ?_; omega))); done))

end Go.Mw
namespace Go.Mw
open Go.RowKit Go.ChangeShapes Go.WideShapes

section
variable {H : Type} {enc : TypeId × Value → H} {P : Program} {w : World} {base : Nat} {spare : Nat → Bool} {held : Bool} {v : Value} {d : DataW H} {ps : List MemPlace} {t : TypeId}
theorem int_read {k : IntKind} {b0 : Nat} {r : Reach} (ht : P.underlying t = some (.int k)) (hv : Value.okWide P w r b0 t v) (h : DataW.Trod enc P w base spare held t v d ps) :
    ∃ n : Int, (Lit.int k n).wf = true ∧ RepV (fun b _ => b < w.heap.size) noVal (look []) w (.leaf (.d (.raw (.int k n)))) v := by
  obtain ⟨n, rfl, _, _, hw⟩ := open_int ht hv h
  exact ⟨n, hw, _, rfl, .raw _ rfl⟩
end
end Go.Mw
namespace Go.Mw
open Go.Proofs Go.RowKit Go.ChangeShapes Go.WideShapes

@[go_sem] def encU16 (n : Nat) : List D := [.raw (.int .u16 (n : Int))]
section
variable {H : Type} {enc : TypeId × Value → H} {W : World} {v : Value} {d : DataW H} {ps : List MemPlace}
end
end Go.Mw

/- The statements about the card. -/
import Derived.Test.YtfmdonllhchdpaaB10
import Derived.Test.YtfmdonllhchdpaaB3
import Derived.Test.YtfmdonllhchdpaaB4
set_option linter.unusedSimpArgs false
set_option linter.unusedVariables false
set_option linter.unusedSectionVars false
set_option linter.deprecated false
namespace Go.Mw
open Go.Proofs
theorem great_no {w : Walk} {n : Int} (h : greatB w n = false) : (w.rates.length ≤ 14 ∧ w.readings.length ≤ 32) ∧ ((w.readings.length : Int) ≤ n ∨ 24 < w.readings.length) := by
  unfold greatB at h
  simp only [Bool.or_eq_false_iff, Bool.and_eq_false_iff, decide_eq_false_iff_not] at h
  omega
theorem len_all {w : Walk} (hw : walkB w = true) : (allS w).length ≤ 1000 := by
  have hn := (walk_len hw).2.2
  have b1 := len_swN hn w.readings.length
  have b2 := len_cpN w w.readings.length
  have b3 := len_ltN w w.readings.length
  unfold allS
  rw [List.length_append, List.length_append]
  omega
theorem len_expl (w : Walk) : (explainR w).1.length ≤ 1000 := by
  unfold explainR
  split
  · rename_i hw
    split
    · simp
    · split
      · simp
      · exact len_all hw
  · simp
end Go.Mw
namespace Go.Mw
open Go.RowKit Go.ChangeShapes Go.WideShapes

section
variable {H : Type} {enc : TypeId × Value → H} {P : Program} {w : World} {base : Nat} {spare : Nat → Bool} {held : Bool} {v : Value} {d : DataW H} {ps : List MemPlace} {t : TypeId}
theorem trodAll_five {t0 t1 t2 t3 t4 : TypeId} {args : Array Value} {ds : List (DataW H)} (h : DataW.TrodAll enc P w base spare held [t0, t1, t2, t3, t4] args.toList ds ps) :
    ∃ v0 v1 v2 v3 v4 d0 d1 d2 d3 d4 p0 p1 p2 p3 p4, args = #[v0, v1, v2, v3, v4] ∧ ds = [d0, d1, d2, d3, d4] ∧ ps = p0 ++ p1 ++ p2 ++ p3 ++ p4 ∧ DataW.Trod enc P w base spare held t0 v0 d0 p0 ∧ DataW.Trod enc P w base spare held t1 v1 d1 p1 ∧
      DataW.Trod enc P w base spare held t2 v2 d2 p2 ∧ DataW.Trod enc P w base spare held t3 v3 d3 p3 ∧ DataW.Trod enc P w base spare held t4 v4 d4 p4 := by
  obtain ⟨v0, vs0, d0, ds0, p0, q0, hargs, rfl, rfl, h0, h⟩ := trodAll_cons h
  obtain ⟨v1, vs1, d1, ds1, p1, q1, rfl, rfl, rfl, h1, h⟩ := trodAll_cons h
  obtain ⟨v2, vs2, d2, ds2, p2, q2, rfl, rfl, rfl, h2, h⟩ := trodAll_cons h
  obtain ⟨v3, vs3, d3, ds3, p3, q3, rfl, rfl, rfl, h3, h⟩ := trodAll_cons h
  obtain ⟨v4, vs4, d4, ds4, p4, q4, rfl, rfl, rfl, h4, h⟩ := trodAll_cons h
  obtain ⟨rfl, rfl, rfl⟩ := trodAll_nil h
  exact ⟨v0, v1, v2, v3, v4, d0, d1, d2, d3, d4, p0, p1, p2, p3, p4, by cases args; simp_all, rfl, by simp, h0, h1, h2, h3, h4⟩
theorem int_read {k : IntKind} {b0 : Nat} {r : Reach} (ht : P.underlying t = some (.int k)) (hv : Value.okWide P w r b0 t v) (h : DataW.Trod enc P w base spare held t v d ps) :
    ∃ n : Int, (Lit.int k n).wf = true ∧ RepV (fun b _ => b < w.heap.size) noVal (look []) w (.leaf (.d (.raw (.int k n)))) v := by
  obtain ⟨n, rfl, _, _, hw⟩ := open_int ht hv h
  exact ⟨n, hw, _, rfl, .raw _ rfl⟩
theorem u8_read {b0 : Nat} {r : Reach} (ht : P.underlying t = some (.int .u8)) (hv : Value.okWide P w r b0 t v) (h : DataW.Trod enc P w base spare held t v d ps) :
    ∃ n : Nat, n ≤ 255 ∧ RepV (fun b _ => b < w.heap.size) noVal (look []) w (.leaf (.d (.raw (.int .u8 (n : Int))))) v := by
  obtain ⟨n, hw, hr⟩ := int_read ht hv h
  have h2 : 0 ≤ n ∧ n ≤ 255 := by
    simp only [Lit.wf, Bool.and_eq_true, decide_eq_true_eq] at hw
    have e1 : IntKind.u8.min = 0 := by decide
    have e2 : IntKind.u8.max = 255 := by decide
    omega
  refine ⟨n.toNat, by omega, ?_⟩
  rw [show ((n.toNat : Nat) : Int) = n by omega]
  exact hr
/-- A slice of plain cells, as an argument. -/
theorem sl_read {e : TypeId} {ks : List LK} (ht : P.underlying t = some (.slice e)) (hk : flatK P e = some ks) (hc : P.cellsOf e = ks.length) (h0 : 0 < ks.length) {b0 : Nat} {r : Reach} (hv : Value.okWide P w r b0 t v) (h : DataW.Trod enc P w base spare held t v d ps) :
    ∃ rows : List (List Value), (∀ r ∈ rows, All2 LK.has ks r) ∧ RepV (fun b _ => b < w.heap.size) noVal (look []) w (.leaf (.d (.sl ks.length (rows.map (·.map .raw))))) v := by
  obtain ⟨fuel, hf⟩ := h
  obtain ⟨u, rows, e1, hr, hd⟩ := slice_read ht hk hc h0 hf
  have hvu : v = u := by
    unfold Value.okWide at hv
    rw [ht] at hv
    simp only [Cell.okWide, ht] at hv
    cases v <;> first | (simp only [Value.cells] at e1; exact (List.cons.inj e1).1) | (simp [Cell.ok, ht] at hv)
  subst hvu
  exact ⟨rows, hr, _, rfl, hd⟩
end
end Go.Mw
namespace Go.Mw
open Go.Proofs Go.RowKit Go.ChangeShapes Go.WideShapes

@[go_sem] def encU16 (n : Nat) : List D := [.raw (.int .u16 (n : Int))]
theorem read_u16 (r : List Value) (h : All2 LK.has [.int .u16] r) : ∃ n : Nat, n ≤ 65535 ∧ r.map D.raw = encU16 n := by
  obtain ⟨a, r, rfl, ⟨n, hn, hw⟩, h⟩ := all2_inv h
  have := all2_nil h
  subst hn this
  have h2 : 0 ≤ n ∧ n ≤ 65535 := by
    simp only [Lit.wf, Bool.and_eq_true, decide_eq_true_eq] at hw
    have e1 : IntKind.u16.min = 0 := by decide
    have e2 : IntKind.u16.max = 65535 := by decide
    omega
  refine ⟨n.toNat, by omega, ?_⟩
  show [D.raw (.int .u16 n)] = [D.raw (.int .u16 ((n.toNat : Nat) : Int))]
  rw [show ((n.toNat : Nat) : Int) = n by omega]
theorem rows_u16 : ∀ {rows : List (List Value)}, (∀ r ∈ rows, All2 LK.has [.int .u16] r) → ∃ l : List Nat, (∀ n ∈ l, n ≤ 65535) ∧ rows.map (·.map D.raw) = l.map encU16
  | [], _ => ⟨[], by simp, rfl⟩
  | r :: rows, h => by
    obtain ⟨n, hn, hr⟩ := read_u16 r (h r (by simp))
    obtain ⟨l, hl, hl2⟩ := rows_u16 (rows := rows) fun q hq => h q (List.mem_cons_of_mem _ hq)
    refine ⟨n :: l, fun m hm => ?_, by rw [List.map_cons, List.map_cons, hr, hl2]⟩
    rcases List.mem_cons.1 hm with rfl | hm
    · exact hn
    · exact hl m hm
section
variable {H : Type} {enc : TypeId × Value → H} {W : World} {v : Value} {d : DataW H} {ps : List MemPlace}
set_option maxRecDepth 20000 in
theorem spans_read {b0 : Nat} {r : Reach} (hv : Value.okWide Try.prog W r b0 22 v) (h : DataW.Trod enc Try.prog W 0 (fun _ => true) true 22 v d ps) :
    ∃ l : List Span, RepV (fun b _ => b < W.heap.size) noVal (look []) W (.leaf (.d (.sl 2 (l.map encSpan)))) v := by
  obtain ⟨rows, hr, hd⟩ := sl_read (P := Try.prog) (e := 32) (ks := [.int .i64, .int .i64]) (by kernel_rfl) (by kernel_rfl) (by kernel_rfl) (by decide) hv h
  obtain ⟨l, hl⟩ := rows_enc read_span hr
  rw [hl] at hd
  exact ⟨l, hd⟩
set_option maxRecDepth 20000 in
theorem u16s_read {b0 : Nat} {r : Reach} (hv : Value.okWide Try.prog W r b0 53 v) (h : DataW.Trod enc Try.prog W 0 (fun _ => true) true 53 v d ps) :
    ∃ l : List Nat, (∀ n ∈ l, n ≤ 65535) ∧ RepV (fun b _ => b < W.heap.size) noVal (look []) W (.leaf (.d (.sl 1 (l.map encU16)))) v := by
  obtain ⟨rows, hr, hd⟩ := sl_read (P := Try.prog) (e := 88) (ks := [.int .u16]) (by kernel_rfl) (by kernel_rfl) (by kernel_rfl) (by decide) hv h
  obtain ⟨l, hl, hl2⟩ := rows_u16 hr
  rw [hl2] at hd
  exact ⟨l, hl, hd⟩
end
end Go.Mw
namespace Go.Mw
open Go.RowKit Go.ChangeShapes Go.WideShapes

section
variable {H : Type} {enc : TypeId × Value → H} {P : Program} {w : World} {base : Nat} {spare : Nat → Bool} {held : Bool} {v : Value} {d : DataW H} {ps : List MemPlace} {t : TypeId}
theorem sl_len {e : TypeId} {k : Nat} {es : List (List D)} {S : Settled} {ι : Nat → Value} {Q : Nat → Option AO} (ht : P.underlying t = some (.slice e)) {b0 : Nat} {r : Reach} (hv : Value.okWide P w r b0 t v) (h : DataW.Trod enc P w base spare held t v d ps)
    (hr : RepV S ι Q w (.leaf (.d (.sl k es))) v) : es.length ≤ 9223372036854775807 := by
  obtain ⟨fuel, hf⟩ := h
  obtain ⟨l, e1, hd⟩ := hr
  cases e1
  have hd : RepD S w (.sl k es) v := hd
  cases hd with
  | nil => simp
  | sl _ _ b off c vals hc =>
    rcases DataW.trod_slice ht hf with ⟨h0, _⟩ | ⟨a, len, cap, elems, rest, n, _, h0, _, _, hl, hm, _⟩
    · have h1 : [Value.slice (some ⟨b, off, none⟩) es.length c] = [Value.slice none 0 0] := h0
      cases h1
    · have h1 : [Value.slice (some ⟨b, off, none⟩) es.length c] = [Value.slice (some a) len cap] := h0
      injection h1 with h2
      injection h2 with _ h3 _
      have hmx : maxLen = 9223372036854775807 := by decide
      omega
end
end Go.Mw
namespace Go.Mw

def tkL (s : Span) (n : Int) : Int := if n < 0 then s.hi * n else s.lo * n
def tkH (s : Span) (n : Int) : Int := if n < 0 then s.lo * n else s.hi * n
def rtOk (s : Span) : Prop := 0 ≤ s.lo ∧ s.lo ≤ s.hi
theorem tk_neg (s : Span) (n : Int) : tkL s (-n) = - tkH s n := by
  unfold tkL tkH
  rcases Int.lt_trichotomy n 0 with h | h | h
  · rw [if_neg (by omega), if_pos h, Int.mul_neg]
  · subst h; simp
  · rw [if_pos (by omega), if_neg (by omega), Int.mul_neg]
theorem tk_neg2 (s : Span) (n : Int) : tkH s (-n) = - tkL s n := by
  have := tk_neg s (-n)
  rw [Int.neg_neg] at this
  omega
/-- Do two readings of a house fit? -/
def fitP (s : Span) (a b : Reading) : Prop := tkL s (b.day - a.day) ≤ b.shows - a.shows ∧ b.shows - a.shows ≤ tkH s (b.day - a.day)
theorem fit_symm {s : Span} {a b : Reading} (h : fitP s a b) : fitP s b a := by
  unfold fitP at *
  have e : a.day - b.day = -(b.day - a.day) := by omega
  rw [e, tk_neg, tk_neg2]
  omega
theorem fit_refl (s : Span) (a : Reading) : fitP s a a := by
  unfold fitP tkL tkH
  simp
theorem fit_trans {s : Span} {a b c : Reading} (hab : a.day ≤ b.day) (hbc : b.day ≤ c.day) (h1 : fitP s a b) (h2 : fitP s b c) : fitP s a c := by
  unfold fitP tkL tkH at *
  have e : c.day - a.day = (b.day - a.day) + (c.day - b.day) := by omega
  rw [if_neg (by omega), if_neg (by omega)] at h1 h2
  rw [if_neg (by omega), if_neg (by omega), e, Int.mul_add, Int.mul_add]
  omega
theorem two_fit {s : Span} {a b : Reading} (h : a.day ≤ b.day) : twoB s a b = true ↔ fitP s a b := by
  unfold twoB fitP tkL tkH
  rw [if_neg (by omega), if_neg (by omega)]
  simp
theorem bad_none {w : Walk} {s : Span} : ∀ {l : List Nat}, badL w s l = none ↔ ∀ k a b, l[k]? = some a → l[k + 1]? = some b → twoB s (rd w a) (rd w b) = true
  | [] => by simp [badL]
  | [x] => by simp [badL]
  | x :: y :: r => by
    unfold badL
    constructor
    · intro h k a b ha hb
      split at h
      · rename_i ht
        cases k with
        | zero => simp at ha hb; subst ha hb; exact ht
        | succ k => exact (bad_none.1 h) k a b (by simpa using ha) (by simpa using hb)
      · cases h
    · intro h
      rw [if_pos (h 0 x y rfl rfl)]
      exact bad_none.2 fun k a b ha hb => h (k + 1) a b (by simpa using ha) (by simpa using hb)
theorem asc_ofS' (w : Walk) (h : Int) (i j a b : Nat) (hij : i ≤ j) (ha : (ofS w h)[i]? = some a) (hb : (ofS w h)[j]? = some b) : (rd w a).day ≤ (rd w b).day := by
  rcases Nat.lt_or_eq_of_le hij with h1 | rfl
  · exact asc_ofS w h i j a b h1 ha hb
  · rw [ha] at hb; cases hb; exact Int.le_refl _
theorem bad_iff {w : Walk} {h : Nat} : badS w h = none ↔ ∀ x y, x < w.readings.length → y < w.readings.length → (rd w x).house = h → (rd w y).house = h → fitP (rt w h) (rd w x) (rd w y) := by
  unfold badS
  rw [bad_none]
  constructor
  · intro hb
    have hc : ∀ (k i a b : Nat), (ofS w (h : Int))[i]? = some a → (ofS w (h : Int))[i + k]? = some b → fitP (rt w h) (rd w a) (rd w b) := by
      intro k
      induction k with
      | zero =>
        intro i a b ha hb2
        rw [Nat.add_zero, ha] at hb2
        cases hb2; exact fit_refl _ _
      | succ k ih =>
        intro i a b ha hb2
        have hlt := (List.getElem?_eq_some_iff.1 hb2).1
        obtain ⟨c, hcg⟩ : ∃ c, (ofS w (h : Int))[i + k]? = some c := ⟨_, List.getElem?_eq_getElem (by omega)⟩
        have h1 := ih i a c ha hcg
        have h2 := hb (i + k) c b hcg (by rw [show i + k + 1 = i + (k + 1) by omega]; exact hb2)
        rw [two_fit (asc_ofS w h (i + k) (i + (k + 1)) c b (by omega) hcg hb2)] at h2
        exact fit_trans (asc_ofS' w h i (i + k) a c (by omega) ha hcg) (asc_ofS w h (i + k) (i + (k + 1)) c b (by omega) hcg hb2) h1 h2
    intro x y hx hy hxh hyh
    obtain ⟨i, hi⟩ := List.getElem?_of_mem (mem_ofS.2 ⟨hx, hxh⟩)
    obtain ⟨j, hj⟩ := List.getElem?_of_mem (mem_ofS.2 ⟨hy, hyh⟩)
    rcases Nat.le_total i j with hij | hij
    · exact hc (j - i) i x y hi (by rw [show i + (j - i) = j by omega]; exact hj)
    · exact fit_symm (hc (i - j) j y x hj (by rw [show j + (i - j) = i by omega]; exact hi))
  · intro hp k a b ha hb
    have h1 := mem_ofS.1 (List.mem_of_getElem? ha)
    have h2 := mem_ofS.1 (List.mem_of_getElem? hb)
    rw [two_fit (asc_ofS w h k (k + 1) a b (by omega) ha hb)]
    exact hp a b h1.1 h2.1 h1.2 h2.2
theorem fits_pairs {w : Walk} : fitsS w = true ↔ ∀ (h : Nat) x y, h < w.rates.length → x < w.readings.length → y < w.readings.length → (rd w x).house = h → (rd w y).house = h → fitP (rt w h) (rd w x) (rd w y) := by
  rw [fits_iff]
  constructor
  · intro hf h x y hh hx hy hxh hyh
    exact bad_iff.1 (hf h hh) x y hx hy hxh hyh
  · intro hf h hh
    exact bad_iff.2 fun x y hx hy hxh hyh => hf h x y hh hx hy hxh hyh

/-- What one reading says of another day. -/
theorem xSpan_eq (w : Walk) (s : Span) (day : Int) (i : Nat) : xSpan w s day i = ⟨(rd w i).shows + tkL s (day - (rd w i).day), (rd w i).shows + tkH s (day - (rd w i).day)⟩ := by
  unfold xSpan tkL tkH
  split <;> rfl
theorem shF_le {w : Walk} {s : Span} {day : Int} {l : List Nat} : ∀ {k : Nat}, 0 < k → k ≤ l.length → ∀ n, (shF w s day l k).lo ≤ n ↔ ∀ j i, j < k → l[j]? = some i → (xSpan w s day i).lo ≤ n := by
  intro k hk hkl n
  induction k with
  | zero => omega
  | succ k ih =>
    obtain ⟨i, hi⟩ : ∃ i, l[k]? = some i := ⟨_, List.getElem?_eq_getElem (by omega)⟩
    rw [shF_succ hi]
    by_cases h0 : k = 0
    · subst h0
      rw [if_pos rfl]
      simp only [Int.max_self]
      constructor
      · intro h j i' hj hi'
        have : j = 0 := by omega
        subst this
        rw [hi] at hi'; cases hi'; exact h
      · intro h; exact h 0 i (by omega) hi
    · rw [if_neg h0]
      simp only [Int.max_le]
      rw [ih (by omega) (by omega)]
      constructor
      · rintro ⟨h1, h2⟩ j i' hj hi'
        by_cases hjk : j < k
        · exact h1 j i' hjk hi'
        · have : j = k := by omega
          subst this
          rw [hi] at hi'; cases hi'; exact h2
      · intro h
        exact ⟨fun j i' hj hi' => h j i' (by omega) hi', h k i (by omega) hi⟩
theorem shF_ge {w : Walk} {s : Span} {day : Int} {l : List Nat} : ∀ {k : Nat}, 0 < k → k ≤ l.length → ∀ n, n ≤ (shF w s day l k).hi ↔ ∀ j i, j < k → l[j]? = some i → n ≤ (xSpan w s day i).hi := by
  intro k hk hkl n
  induction k with
  | zero => omega
  | succ k ih =>
    obtain ⟨i, hi⟩ : ∃ i, l[k]? = some i := ⟨_, List.getElem?_eq_getElem (by omega)⟩
    rw [shF_succ hi]
    by_cases h0 : k = 0
    · subst h0
      rw [if_pos rfl]
      simp only [Int.min_self]
      constructor
      · intro h j i' hj hi'
        have : j = 0 := by omega
        subst this
        rw [hi] at hi'; cases hi'; exact h
      · intro h; exact h 0 i (by omega) hi
    · rw [if_neg h0]
      simp only [Int.le_min]
      rw [ih (by omega) (by omega)]
      constructor
      · rintro ⟨h1, h2⟩ j i' hj hi'
        by_cases hjk : j < k
        · exact h1 j i' hjk hi'
        · have : j = k := by omega
          subst this
          rw [hi] at hi'; cases hi'; exact h2
      · intro h
        exact ⟨fun j i' hj hi' => h j i' (by omega) hi', h k i (by omega) hi⟩
/-- When there is something to show. -/
theorem shows_ok {w : Walk} {house day : Int} (h : (showsR w house day).2 = 0) : walkB w = true ∧ (0 ≤ house ∧ house < w.rates.length) ∧ (0 ≤ day ∧ day ≤ 131072) ∧ ofS w house ≠ [] ∧ badS w house.toNat = none ∧
    (showsR w house day).1 = shF w (rt w house.toNat) day (ofS w house) (ofS w house).length := by
  unfold showsR at h ⊢
  split at h
  · simp at h
  · rename_i h1
    rw [if_neg h1]
    split at h
    · simp at h
    · rename_i h2
      rw [if_neg h2]
      split at h
      · simp at h
      · rename_i h3
        rw [if_neg h3]
        split at h
        · simp at h
        · rename_i h4
          rw [if_neg h4]
          have h2' : ¬ inB house 0 ((w.rates.length : Int) - 1) = false ∧ ¬ inB day 0 131072 = false := ⟨fun e => h2 (.inl e), fun e => h2 (.inr e)⟩
          have a1 := inB_iff.1 (by simpa using h2'.1 : inB house 0 ((w.rates.length : Int) - 1) = true)
          have a2 := inB_iff.1 (by simpa using h2'.2 : inB day 0 131072 = true)
          exact ⟨by simpa using h1, ⟨a1.1, by omega⟩, a2, h3, by cases hb : badS w house.toNat <;> simp_all, rfl⟩
/-- What can be shown: just what fits each reading of the house. -/
theorem shows_iff {w : Walk} {house day : Int} (h : (showsR w house day).2 = 0) (n : Int) : ((showsR w house day).1.lo ≤ n ↔ ∀ i, i < w.readings.length → (rd w i).house = house → (rd w i).shows + tkL (rt w house.toNat) (day - (rd w i).day) ≤ n) ∧
    (n ≤ (showsR w house day).1.hi ↔ ∀ i, i < w.readings.length → (rd w i).house = house → n ≤ (rd w i).shows + tkH (rt w house.toNat) (day - (rd w i).day)) := by
  obtain ⟨_, _, _, hne, _, e⟩ := shows_ok h
  have hl := List.length_pos_iff.2 hne
  rw [e, shF_le hl (Nat.le_refl _), shF_ge hl (Nat.le_refl _)]
  simp only [xSpan_eq]
  constructor
  · constructor
    · intro h1 i hi hh
      obtain ⟨j, hj⟩ := List.getElem?_of_mem (mem_ofS.2 ⟨hi, hh⟩)
      exact h1 j i (List.getElem?_eq_some_iff.1 hj).1 hj
    · intro h1 j i _ hi
      have := mem_ofS.1 (List.mem_of_getElem? hi)
      exact h1 i this.1 this.2
  · constructor
    · intro h1 i hi hh
      obtain ⟨j, hj⟩ := List.getElem?_of_mem (mem_ofS.2 ⟨hi, hh⟩)
      exact h1 j i (List.getElem?_eq_some_iff.1 hj).1 hj
    · intro h1 j i _ hi
      have := mem_ofS.1 (List.mem_of_getElem? hi)
      exact h1 i this.1 this.2
end Go.Mw
namespace Go.Mw

theorem rd_mem {w : Walk} {i : Nat} (h : i < w.readings.length) : rd w i ∈ w.readings := List.mem_of_getElem? (rd_get h)
theorem mem_rd {w : Walk} {r : Reading} (h : r ∈ w.readings) : ∃ i, i < w.readings.length ∧ rd w i = r := by
  obtain ⟨i, hi⟩ := List.getElem?_of_mem h
  have hl := (List.getElem?_eq_some_iff.1 hi).1
  rw [rd_get hl] at hi
  exact ⟨i, hl, Option.some.inj hi⟩
theorem fits_mem {w : Walk} : fitsS w = true ↔ ∀ (h : Nat), h < w.rates.length → ∀ r ∈ w.readings, ∀ q ∈ w.readings, r.house = h → q.house = h → fitP (rt w h) r q := by
  rw [fits_pairs]
  constructor
  · intro hf h hh r hr q hq hrh hqh
    obtain ⟨i, hi, rfl⟩ := mem_rd hr
    obtain ⟨j, hj, rfl⟩ := mem_rd hq
    exact hf h i j hh hi hj hrh hqh
  · intro hf h x y hh hx hy hxh hyh
    exact hf h hh _ (rd_mem hx) _ (rd_mem hy) hxh hyh
/-- The readings of one house, and one more. -/
def oneH (w : Walk) (house : Int) : List Reading := w.readings.filter fun r => decide (r.house = house)
def oneW (w : Walk) (house day n : Int) : Walk := ⟨w.rates, oneH w house ++ [⟨house, day, n⟩]⟩
theorem shows_err {w : Walk} {house day : Int} (h : ¬ (showsR w house day).2 = 0) : (showsR w house day).1 = ⟨0, 0⟩ ∧ ((showsR w house day).2 == 1) = !walkB w := by
  unfold showsR at h ⊢
  by_cases h1 : walkB w = false
  · rw [if_pos h1] at h ⊢; rw [h1]; exact ⟨rfl, rfl⟩
  · rw [if_neg h1] at h ⊢
    have h2 : walkB w = true := by simpa using h1
    rw [h2]
    split
    · exact ⟨rfl, rfl⟩
    · split
      · exact ⟨rfl, rfl⟩
      · split
        · exact ⟨rfl, rfl⟩
        · rename_i a b c
          rw [if_neg a, if_neg b, if_neg c] at h
          exact absurd rfl h
theorem misfit_is {m : Walk} (hm : walkB m = true) : (misfitR m).2.2 = if fitsS m = true then 4 else 0 := by
  have h := misfits_fits m
  unfold misfitR
  rw [if_pos hm, ← h]
  cases misfitsS m <;> rfl
def oneK (w : Walk) (house : Int) (k : Nat) : List Reading := (w.readings.take k).filter fun r => decide (r.house = house)
def q3 (w : Walk) (house day : Int) : List Int := [(showsR w house day).1.lo, (showsR w house day).1.hi, (showsR w house day).1.lo + ((showsR w house day).1.hi - (showsR w house day).1.lo).tdiv 2]
def q2 (w : Walk) (house day : Int) : List Int := [(showsR w house day).1.lo - 1, (showsR w house day).1.hi + 1]
end Go.Mw
namespace Go.Mw

def ordR (y x : Repair) : Prop := y.kind < x.kind ∨ (y.kind = x.kind ∧ (y.a < x.a ∨ (y.a = x.a ∧ x.kind = 0 ∧ y.b < x.b)))
theorem mem_swN {w : Walk} {x : Repair} : x ∈ swN w w.readings.length ↔ ∃ a b : Nat, a < b ∧ b < w.readings.length ∧ worksS w ⟨0, a, b, 0⟩ = true ∧ x = ⟨0, a, b, 0⟩ := by
  unfold swN swA swB
  rw [List.mem_flatMap]
  constructor
  · rintro ⟨a, ha, h⟩
    obtain ⟨b, hb, rfl⟩ := List.mem_map.1 h
    obtain ⟨h1, h2⟩ := List.mem_filter.1 hb
    have := List.mem_range'_1.1 h1
    have := List.mem_range.1 ha
    exact ⟨a, b, by omega, by omega, h2, rfl⟩
  · rintro ⟨a, b, h1, h2, h3, rfl⟩
    exact ⟨a, List.mem_range.2 (by omega), List.mem_map.2 ⟨b, List.mem_filter.2 ⟨List.mem_range'_1.2 (by omega), h3⟩, rfl⟩⟩
theorem mem_cpN {w : Walk} {x : Repair} : x ∈ cpN w w.readings.length ↔ ∃ a : Nat, a < w.readings.length ∧ worksS w ⟨1, a, 0, 0⟩ = true ∧ x = ⟨1, a, 0, 0⟩ := by
  unfold cpN
  constructor
  · intro h
    obtain ⟨b, hb, rfl⟩ := List.mem_map.1 h
    obtain ⟨h1, h2⟩ := List.mem_filter.1 hb
    exact ⟨b, List.mem_range.1 h1, h2, rfl⟩
  · rintro ⟨a, h1, h2, rfl⟩
    exact List.mem_map.2 ⟨a, List.mem_filter.2 ⟨List.mem_range.2 h1, h2⟩, rfl⟩
theorem mem_ltN {w : Walk} {x : Repair} : x ∈ ltN w w.readings.length ↔ ∃ a : Nat, a < w.readings.length ∧ x ∈ ltA w a := by
  unfold ltN
  rw [List.mem_flatMap]
  simp only [List.mem_range]
theorem works_lt_no {w : Walk} {a d : Int} (h : ¬ (1 ≤ d ∧ d ≤ 30)) : worksS w ⟨2, a, d, 0⟩ = false := by
  have hm : madeS w ⟨2, a, d, 0⟩ = none := by
    unfold madeS
    simp only
    by_cases h0 : inB a 0 ((w.readings.length : Int) - 1) = false
    · rw [if_pos h0]
    · rw [if_neg h0, if_neg (by decide), if_neg (by decide), if_pos trivial, if_neg (fun hc => h (inB_iff.1 hc.1))]
  unfold worksS
  rw [hm]
theorem ltD_pw (w : Walk) (a j : Nat) : (ltD w a j).Pairwise (· < ·) := by
  unfold ltD
  exact List.Pairwise.filter _ List.pairwise_lt_range'
theorem mem_ltD {w : Walk} {a d : Nat} : d ∈ ltD w a 30 ↔ (1 ≤ d ∧ d ≤ 30) ∧ worksS w ⟨2, a, d, 0⟩ = true := by
  unfold ltD
  rw [List.mem_filter, List.mem_range'_1]
  exact ⟨fun h => ⟨by omega, h.2⟩, fun h => ⟨by omega, h.2⟩⟩
/-- A span of days of which each one explains the readings, and no other one does. -/
theorem late_span {w : Walk} (hw : walkB w = true) {a : Nat} (ha : a < w.readings.length) {x : Repair} (h : x ∈ ltA w a) : ∃ b c : Nat, x = ⟨2, a, b, c⟩ ∧ 1 ≤ b ∧ b ≤ c ∧ c ≤ 30 ∧ ∀ d : Int, worksS w ⟨2, a, d, 0⟩ = decide ((b : Int) ≤ d ∧ d ≤ (c : Int)) := by
  unfold ltA at h
  split at h
  · cases h
  · rename_i d r hd
    simp at h
    have hne : ltD w a 30 ≠ [] := by rw [hd]; simp
    obtain ⟨c, hc, hlast⟩ := lastI_pos hne
    have hpw := ltD_pw w a 30
    have hdm : d ∈ ltD w a 30 := by rw [hd]; simp
    have hd1 := mem_ltD.1 hdm
    have hc1 := mem_ltD.1 hc
    have hmin : ∀ e ∈ ltD w a 30, d ≤ e := by
      intro e he
      rw [hd] at he hpw
      rcases List.mem_cons.1 he with rfl | he
      · exact Nat.le_refl _
      · exact Nat.le_of_lt ((List.pairwise_cons.1 hpw).1 e he)
    have hmax : ∀ e ∈ ltD w a 30, e ≤ c := by
      intro e he
      have hsplit : ltD w a 30 = (ltD w a 30).dropLast ++ [(ltD w a 30).getLast hne] := (List.dropLast_concat_getLast hne).symm
      have hcl : c = (ltD w a 30).getLast hne := by
        unfold lastI at hlast
        rw [List.getLast?_eq_some_getLast hne] at hlast
        simp only at hlast
        omega
      rw [hsplit] at he hpw
      rcases List.mem_append.1 he with he | he
      · have := (List.pairwise_append.1 hpw).2.2 e he _ (List.mem_singleton.2 rfl)
        omega
      · have := List.mem_singleton.1 he
        omega
    refine ⟨d, c, by rw [h, ← hd, hlast], hd1.1.1, hmin c hc, hc1.1.2, fun e => ?_⟩
    rw [Bool.eq_iff_iff, decide_eq_true_iff]
    constructor
    · intro he
      by_cases hr : 1 ≤ e ∧ e ≤ 30
      · obtain ⟨n, rfl⟩ : ∃ n : Nat, e = n := ⟨e.toNat, by omega⟩
        have hm := mem_ltD.2 ⟨by omega, he⟩
        have := hmin n hm
        have := hmax n hm
        omega
      · rw [works_lt_no hr] at he; cases he
    · rintro ⟨h1, h2⟩
      obtain ⟨n, rfl⟩ : ∃ n : Nat, e = n := ⟨e.toNat, by omega⟩
      exact works_mid hw ha (d := d) (f := c) hd1.1.1 (by omega) (by omega) hd1.2 hc1.2
theorem all_pw (w : Walk) : (allS w).Pairwise ordR := by
  unfold allS
  rw [List.pairwise_append, List.pairwise_append]
  refine ⟨⟨?_, ?_, ?_⟩, ?_, ?_⟩
  · unfold swN
    rw [List.pairwise_flatMap]
    refine ⟨fun a _ => ?_, List.pairwise_lt_range.imp fun {a b} hab x hx y hy => ?_⟩
    · unfold swA swB
      rw [List.pairwise_map]
      exact (List.Pairwise.filter _ List.pairwise_lt_range').imp fun {c d} hcd => .inr ⟨rfl, .inr ⟨rfl, rfl, by simpa using hcd⟩⟩
    · unfold swA swB at hx hy
      obtain ⟨c, _, rfl⟩ := List.mem_map.1 hx
      obtain ⟨d, _, rfl⟩ := List.mem_map.1 hy
      exact .inr ⟨rfl, .inl (by simpa using hab)⟩
  · unfold cpN
    rw [List.pairwise_map]
    exact (List.Pairwise.filter _ List.pairwise_lt_range).imp fun {c d} hcd => .inr ⟨rfl, .inl (by simpa using hcd)⟩
  · intro x hx y hy
    obtain ⟨_, _, _, _, _, rfl⟩ := mem_swN.1 hx
    obtain ⟨_, _, _, rfl⟩ := mem_cpN.1 hy
    exact .inl (show (0 : Int) < 1 by decide)
  · unfold ltN
    rw [List.pairwise_flatMap]
    refine ⟨fun a _ => ?_, List.pairwise_lt_range.imp fun {a b} hab x hx y hy => ?_⟩
    · unfold ltA
      split
      · exact List.Pairwise.nil
      · exact List.pairwise_singleton _ _
    · have h1 := ltA_a hx
      have h2 := ltA_a hy
      exact .inr ⟨by omega, .inl (by omega)⟩
  · intro x hx y hy
    obtain ⟨a, ha, hy⟩ := mem_ltN.1 hy
    have h2 := ltA_a hy
    rcases List.mem_append.1 hx with hx | hx
    · obtain ⟨_, _, _, _, _, rfl⟩ := mem_swN.1 hx
      exact .inl (by rw [h2.1]; exact (show (0 : Int) < 2 by decide))
    · obtain ⟨_, _, _, rfl⟩ := mem_cpN.1 hx
      exact .inl (by rw [h2.1]; exact (show (1 : Int) < 2 by decide))

/-- Does one of those that explain the readings stand for this one? -/
def covB (o x : Repair) : Bool := if x.kind = 2 then (o.kind == x.kind && (o.a == x.a)) && decide (o.b ≥ x.b) && decide (o.b ≤ x.c) else decide (o = x)
theorem covB_no {o x : Repair} (h : x.kind ≠ 2) : covB o x = decide (o = x) := if_neg h
theorem cov_all {w : Walk} (hw : walkB w = true) {o : Repair} (ha : 0 ≤ o.a ∧ o.a < w.readings.length) (hb : 0 ≤ o.b) (hk : o.kind = 0 ∨ (o.kind = 1 ∧ o.b = 0) ∨ o.kind = 2) (hc : o.c = 0) : (allS w).any (covB o) = worksS w o := by
  obtain ⟨k, a, b, c⟩ := o
  simp only at ha hb hk hc
  subst hc
  obtain ⟨a, rfl⟩ : ∃ a' : Nat, a = a' := ⟨a.toNat, by omega⟩
  obtain ⟨b, rfl⟩ : ∃ b' : Nat, b = b' := ⟨b.toNat, by omega⟩
  have han : a < w.readings.length := by omega
  rw [Bool.eq_iff_iff, List.any_eq_true]
  constructor
  · rintro ⟨x, hx, hcov⟩
    unfold allS at hx
    rw [List.mem_append, List.mem_append] at hx
    rcases hx with (hx | hx) | hx
    · obtain ⟨a', b', _, _, h3, rfl⟩ := mem_swN.1 hx
      rw [covB_no (show (0 : Int) ≠ 2 by decide), decide_eq_true_iff] at hcov
      rw [hcov]; exact h3
    · obtain ⟨a', _, h3, rfl⟩ := mem_cpN.1 hx
      rw [covB_no (show (1 : Int) ≠ 2 by decide), decide_eq_true_iff] at hcov
      rw [hcov]; exact h3
    · obtain ⟨a', h1, hx⟩ := mem_ltN.1 hx
      obtain ⟨b', c', rfl, _, _, _, hall⟩ := late_span hw h1 hx
      unfold covB at hcov
      rw [if_pos rfl] at hcov
      simp only [Bool.and_eq_true, beq_iff_eq, decide_eq_true_eq] at hcov
      obtain ⟨⟨⟨q1, q2⟩, q3⟩, q4⟩ := hcov
      rw [q1, q2, hall]
      simp only [decide_eq_true_eq]
      exact ⟨q3, q4⟩
  · intro h
    rcases hk with rfl | ⟨rfl, hb0⟩ | rfl
    · have hab : a < b ∧ b < w.readings.length := by
        unfold worksS madeS at h
        simp only [nat_in han, Bool.true_eq_false, if_false, if_true] at h
        split at h
        · rename_i m hm
          split at hm
          · cases hm
          · rename_i hin
            have hin : inB (b : Int) ((a : Int) + 1) ((w.readings.length : Int) - 1) = true := by simpa using hin
            have := inB_iff.1 hin
            omega
        · cases h
      refine ⟨⟨0, a, b, 0⟩, ?_, by rw [covB_no (show (0 : Int) ≠ 2 by decide)]; simp⟩
      unfold allS
      rw [List.mem_append, List.mem_append]
      exact .inl (.inl (mem_swN.2 ⟨a, b, hab.1, hab.2, h, rfl⟩))
    · obtain rfl : b = 0 := by omega
      refine ⟨⟨1, a, 0, 0⟩, ?_, by rw [covB_no (show (1 : Int) ≠ 2 by decide)]; simp⟩
      unfold allS
      rw [List.mem_append, List.mem_append]
      exact .inl (.inr (mem_cpN.2 ⟨a, han, h, rfl⟩))
    · have hr : 1 ≤ (b : Int) ∧ (b : Int) ≤ 30 := by
        rcases Classical.em (1 ≤ (b : Int) ∧ (b : Int) ≤ 30) with h1 | h1
        · exact h1
        · rw [works_lt_no h1] at h; cases h
      have hm : b ∈ ltD w a 30 := mem_ltD.2 ⟨by omega, h⟩
      obtain ⟨x, hx⟩ : ∃ x, x ∈ ltA w a := by
        unfold ltA
        cases hd : ltD w a 30 with
        | nil => rw [hd] at hm; cases hm
        | cons d r => exact ⟨_, List.mem_singleton.2 rfl⟩
      obtain ⟨b', c', rfl, _, _, _, hall⟩ := late_span hw han hx
      rw [hall] at h
      have h := of_decide_eq_true h
      refine ⟨⟨2, a, b', c'⟩, ?_, ?_⟩
      · unfold allS
        rw [List.mem_append]
        exact .inr (mem_ltN.2 ⟨a, han, hx⟩)
      · unfold covB
        rw [if_pos rfl]
        simp only [Bool.and_eq_true, beq_iff_eq, decide_eq_true_eq]
        exact ⟨⟨⟨trivial, trivial⟩, h.1⟩, h.2⟩
end Go.Mw
namespace Go.Mw

/-- Two walks whose readings are the same but for their numbers. -/
structure Turned (A B : Walk) (s t : Nat → Nat) : Prop where
  r : A.rates = B.rates
  n : A.readings.length = B.readings.length
  g : ∀ i, i < A.readings.length → s i < A.readings.length ∧ t (s i) = i ∧ rd A i = rd B (s i)
  h : ∀ i, i < A.readings.length → t i < A.readings.length ∧ s (t i) = i ∧ rd B i = rd A (t i)
/-- No two readings are of the same day and house. -/
def DD (w : Walk) : Prop := ∀ i j, i < w.readings.length → j < w.readings.length → i ≠ j → (rd w i).house = (rd w j).house → (rd w i).day ≠ (rd w j).day
section
variable {A B : Walk} {s t : Nat → Nat}
theorem Turned.symm (h : Turned A B s t) : Turned B A t s := ⟨h.r.symm, h.n.symm, fun i hi => h.h i (by rw [h.n]; exact hi) |> fun q => ⟨by rw [← h.n]; exact q.1, q.2.1, q.2.2⟩, fun i hi => h.g i (by rw [h.n]; exact hi) |> fun q => ⟨by rw [← h.n]; exact q.1, q.2.1, q.2.2⟩⟩
theorem Turned.dd (h : Turned A B s t) (hd : DD A) : DD B := by
  intro i j hi hj hij hh
  have hi' := h.h i (by rw [h.n]; exact hi)
  have hj' := h.h j (by rw [h.n]; exact hj)
  rw [hi'.2.2, hj'.2.2] at hh ⊢
  exact hd _ _ hi'.1 hj'.1 (fun e => hij (by rw [← hi'.2.1, ← hj'.2.1, e])) hh
theorem Turned.mem (h : Turned A B s t) {r : Reading} (hr : r ∈ B.readings) : r ∈ A.readings := by
  obtain ⟨i, hi, rfl⟩ := mem_rd hr
  have hi' := h.h i (by rw [h.n]; exact hi)
  rw [hi'.2.2]
  exact rd_mem hi'.1
theorem fits_sub {A B : Walk} (hr : A.rates = B.rates) (hm : ∀ r ∈ B.readings, r ∈ A.readings) (hf : fitsS A = true) : fitsS B = true := by
  rw [fits_mem] at *
  intro k hk r hr' q hq h1 h2
  have := hf k (by rw [hr]; exact hk) r (hm r hr') q (hm q hq) h1 h2
  unfold rt at *
  rw [← hr]; exact this
theorem Turned.fits (h : Turned A B s t) : fitsS A = fitsS B := by
  rw [Bool.eq_iff_iff]
  exact ⟨fits_sub h.r fun r => h.mem, fits_sub h.r.symm fun r => h.symm.mem⟩
theorem Turned.walk (h : Turned A B s t) : walkB A = walkB B := by
  have key : ∀ {A B : Walk} {s t}, Turned A B s t → walkB A = true → walkB B = true := fun {A B s t} h hw => by
    have := walk_mk (l := B.readings) hw (by rw [← h.n]; exact (walk_len hw).2.2) fun r hr => readB_mem hw (h.mem hr)
    rw [h.r] at this
    exact this
  rw [Bool.eq_iff_iff]
  exact ⟨key h, key h.symm⟩
theorem befL_map {s : Nat → Nat} {a : Nat} : ∀ {l : List Nat}, (∀ y ∈ l, s y = s a → y = a) → befL (s a) (l.map s) = (befL a l).map s
  | [], _ => rfl
  | [_], _ => rfl
  | x :: y :: r, h => by
    have ih := befL_map (s := s) (a := a) (l := y :: r) fun z hz => h z (List.mem_cons_of_mem _ hz)
    rw [List.map_cons] at ih
    rw [List.map_cons, List.map_cons, befL, befL]
    by_cases e : y = a
    · rw [if_pos e, if_pos (by rw [e])]; rfl
    · rw [if_neg e, if_neg fun e2 => e (h y (by simp) e2), ih]
theorem Turned.ofS (h : Turned A B s t) (hd : DD A) (k : Int) : ofS B k = (ofS A k).map s := by
  refine ofS_uniq ?_ fun x => ?_
  · rw [List.pairwise_map]
    refine (pw_ofS A k).imp_of_mem fun {a b} ha hb hl => ?_
    have h1 := mem_ofS.1 ha
    have h2 := mem_ofS.1 hb
    have g1 := (h.g a h1.1).2.2
    have g2 := (h.g b h2.1).2.2
    rcases hl with hl | ⟨hl, hab⟩
    · exact .inl (by rw [← g1, ← g2]; exact hl)
    · exact absurd hl (hd a b h1.1 h2.1 (by omega) (by rw [h1.2, h2.2]))
  · rw [List.mem_map]
    constructor
    · rintro ⟨a, ha, rfl⟩
      have h1 := mem_ofS.1 ha
      have g1 := h.g a h1.1
      exact ⟨by rw [← h.n]; exact g1.1, by rw [← g1.2.2]; exact h1.2⟩
    · rintro ⟨hx, hk⟩
      have g1 := h.h x (by rw [h.n]; exact hx)
      exact ⟨t x, mem_ofS.2 ⟨g1.1, by rw [← g1.2.2]; exact hk⟩, g1.2.1⟩
theorem Turned.bef (h : Turned A B s t) (hd : DD A) {a : Nat} (ha : a < A.readings.length) : befS B (s a) = (befS A a).map s := by
  unfold befS
  have g1 := h.g a ha
  rw [← g1.2.2, h.ofS hd]
  refine befL_map fun y hy e => ?_
  have h1 := (h.g y (mem_ofS.1 hy).1).2.1
  rw [← h1, e, g1.2.1]
theorem rd_two {w : Walk} {a b i : Nat} {x y : Reading} (ha : a < w.readings.length) (hb : b < w.readings.length) : rd ⟨w.rates, (w.readings.set a x).set b y⟩ i = if i = b then y else if i = a then x else rd w i := by
  have h1 := rd_set (w := ⟨w.rates, w.readings.set a x⟩) (l := w.rates) (a := b) (r := y) (by simpa using hb) i
  rw [h1]
  split
  · rfl
  · exact rd_set (w := w) (l := w.rates) ha i
/-- A swap and its two readings: what is made. -/
theorem works_swI {w : Walk} {a b : Nat} (hab : a < b) (hb : b < w.readings.length) : worksS w ⟨0, a, b, 0⟩ = true ↔ ((rd w a).day = (rd w b).day ∧ ((rd w a).house - (rd w b).house = 1 ∨ (rd w b).house - (rd w a).house = 1)) ∧
    fitsS ⟨w.rates, (w.readings.set a { rd w a with shows := (rd w b).shows }).set b { rd w b with shows := (rd w a).shows }⟩ = true := by
  rw [works_sw hab hb]
  simp only [Bool.and_eq_true, decide_eq_true_eq, sq_one]
  constructor
  · rintro ⟨h1, h2, h3⟩; exact ⟨⟨h1.symm, by omega⟩, h3⟩
  · rintro ⟨⟨h1, h2⟩, h3⟩; exact ⟨h1.symm, by omega, h3⟩
theorem works_cpI {w : Walk} {a : Nat} (ha : a < w.readings.length) : worksS w ⟨1, a, 0, 0⟩ = true ↔ (∃ p, befS w a = some p ∧ (rd w p).shows = (rd w a).shows) ∧ fitsS ⟨w.rates, w.readings.take a ++ w.readings.drop (a + 1)⟩ = true := by
  rw [works_cp ha]
  cases befS w a with
  | none => simp
  | some p =>
    simp only [Bool.and_eq_true, decide_eq_true_eq]
    constructor
    · rintro ⟨h1, h2⟩; exact ⟨⟨p, rfl, h1⟩, h2⟩
    · rintro ⟨⟨q, hq, h1⟩, h2⟩; cases hq; exact ⟨h1, h2⟩
theorem works_ltI {w : Walk} {a d : Nat} (ha : a < w.readings.length) : worksS w ⟨2, a, d, 0⟩ = true ↔ (1 ≤ d ∧ d ≤ 30 ∧ 0 ≤ (rd w a).day - d ∧ ∀ p, befS w a = some p → (rd w p).day < (rd w a).day - d) ∧ fitsS (lateW w a d) = true := by
  have h1 := nat_in ha
  unfold worksS madeS
  simp only [h1, Int.toNat_natCast, Bool.true_eq_false, if_false]
  rw [if_neg (by decide), if_neg (by decide), if_pos trivial]
  by_cases hc : inB (d : Int) 1 30 = true ∧ 0 ≤ (rd w a).day - d ∧ ∀ p, befS w a = some p → (rd w p).day < (rd w a).day - d
  · rw [if_pos hc]
    have h2 := inB_iff.1 hc.1
    exact ⟨fun h => ⟨⟨by omega, by omega, hc.2⟩, h⟩, fun h => h.2⟩
  · rw [if_neg hc]
    exact ⟨fun h => by simp at h, fun h => absurd ⟨inB_iff.2 ⟨by omega, by omega⟩, h.1.2.2⟩ hc⟩
theorem mem_cut {w : Walk} {a : Nat} {r : Reading} : r ∈ w.readings.take a ++ w.readings.drop (a + 1) ↔ ∃ i, i < w.readings.length ∧ i ≠ a ∧ rd w i = r := by
  rw [List.mem_append]
  constructor
  · rintro (h | h)
    · obtain ⟨i, hi⟩ := List.getElem?_of_mem h
      rw [List.getElem?_take] at hi
      split at hi
      · have hl := (List.getElem?_eq_some_iff.1 hi).1
        rw [rd_get hl] at hi
        exact ⟨i, hl, by omega, Option.some.inj hi⟩
      · cases hi
    · obtain ⟨i, hi⟩ := List.getElem?_of_mem h
      rw [List.getElem?_drop] at hi
      have hl := (List.getElem?_eq_some_iff.1 hi).1
      rw [rd_get hl] at hi
      exact ⟨a + 1 + i, hl, by omega, Option.some.inj hi⟩
  · rintro ⟨i, hi, hne, rfl⟩
    rcases Nat.lt_or_ge i a with h | h
    · left
      refine List.mem_of_getElem? (i := i) ?_
      rw [List.getElem?_take, if_pos h, rd_get hi]
    · right
      refine List.mem_of_getElem? (i := i - (a + 1)) ?_
      rw [List.getElem?_drop, show a + 1 + (i - (a + 1)) = i by omega, rd_get hi]
/-- A repair of the one walk is one of the other. -/
theorem Turned.swap1 (h : Turned A B s t) {a b : Nat} (hab : a < b) (hb : b < A.readings.length) (hw : worksS A ⟨0, a, b, 0⟩ = true) : worksS B ⟨0, ((min (s a) (s b) : Nat) : Int), ((max (s a) (s b) : Nat) : Int), 0⟩ = true := by
  have ha : a < A.readings.length := by omega
  have ga := h.g a ha
  have gb := h.g b hb
  have hB := h.n
  have hne : s a ≠ s b := fun e => by have := ga.2.1; rw [e, gb.2.1] at this; omega
  obtain ⟨⟨h1, h2⟩, h3⟩ := (works_swI hab hb).1 hw
  rw [ga.2.2, gb.2.2] at h1 h2
  rcases Nat.lt_or_ge (s a) (s b) with hl | hl
  · rw [Nat.min_eq_left (by omega), Nat.max_eq_right (by omega)]
    refine (works_swI hl (by omega)).2 ⟨⟨h1, h2⟩, fits_sub (A := ⟨A.rates, (A.readings.set a { rd A a with shows := (rd A b).shows }).set b { rd A b with shows := (rd A a).shows }⟩) h.r (fun r hr => ?_) h3⟩
    obtain ⟨i, hi, rfl⟩ := mem_rd hr
    have hi : i < B.readings.length := by simpa using hi
    have gi := h.h i (by omega)
    have e : rd ⟨B.rates, (B.readings.set (s a) { rd B (s a) with shows := (rd B (s b)).shows }).set (s b) { rd B (s b) with shows := (rd B (s a)).shows }⟩ i = rd ⟨A.rates, (A.readings.set a { rd A a with shows := (rd A b).shows }).set b { rd A b with shows := (rd A a).shows }⟩ (t i) := by
      rw [rd_two (by omega) (by omega), rd_two ha hb, ga.2.2, gb.2.2, ← gi.2.2]
      have e1 : i = s b ↔ t i = b := ⟨fun e => by rw [e, gb.2.1], fun e => by rw [← e, gi.2.1]⟩
      have e2 : i = s a ↔ t i = a := ⟨fun e => by rw [e, ga.2.1], fun e => by rw [← e, gi.2.1]⟩
      simp only [e1, e2]
    rw [e]
    exact rd_mem (by simpa using gi.1)
  · rw [Nat.min_eq_right (by omega), Nat.max_eq_left (by omega)]
    refine (works_swI (by omega) (by omega)).2 ⟨⟨h1.symm, by omega⟩, fits_sub (A := ⟨A.rates, (A.readings.set a { rd A a with shows := (rd A b).shows }).set b { rd A b with shows := (rd A a).shows }⟩) h.r (fun r hr => ?_) h3⟩
    obtain ⟨i, hi, rfl⟩ := mem_rd hr
    have hi : i < B.readings.length := by simpa using hi
    have gi := h.h i (by omega)
    have e : rd ⟨B.rates, (B.readings.set (s b) { rd B (s b) with shows := (rd B (s a)).shows }).set (s a) { rd B (s a) with shows := (rd B (s b)).shows }⟩ i = rd ⟨A.rates, (A.readings.set a { rd A a with shows := (rd A b).shows }).set b { rd A b with shows := (rd A a).shows }⟩ (t i) := by
      rw [rd_two (by omega) (by omega), rd_two ha hb, ga.2.2, gb.2.2, ← gi.2.2]
      have e1 : i = s b ↔ t i = b := ⟨fun e => by rw [e, gb.2.1], fun e => by rw [← e, gi.2.1]⟩
      have e2 : i = s a ↔ t i = a := ⟨fun e => by rw [e, ga.2.1], fun e => by rw [← e, gi.2.1]⟩
      simp only [e1, e2]
      by_cases q1 : t i = a
      · have q2 : ¬ t i = b := by omega
        simp only [q1, if_true, if_neg (show ¬ a = b by omega)]
      · simp only [q1, if_false]
    rw [e]
    exact rd_mem (by simpa using gi.1)
theorem Turned.copy1 (h : Turned A B s t) (hd : DD A) {a : Nat} (ha : a < A.readings.length) (hw : worksS A ⟨1, a, 0, 0⟩ = true) : worksS B ⟨1, (s a : Nat), 0, 0⟩ = true := by
  have ga := h.g a ha
  have hB := h.n
  obtain ⟨⟨p, hp, h1⟩, h2⟩ := (works_cpI ha).1 hw
  have gp := h.g p (befS_lt hp)
  refine (works_cpI (by omega)).2 ⟨⟨s p, by rw [h.bef hd ha, hp]; rfl, by rw [← gp.2.2, ← ga.2.2]; exact h1⟩, fits_sub (A := ⟨A.rates, A.readings.take a ++ A.readings.drop (a + 1)⟩) h.r (fun r hr => ?_) h2⟩
  obtain ⟨i, hi, hne, rfl⟩ := mem_cut.1 hr
  have gi := h.h i (by omega)
  exact mem_cut.2 ⟨t i, gi.1, fun e => hne (by rw [← gi.2.1, e]), gi.2.2.symm⟩
theorem Turned.late1 (h : Turned A B s t) (hd : DD A) {a d : Nat} (ha : a < A.readings.length) (hw : worksS A ⟨2, a, d, 0⟩ = true) : worksS B ⟨2, (s a : Nat), d, 0⟩ = true := by
  have ga := h.g a ha
  have hB := h.n
  obtain ⟨⟨h1, h2, h3, h4⟩, h5⟩ := (works_ltI ha).1 hw
  refine (works_ltI (by omega)).2 ⟨⟨h1, h2, by rw [← ga.2.2]; exact h3, fun p hp => ?_⟩, fits_sub (A := lateW A a d) h.r (fun r hr => ?_) h5⟩
  · rw [h.bef hd ha] at hp
    cases hq : befS A a with
    | none => rw [hq] at hp; cases hp
    | some q =>
      rw [hq] at hp
      cases hp
      rw [← ga.2.2, ← (h.g q (befS_lt hq)).2.2]
      exact h4 q hq
  · obtain ⟨i, hi, rfl⟩ := mem_rd hr
    have hi : i < B.readings.length := by simpa using hi
    have gi := h.h i (by omega)
    have e : rd (lateW B (s a) d) i = rd (lateW A a d) (t i) := by
      rw [rd_late (by omega), rd_late ha, ← ga.2.2, ← gi.2.2]
      have e2 : i = s a ↔ t i = a := ⟨fun e => by rw [e, ga.2.1], fun e => by rw [← e, gi.2.1]⟩
      simp only [e2]
    rw [e]
    exact rd_mem (by simpa using gi.1)
theorem Turned.late2 (h : Turned A B s t) (hd : DD A) {a d : Nat} (ha : a < A.readings.length) : worksS A ⟨2, a, d, 0⟩ = worksS B ⟨2, (s a : Nat), d, 0⟩ := by
  rw [Bool.eq_iff_iff]
  refine ⟨h.late1 hd ha, fun hw => ?_⟩
  have ga := h.g a ha
  have := h.symm.late1 (h.dd hd) (a := s a) (by rw [← h.n]; exact ga.1) hw
  rw [ga.2.1] at this
  exact this
theorem Turned.ltA (h : Turned A B s t) (hd : DD A) {a : Nat} (ha : a < A.readings.length) {x : Repair} (hx : x ∈ ltA A a) : (⟨2, (s a : Nat), x.b, x.c⟩ : Repair) ∈ ltA B (s a) := by
  have e : ltD A a 30 = ltD B (s a) 30 := by
    unfold ltD
    exact filter_ext fun d _ => h.late2 hd ha
  unfold Go.Mw.ltA at *
  rw [← e]
  split at hx
  · cases hx
  · rw [List.mem_singleton.1 hx]
    simp
/-- A repair with the numbers that readings have in the other walk. -/
def renR (s : Nat → Nat) (x : Repair) : Repair := if x.kind = 0 then ⟨0, ((min (s x.a.toNat) (s x.b.toNat) : Nat) : Int), ((max (s x.a.toNat) (s x.b.toNat) : Nat) : Int), x.c⟩ else ⟨x.kind, (s x.a.toNat : Nat), x.b, x.c⟩
theorem mem_allS {w : Walk} {x : Repair} : x ∈ allS w ↔ (∃ a b : Nat, a < b ∧ b < w.readings.length ∧ worksS w ⟨0, a, b, 0⟩ = true ∧ x = ⟨0, a, b, 0⟩) ∨ (∃ a : Nat, a < w.readings.length ∧ worksS w ⟨1, a, 0, 0⟩ = true ∧ x = ⟨1, a, 0, 0⟩) ∨ ∃ a : Nat, a < w.readings.length ∧ x ∈ ltA w a := by
  unfold allS
  rw [List.mem_append, List.mem_append, mem_swN, mem_cpN, mem_ltN, or_assoc]
theorem Turned.all (h : Turned A B s t) (hd : DD A) {x : Repair} (hx : x ∈ allS A) : renR s x ∈ allS B ∧ renR t (renR s x) = x := by
  rw [mem_allS] at hx
  rw [mem_allS]
  have hB := h.n
  rcases hx with ⟨a, b, h1, h2, h3, rfl⟩ | ⟨a, h1, h2, rfl⟩ | ⟨a, h1, hx⟩
  · have ga := h.g a (by omega)
    have gb := h.g b h2
    have hne : s a ≠ s b := fun e => by have := ga.2.1; rw [e, gb.2.1] at this; omega
    have e : renR s ⟨0, a, b, 0⟩ = ⟨0, ((min (s a) (s b) : Nat) : Int), ((max (s a) (s b) : Nat) : Int), 0⟩ := rfl
    rw [e]
    refine ⟨.inl ⟨_, _, by omega, by omega, h.swap1 h1 h2 h3, rfl⟩, ?_⟩
    have e2 : renR t ⟨0, ((min (s a) (s b) : Nat) : Int), ((max (s a) (s b) : Nat) : Int), 0⟩ = ⟨0, ((min (t (min (s a) (s b))) (t (max (s a) (s b))) : Nat) : Int), ((max (t (min (s a) (s b))) (t (max (s a) (s b))) : Nat) : Int), 0⟩ := rfl
    rw [e2]
    rcases Nat.lt_or_ge (s a) (s b) with hl | hl
    · rw [Nat.min_eq_left (Nat.le_of_lt hl), Nat.max_eq_right (Nat.le_of_lt hl), ga.2.1, gb.2.1, Nat.min_eq_left (Nat.le_of_lt h1), Nat.max_eq_right (Nat.le_of_lt h1)]
    · rw [Nat.min_eq_right hl, Nat.max_eq_left hl, ga.2.1, gb.2.1, Nat.min_eq_right (Nat.le_of_lt h1), Nat.max_eq_left (Nat.le_of_lt h1)]
  · have ga := h.g a h1
    exact ⟨.inr (.inl ⟨s a, by omega, h.copy1 hd h1 h2, rfl⟩), by show (⟨1, ((t (s a) : Nat) : Int), 0, 0⟩ : Repair) = _; rw [ga.2.1]⟩
  · have ga := h.g a h1
    have hk := ltA_a hx
    have e : renR s x = ⟨2, (s a : Nat), x.b, x.c⟩ := by
      unfold renR
      rw [if_neg (by omega), hk.1, hk.2, Int.toNat_natCast]
    rw [e]
    refine ⟨.inr (.inr ⟨s a, by omega, h.ltA hd h1 hx⟩), ?_⟩
    unfold renR
    rw [if_neg (show ¬ (2 : Int) = 0 by decide)]
    simp only [Int.toNat_natCast, ga.2.1]
    obtain ⟨k, a', b, c⟩ := x
    simp only at hk ⊢
    rw [hk.1, hk.2]
theorem sub_len {α : Type} [DecidableEq α] : ∀ {l m : List α}, l.Nodup → (∀ x ∈ l, x ∈ m) → l.length ≤ m.length
  | [], _, _, _ => Nat.zero_le _
  | a :: l, m, hn, hs => by
    have h1 := List.nodup_cons.1 hn
    have := sub_len (l := l) (m := m.erase a) h1.2 fun x hx => by
      refine (List.mem_erase_of_ne fun e => ?_).2 (hs x (List.mem_cons_of_mem _ hx))
      subst e; exact h1.1 hx
    have hm := hs a (by simp)
    have := List.length_erase_of_mem hm
    have := List.length_pos_of_mem hm
    simp only [List.length_cons]; omega
theorem nodup_allS (w : Walk) : (allS w).Nodup := by
  refine (all_pw w).imp fun {x y} h e => ?_
  subst e
  rcases h with h | ⟨_, h | ⟨_, _, h⟩⟩ <;> omega
theorem Turned.len1 (h : Turned A B s t) (hd : DD A) : (allS A).length ≤ (allS B).length := by
  have := sub_len (l := (allS A).map (renR s)) (m := allS B) ?_ ?_
  · simpa using this
  · unfold List.Nodup
    rw [List.pairwise_map]
    exact (nodup_allS A).imp_of_mem fun {x y} hx hy hne e => hne (by rw [← (h.all hd hx).2, ← (h.all hd hy).2, e])
  · intro x hx
    obtain ⟨y, hy, rfl⟩ := List.mem_map.1 hx
    exact (h.all hd hy).1
theorem Turned.len (h : Turned A B s t) (hd : DD A) : (allS A).length = (allS B).length := Nat.le_antisymm (h.len1 hd) (h.symm.len1 (h.dd hd))
theorem Turned.expl (h : Turned A B s t) (hd : DD A) : (explainR A).2 = (explainR B).2 ∧ (explainR A).1.length = (explainR B).1.length ∧ ∀ x ∈ (explainR A).1, x ∈ allS A ∧ renR s x ∈ (explainR B).1 := by
  have hl := h.len hd
  unfold explainR
  rw [h.walk, h.fits]
  split
  · split
    · exact ⟨rfl, rfl, fun x hx => by cases hx⟩
    · by_cases e : allS A = []
      · have e2 : allS B = [] := List.eq_nil_of_length_eq_zero (by rw [← hl, e]; rfl)
        rw [if_pos e, if_pos e2]
        exact ⟨rfl, rfl, fun x hx => by cases hx⟩
      · have e2 : ¬ allS B = [] := fun e3 => e (List.eq_nil_of_length_eq_zero (by rw [hl, e3]; rfl))
        rw [if_neg e, if_neg e2]
        exact ⟨rfl, hl, fun x hx => ⟨hx, (h.all hd hx).1⟩⟩
  · exact ⟨rfl, rfl, fun x hx => by cases hx⟩
theorem bad_rot (h : Turned A B s t) (k : Nat) : (badS A k).isSome = (badS B k).isSome := by
  have key : ∀ {A B : Walk} {s t}, Turned A B s t → badS A k = none → badS B k = none := fun {A B s t} h hb => by
    rw [bad_iff] at *
    intro x y hx hy hxk hyk
    have gx := h.h x (by rw [h.n]; exact hx)
    have gy := h.h y (by rw [h.n]; exact hy)
    rw [gx.2.2] at hxk ⊢
    rw [gy.2.2] at hyk ⊢
    have e : rt B k = rt A k := by unfold rt; rw [h.r]
    rw [e]
    exact hb _ _ gx.1 gy.1 hxk hyk
  cases h1 : badS A k with
  | none => rw [key h h1]
  | some p =>
    cases h2 : badS B k with
    | none => rw [key h.symm h2] at h1; cases h1
    | some q => rfl
theorem of_rot (h : Turned A B s t) (k : Int) : ofS A k = [] ↔ ofS B k = [] := by
  have key : ∀ {A B : Walk} {s t}, Turned A B s t → ofS A k = [] → ofS B k = [] := fun {A B s t} h hb => by
    cases ho : ofS B k with
    | nil => rfl
    | cons x r =>
      have hx := mem_ofS.1 (show x ∈ ofS B k by rw [ho]; simp)
      have gx := h.h x (by rw [h.n]; exact hx.1)
      have : t x ∈ ofS A k := mem_ofS.2 ⟨gx.1, by rw [← gx.2.2]; exact hx.2⟩
      rw [hb] at this; cases this
  exact ⟨key h, key h.symm⟩
theorem Turned.shows (h : Turned A B s t) (house day : Int) : showsR A house day = showsR B house day := by
  have e2 : (showsR A house day).2 = (showsR B house day).2 := by
    unfold showsR
    rw [h.walk, h.r, bad_rot h]
    by_cases h1 : walkB B = false
    · rw [if_pos h1, if_pos h1]
    rw [if_neg h1, if_neg h1]
    by_cases h2 : inB house 0 ((B.rates.length : Int) - 1) = false ∨ inB day 0 131072 = false
    · rw [if_pos h2, if_pos h2]
    rw [if_neg h2, if_neg h2]
    by_cases h3 : Go.Mw.ofS A house = []
    · rw [if_pos h3, if_pos ((of_rot h house).1 h3)]
    rw [if_neg h3, if_neg fun e => h3 ((of_rot h house).2 e)]
    split
    · rfl
    · rfl
  by_cases hz : (showsR A house day).2 = 0
  · have hz2 : (showsR B house day).2 = 0 := by rw [← e2]; exact hz
    have key : ∀ {A B : Walk} {s t}, Turned A B s t → (showsR A house day).2 = 0 → (showsR B house day).2 = 0 → (showsR A house day).1.lo ≤ (showsR B house day).1.lo ∧ (showsR B house day).1.hi ≤ (showsR A house day).1.hi := fun {A B s t} h ha hb => by
      have e : rt B house.toNat = rt A house.toNat := by unfold rt; rw [h.r]
      constructor
      · rw [(shows_iff ha _).1]
        intro i hi hih
        have gi := h.g i hi
        have := (shows_iff hb _).1.1 (Int.le_refl _) (s i) (by rw [← h.n]; exact gi.1) (by rw [← gi.2.2]; exact hih)
        rw [← gi.2.2, e] at this
        exact this
      · rw [(shows_iff ha _).2]
        intro i hi hih
        have gi := h.g i hi
        have := (shows_iff hb _).2.1 (Int.le_refl _) (s i) (by rw [← h.n]; exact gi.1) (by rw [← gi.2.2]; exact hih)
        rw [← gi.2.2, e] at this
        exact this
    have k1 := key h hz hz2
    have k2 := key h.symm hz2 hz
    have l1 : (showsR A house day).1.lo = (showsR B house day).1.lo := by omega
    have l2 : (showsR A house day).1.hi = (showsR B house day).1.hi := by omega
    have l3 : (showsR A house day).1 = (showsR B house day).1 := by
      cases hA : (showsR A house day).1
      cases hB : (showsR B house day).1
      rw [hA, hB] at l1 l2
      simp only at l1 l2
      rw [l1, l2]
    exact Prod.ext l3 e2
  · have hz2 : ¬ (showsR B house day).2 = 0 := by rw [← e2]; exact hz
    exact Prod.ext (by rw [(shows_err hz).1, (shows_err hz2).1]) e2
end

/-- Readings that are turned. -/
def turnL (w : Walk) (t k : Nat) : List Reading := (List.range k).map fun i => rd w ((i + t) % w.readings.length)
def turnW (w : Walk) (t : Nat) : Walk := ⟨w.rates, turnL w t w.readings.length⟩
theorem turn_zero (w : Walk) (t : Nat) : turnL w t 0 = [] := rfl
theorem turn_succ (w : Walk) (t k : Nat) : turnL w t (k + 1) = turnL w t k ++ [rd w ((k + t) % w.readings.length)] := by unfold turnL; rw [List.range_succ, List.map_append]; rfl
theorem turn_len (w : Walk) (t k : Nat) : (turnL w t k).length = k := by unfold turnL; simp
theorem rd_turn {w : Walk} {t i : Nat} (h : i < w.readings.length) : rd (turnW w t) i = rd w ((i + t) % w.readings.length) := by
  show (turnL w t w.readings.length)[i]?.getD _ = _
  unfold turnL
  simp [h]
theorem turn_rot (w : Walk) (t : Nat) : Turned (turnW w t) w (fun i => (i + t) % w.readings.length) (fun i => (i + (w.readings.length - t % w.readings.length)) % w.readings.length) := by
  have e : (turnW w t).readings.length = w.readings.length := turn_len _ _ _
  have m1 : ∀ i, i < w.readings.length → ((i + t) % w.readings.length + (w.readings.length - t % w.readings.length)) % w.readings.length = i := fun i hi => by
    have h0 := Nat.mod_lt t (show w.readings.length > 0 by omega)
    have h1 := Nat.add_mod i t w.readings.length
    rw [Nat.mod_eq_of_lt hi] at h1
    rw [h1]
    rcases Nat.lt_or_ge (i + t % w.readings.length) w.readings.length with h2 | h2
    · rw [Nat.mod_eq_of_lt h2, show i + t % w.readings.length + (w.readings.length - t % w.readings.length) = i + w.readings.length by omega, Nat.add_mod_right, Nat.mod_eq_of_lt hi]
    · have h3 : (i + t % w.readings.length) % w.readings.length = i + t % w.readings.length - w.readings.length := by
        rw [Nat.mod_eq_sub_mod h2, Nat.mod_eq_of_lt (by omega)]
      rw [h3, show i + t % w.readings.length - w.readings.length + (w.readings.length - t % w.readings.length) = i by omega, Nat.mod_eq_of_lt hi]
  have m2 : ∀ i, i < w.readings.length → ((i + (w.readings.length - t % w.readings.length)) % w.readings.length + t) % w.readings.length = i := fun i hi => by
    have h0 := Nat.mod_lt t (show w.readings.length > 0 by omega)
    rw [Nat.add_mod, Nat.mod_mod]
    rcases Nat.lt_or_ge (i + (w.readings.length - t % w.readings.length)) w.readings.length with h2 | h2
    · rw [Nat.mod_eq_of_lt h2, show i + (w.readings.length - t % w.readings.length) + t % w.readings.length = i + w.readings.length by omega, Nat.add_mod_right, Nat.mod_eq_of_lt hi]
    · have h3 : (i + (w.readings.length - t % w.readings.length)) % w.readings.length = i - t % w.readings.length := by
        rw [Nat.mod_eq_sub_mod h2]
        rw [show i + (w.readings.length - t % w.readings.length) - w.readings.length = i - t % w.readings.length by omega]
        exact Nat.mod_eq_of_lt (by omega)
      rw [h3]
      have h4 : t % w.readings.length ≤ i := by omega
      rw [show i - t % w.readings.length + t % w.readings.length = i by omega, Nat.mod_eq_of_lt hi]
  refine ⟨rfl, e, fun i hi => ?_, fun i hi => ?_⟩
  · rw [e] at hi ⊢
    exact ⟨Nat.mod_lt _ (by omega), m1 i hi, rd_turn hi⟩
  · rw [e] at hi ⊢
    refine ⟨Nat.mod_lt _ (by omega), m2 i hi, ?_⟩
    rw [rd_turn (Nat.mod_lt _ (by omega)), m2 i hi]

/-- A house more. -/
def moreW (w : Walk) : Walk := ⟨w.rates ++ [⟨0, 0⟩], w.readings⟩
theorem more_ofN (w : Walk) (h : Int) : ∀ n, ofN (moreW w) h n = ofN w h n
  | 0 => rfl
  | n + 1 => by
    have at_ : ∀ i out k, atS (moreW w) i out k = atS w i out k := fun i out k => by
      induction k with
      | zero => rfl
      | succ k ih => unfold atS; rw [ih]; rfl
    unfold ofN
    rw [more_ofN w h n]
    unfold insS
    rw [at_]
    rfl
theorem more_of (w : Walk) (h : Int) : ofS (moreW w) h = ofS w h := more_ofN w h _
theorem more_rt {w : Walk} {i : Nat} (h : i < w.rates.length) : rt (moreW w) i = rt w i := by
  unfold rt moreW
  simp only
  rw [List.getElem?_append_left h]
theorem more_walk {w : Walk} (hw : walkB w = true) (h7 : w.rates.length ≤ 7) : walkB (moreW w) = true := by
  have h := hw
  simp only [walkB, Bool.and_eq_true, List.all_eq_true, inB, decide_eq_true_eq] at h
  have hl : (moreW w).rates.length = w.rates.length + 1 := by unfold moreW; simp
  simp only [walkB, Bool.and_eq_true, List.all_eq_true, inB, decide_eq_true_eq]
  refine ⟨⟨fun s hs => ?_, fun r hr => ?_⟩, ⟨by omega, by omega⟩, h.2.2⟩
  · rcases List.mem_append.1 hs with hs | hs
    · exact h.1.1 s hs
    · rw [List.mem_singleton.1 hs]; rfl
  · have := readB_iff.1 (h.1.2 r hr)
    exact readB_iff.2 ⟨⟨by omega, by rw [hl]; omega⟩, this.2⟩
theorem more_fits {w : Walk} (hw : ∀ r ∈ w.readings, r.house < w.rates.length) : fitsS (moreW w) = fitsS w := by
  have hl : (moreW w).rates.length = w.rates.length + 1 := by unfold moreW; simp
  rw [Bool.eq_iff_iff, fits_mem, fits_mem]
  constructor
  · intro h k hk r hr q hq h1 h2
    have := h k (by omega) r hr q hq h1 h2
    rw [more_rt hk] at this
    exact this
  · intro h k hk r hr q hq h1 h2
    have := hw r hr
    have hk' : k < w.rates.length := by omega
    rw [more_rt hk']
    exact h k hk' r hr q hq h1 h2
theorem more_bef (w : Walk) (a : Nat) : befS (moreW w) a = befS w a := by
  unfold befS
  exact congrArg (befL a) (more_of w _)
theorem more_made (w : Walk) (x : Repair) : madeS (moreW w) x = (madeS w x).map moreW := by
  unfold madeS
  rw [more_bef]
  show (if inB x.a 0 ((w.readings.length : Int) - 1) = false then none else _) = _
  split
  · rfl
  split
  · show (if inB x.b (x.a + 1) ((w.readings.length : Int) - 1) = false then none else _) = _
    split
    · rfl
    show (if (rd w x.a.toNat).day ≠ (rd w x.b.toNat).day ∨ ((rd w x.a.toNat).house - (rd w x.b.toNat).house ≠ 1 ∧ (rd w x.b.toNat).house - (rd w x.a.toNat).house ≠ 1) then none else _) = _
    split
    · rfl
    · rfl
  split
  · cases befS w x.a.toNat with
    | none => rfl
    | some p =>
      show (if (rd w p).shows = (rd w x.a.toNat).shows then _ else none) = _
      simp only
      split
      · rfl
      · rfl
  split
  · show (if inB x.b 1 30 = true ∧ 0 ≤ (rd w x.a.toNat).day - x.b ∧ (∀ p, befS w x.a.toNat = some p → (rd w p).day < (rd w x.a.toNat).day - x.b) then _ else none) = _
    split
    · rfl
    · rfl
  · rfl
theorem more_works {w : Walk} (hw : walkB w = true) (x : Repair) : worksS (moreW w) x = worksS w x := by
  unfold worksS
  rw [more_made]
  cases hm : madeS w x with
  | none => rfl
  | some m =>
    have h1 := made_ok hw hm
    exact more_fits fun r hr => by
      have := readB_iff.1 (readB_mem h1.1 hr)
      omega
theorem more_all {w : Walk} (hw : walkB w = true) : allS (moreW w) = allS w := by
  have e : (fun x => worksS (moreW w) x) = worksS w := funext (more_works hw)
  have e' : worksS (moreW w) = worksS w := e
  have h1 : ∀ a j, swB (moreW w) a j = swB w a j := fun a j => by unfold swB; rw [e']
  have h2 : ∀ a j, ltD (moreW w) a j = ltD w a j := fun a j => by unfold ltD; rw [e']
  have h3 : swA (moreW w) = swA w := funext fun a => h1 a _
  have h4 : ltA (moreW w) = ltA w := funext fun a => by unfold ltA; rw [h2]
  unfold allS swN cpN ltN
  rw [h3, h4, e']
  rfl
theorem more_expl {w : Walk} (hw : walkB w = true) (h7 : w.rates.length ≤ 7) : explainR (moreW w) = explainR w := by
  unfold explainR
  rw [more_walk hw h7, hw, more_fits, more_all hw]
  intro r hr
  have := readB_iff.1 (readB_mem hw hr)
  omega
theorem more_bad {w : Walk} {i : Nat} (h : i < w.rates.length) : badS (moreW w) i = badS w i := by
  unfold badS
  rw [more_rt h, more_of]
  have key : ∀ l : List Nat, badL (moreW w) (rt w i) l = badL w (rt w i) l := fun l => by
    induction l with
    | nil => rfl
    | cons a l ih =>
      cases l with
      | nil => rfl
      | cons b l =>
        unfold badL
        rw [ih]
        rfl
  exact key _
theorem more_shows {w : Walk} (hw : walkB w = true) (h7 : w.rates.length ≤ 7) {house : Int} (hh : house < w.rates.length) (day : Int) : showsR (moreW w) house day = showsR w house day := by
  have hl : (moreW w).rates.length = w.rates.length + 1 := by unfold moreW; simp
  unfold showsR
  rw [more_walk hw h7, hw, more_of, hl]
  rw [if_neg (show ¬ true = false by decide), if_neg (show ¬ true = false by decide)]
  by_cases h0 : 0 ≤ house
  · have e1 : inB house 0 (((w.rates.length + 1 : Nat) : Int) - 1) = true := inB_iff.2 ⟨by omega, by omega⟩
    have e2 : inB house 0 ((w.rates.length : Int) - 1) = true := inB_iff.2 ⟨by omega, by omega⟩
    rw [e1, e2, more_bad (by omega), more_rt (by omega)]
    have key : ∀ (s : Span) (l : List Nat) k, shF (moreW w) s day l k = shF w s day l k := fun s l k => by
      induction k with
      | zero => rfl
      | succ k ih => unfold shF; rw [ih]; rfl
    rw [key]
  · have e1 : inB house 0 (((w.rates.length + 1 : Nat) : Int) - 1) = false := inB_not.2 (.inl (by omega))
    have e2 : inB house 0 ((w.rates.length : Int) - 1) = false := inB_not.2 (.inl (by omega))
    rw [if_pos (.inl e1), if_pos (.inl e2)]
end Go.Mw
namespace Go.Mw

/-- What a meter showed, day by day, if each day took no less and no more than its rate allows. -/
def TruthOk (s : Span) (f : Int → Int) : Prop := ∀ d, 0 ≤ d → s.lo ≤ f (d + 1) - f d ∧ f (d + 1) - f d ≤ s.hi
theorem truth_up {s : Span} {f : Int → Int} (hf : TruthOk s f) (a : Int) (ha : 0 ≤ a) : ∀ n : Nat, s.lo * n ≤ f (a + n) - f a ∧ f (a + n) - f a ≤ s.hi * n
  | 0 => by simp
  | n + 1 => by
    have ih := truth_up hf a ha n
    have h := hf (a + n) (by omega)
    have e : a + ((n + 1 : Nat) : Int) = a + n + 1 := by omega
    have e1 : s.lo * ((n + 1 : Nat) : Int) = s.lo * n + s.lo := by rw [Int.natCast_add, Int.mul_add]; simp
    have e2 : s.hi * ((n + 1 : Nat) : Int) = s.hi * n + s.hi := by rw [Int.natCast_add, Int.mul_add]; simp
    rw [e, e1, e2]
    omega
theorem truth_fit {s : Span} {f : Int → Int} (hf : TruthOk s f) {a b : Reading} (ha : 0 ≤ a.day ∧ a.shows = f a.day) (hb : 0 ≤ b.day ∧ b.shows = f b.day) : fitP s a b := by
  have key : ∀ {a b : Reading}, (0 ≤ a.day ∧ a.shows = f a.day) → (0 ≤ b.day ∧ b.shows = f b.day) → a.day ≤ b.day → fitP s a b := by
    intro a b ha hb hab
    obtain ⟨n, hn⟩ : ∃ n : Nat, b.day = a.day + n := ⟨(b.day - a.day).toNat, by omega⟩
    have h := truth_up hf a.day ha.1 n
    unfold fitP tkL tkH
    rw [hb.2, ha.2, hn, if_neg (by omega), if_neg (by omega), show a.day + (n : Int) - a.day = n by omega]
    exact h
  rcases Int.le_total a.day b.day with h | h
  · exact key ha hb h
  · exact fit_symm (key hb ha h)
end Go.Mw
namespace Go.Mw
theorem tmod_n (a b : Nat) : ((a : Int)).tmod (b : Int) = ((a % b : Nat) : Int) := (Int.ofNat_tmod a b).symm
def byG (by0 : List Nat) (i : Nat) : Nat := by0[i % by0.length]?.getD 0
theorem byG_get {by0 : List Nat} (h : 0 < by0.length) (i : Nat) : by0[i % by0.length]? = some (byG by0 i) := by
  have := Nat.mod_lt i h
  unfold byG
  rw [List.getElem?_eq_getElem this]; rfl
theorem byG_le {by0 : List Nat} (hb : ∀ n ∈ by0, n ≤ 65535) (i : Nat) : byG by0 i ≤ 65535 := by
  unfold byG
  cases h : by0[i % by0.length]? with
  | none => simp
  | some n => exact hb n (List.mem_of_getElem? h)
/-- What a house took on a day. -/
def tookS (s : Span) (house day : Nat) (by0 : List Nat) : Int := s.lo + ((byG by0 (house + day) + day : Nat) : Int).tmod (s.hi - s.lo + 1)
theorem took_in {s : Span} (hs : 0 ≤ s.lo ∧ s.lo ≤ s.hi) (house day : Nat) (by0 : List Nat) : s.lo ≤ tookS s house day by0 ∧ tookS s house day by0 ≤ s.hi := by
  unfold tookS
  have h1 : 0 ≤ ((byG by0 (house + day) + day : Nat) : Int).tmod (s.hi - s.lo + 1) := Int.tmod_nonneg _ (by omega)
  have h2 : ((byG by0 (house + day) + day : Nat) : Int).tmod (s.hi - s.lo + 1) < s.hi - s.lo + 1 := Int.tmod_lt_of_pos _ (by omega)
  omega
/-- What a meter showed day by day. -/
def shwF (s : Span) (house : Nat) (by0 : List Nat) : Nat → Int
  | 0 => ((byG by0 house % 500 : Nat) : Int)
  | d + 1 => shwF s house by0 d + tookS s house d by0
theorem shw_bnd {s : Span} (hs : 0 ≤ s.lo ∧ s.lo ≤ s.hi ∧ s.hi ≤ 100000) (house : Nat) (by0 : List Nat) : ∀ d, 0 ≤ shwF s house by0 d ∧ shwF s house by0 d ≤ 500 + 100000 * (d : Int)
  | 0 => by
    unfold shwF
    have := Nat.mod_lt (byG by0 house) (show 0 < 500 by omega)
    omega
  | d + 1 => by
    have ih := shw_bnd hs house by0 d
    have := took_in ⟨hs.1, hs.2.1⟩ house d by0
    unfold shwF
    omega
def rowI (s : Span) (house : Nat) (by0 : List Nat) (n : Nat) : List Int := (List.range n).map (shwF s house by0)
theorem rowI_succ (s : Span) (house : Nat) (by0 : List Nat) (n : Nat) : rowI s house by0 (n + 1) = rowI s house by0 n ++ [shwF s house by0 n] := by unfold rowI; rw [List.range_succ, List.map_append]; rfl
theorem rowI_len (s : Span) (house : Nat) (by0 : List Nat) (n : Nat) : (rowI s house by0 n).length = n := by unfold rowI; simp
theorem rowI_get {s : Span} {house : Nat} {by0 : List Nat} {n d : Nat} (h : d < n) : (rowI s house by0 n)[d]? = some (shwF s house by0 d) := by unfold rowI; simp [h]
def rtL (rates : List Span) (i : Nat) : Span := rates[i]?.getD ⟨0, 0⟩
theorem rtL_get {rates : List Span} {i : Nat} (h : i < rates.length) : rates[i]? = some (rtL rates i) := by unfold rtL; rw [List.getElem?_eq_getElem h]; rfl
def dayK (by0 : List Nat) : Nat → Nat
  | 0 => 10
  | k + 1 => dayK by0 k + (3 + byG by0 k % 16)
theorem dayK_le (by0 : List Nat) : ∀ k, dayK by0 k ≤ 10 + 18 * k
  | 0 => Nat.le_refl _
  | k + 1 => by
    have := dayK_le by0 k
    have := Nat.mod_lt (byG by0 k) (show 0 < 16 by omega)
    unfold dayK; omega
def addR (rates : List Span) (by0 : List Nat) (k day : Nat) (l : List Reading) (i : Nat) : List Reading := if l.length < 24 ∧ 0 < byG by0 (i + k) % 8 then l ++ [⟨i, day, shwF (rtL rates i) i by0 day⟩] else l
def rowR (rates : List Span) (by0 : List Nat) (k day : Nat) (l : List Reading) : Nat → List Reading
  | 0 => l
  | i + 1 => addR rates by0 k day (rowR rates by0 k day l i) i
def allR (rates : List Span) (by0 : List Nat) : Nat → List Reading
  | 0 => []
  | k + 1 => rowR rates by0 k (dayK by0 k) (allR rates by0 k) rates.length
theorem addR_len {rates : List Span} {by0 : List Nat} {k day i : Nat} {l : List Reading} (h : l.length ≤ 24) : (addR rates by0 k day l i).length ≤ 24 := by
  unfold addR
  split
  · simp; omega
  · exact h
theorem rowR_len {rates : List Span} {by0 : List Nat} {k day : Nat} {l : List Reading} (h : l.length ≤ 24) : ∀ i, (rowR rates by0 k day l i).length ≤ 24
  | 0 => h
  | i + 1 => addR_len (rowR_len h i)
theorem allR_len (rates : List Span) (by0 : List Nat) : ∀ k, (allR rates by0 k).length ≤ 24
  | 0 => by simp [allR]
  | k + 1 => rowR_len (allR_len rates by0 k) _
end Go.Mw
namespace Go.Mw

/-- Rates that can be. -/
def RatesOk (rates : List Span) : Prop := (1 ≤ rates.length ∧ rates.length ≤ 8) ∧ ∀ i, i < rates.length → 0 ≤ (rtL rates i).lo ∧ (rtL rates i).lo ≤ (rtL rates i).hi ∧ (rtL rates i).hi ≤ 100000
theorem rates_ok {rates : List Span} (h : walkB ⟨rates, []⟩ = true) : RatesOk rates := by
  have h1 := walk_len h
  exact ⟨⟨h1.1, h1.2.1⟩, fun i hi => rate_ok (w := ⟨rates, []⟩) h hi⟩
def TrueIn (rates : List Span) (by0 : List Nat) (r : Reading) : Prop := ∃ i d : Nat, i < rates.length ∧ d ≤ 80 ∧ r = ⟨i, d, shwF (rtL rates i) i by0 d⟩
theorem all_true {rates : List Span} {by0 : List Nat} : ∀ k, k ≤ 4 → ∀ r ∈ allR rates by0 k, TrueIn rates by0 r
  | 0, _, r, hr => by simp [allR] at hr
  | k + 1, hk, r, hr => by
    have key : ∀ n, n ≤ rates.length → ∀ r ∈ rowR rates by0 k (dayK by0 k) (allR rates by0 k) n, TrueIn rates by0 r := by
      intro n
      induction n with
      | zero => intro _ r hr; exact all_true k (by omega) r hr
      | succ n ih =>
        intro hn r hr
        have e : rowR rates by0 k (dayK by0 k) (allR rates by0 k) (n + 1) = addR rates by0 k (dayK by0 k) (rowR rates by0 k (dayK by0 k) (allR rates by0 k) n) n := rfl
        rw [e] at hr
        unfold addR at hr
        split at hr
        · rcases List.mem_append.1 hr with hr | hr
          · exact ih (by omega) r hr
          · rw [List.mem_singleton.1 hr]
            exact ⟨n, dayK by0 k, by omega, by have := dayK_le by0 k; omega, rfl⟩
        · exact ih (by omega) r hr
    exact key _ (Nat.le_refl _) r hr
def truF (s : Span) (house : Nat) (by0 : List Nat) (d : Int) : Int := shwF s house by0 d.toNat
theorem tru_ok {s : Span} (hs : 0 ≤ s.lo ∧ s.lo ≤ s.hi) (house : Nat) (by0 : List Nat) : TruthOk s (truF s house by0) := by
  intro d hd
  have h := took_in hs house d.toNat by0
  have e : truF s house by0 (d + 1) = truF s house by0 d + tookS s house d.toNat by0 := by
    unfold truF
    rw [show (d + 1).toNat = d.toNat + 1 by omega]; rfl
  omega
theorem true_pair {rates : List Span} {by0 : List Nat} (hr : RatesOk rates) {a b : Reading} {h : Nat} (hh : h < rates.length) (ha : TrueIn rates by0 a) (hb : TrueIn rates by0 b) (hah : a.house = h) (hbh : b.house = h) : fitP (rtL rates h) a b := by
  obtain ⟨i, d, hi, hd, rfl⟩ := ha
  obtain ⟨j, e, hj, he, rfl⟩ := hb
  simp only at hah hbh
  have : i = h := by omega
  subst this
  have : j = i := by omega
  subst this
  have hs := hr.2 j hj
  exact truth_fit (tru_ok ⟨hs.1, hs.2.1⟩ j by0) ⟨by simp only; omega, by simp only [truF, Int.toNat_natCast]⟩ ⟨by simp only; omega, by simp only [truF, Int.toNat_natCast]⟩
section
variable {rates : List Span} {by0 : List Nat} {l : List Reading}
theorem true_walk (hw : walkB ⟨rates, []⟩ = true) (hl : l.length ≤ 24) (ht : ∀ r ∈ l, TrueIn rates by0 r) : walkB ⟨rates, l⟩ = true := by
  have hr := rates_ok hw
  refine walk_mk hw hl fun r hrl => ?_
  obtain ⟨i, d, hi, hd, rfl⟩ := ht r hrl
  have hb := shw_bnd (hr.2 i hi) i by0 d
  exact readB_iff.2 ⟨⟨by simp only; omega, by simp only; omega⟩, ⟨by simp only; omega, by simp only; omega⟩, by simp only; omega, by simp only; omega⟩
theorem true_fits (hw : walkB ⟨rates, []⟩ = true) (ht : ∀ r ∈ l, TrueIn rates by0 r) : fitsS ⟨rates, l⟩ = true := by
  rw [fits_mem]
  intro h hh r hr q hq hrh hqh
  exact true_pair (rates_ok hw) hh (ht r hr) (ht q hq) hrh hqh
end
end Go.Mw
namespace Go.Mw

def ordQ (r q : Reading) : Prop := r.day < q.day ∨ (r.day = q.day ∧ r.house < q.house)
theorem row_ord {rates : List Span} {by0 : List Nat} {k D : Nat} {l : List Reading} (hp : l.Pairwise ordQ) (hd : ∀ r ∈ l, r.day < (D : Int)) : ∀ i, (rowR rates by0 k D l i).Pairwise ordQ ∧ ∀ r ∈ rowR rates by0 k D l i, r.day < (D : Int) ∨ (r.day = (D : Int) ∧ r.house < (i : Int))
  | 0 => ⟨hp, fun r hr => .inl (hd r hr)⟩
  | i + 1 => by
    have ih := row_ord (rates := rates) (by0 := by0) (k := k) hp hd i
    have e : rowR rates by0 k D l (i + 1) = addR rates by0 k D (rowR rates by0 k D l i) i := rfl
    rw [e]
    unfold addR
    split
    · constructor
      · rw [List.pairwise_append]
        refine ⟨ih.1, List.pairwise_singleton _ _, fun r hr q hq => ?_⟩
        rw [List.mem_singleton.1 hq]
        exact ih.2 r hr
      · intro r hr
        rcases List.mem_append.1 hr with hr | hr
        · rcases ih.2 r hr with h | h
          · exact .inl h
          · exact .inr ⟨h.1, by omega⟩
        · rw [List.mem_singleton.1 hr]
          exact .inr ⟨rfl, by simp only; omega⟩
    · exact ⟨ih.1, fun r hr => by
        rcases ih.2 r hr with h | h
        · exact .inl h
        · exact .inr ⟨h.1, by omega⟩⟩
theorem all_ord (rates : List Span) (by0 : List Nat) : ∀ k, (allR rates by0 k).Pairwise ordQ ∧ ∀ r ∈ allR rates by0 k, r.day < (dayK by0 k : Int)
  | 0 => ⟨List.Pairwise.nil, fun r hr => by simp [allR] at hr⟩
  | k + 1 => by
    have ih := all_ord rates by0 k
    have h := row_ord (rates := rates) (by0 := by0) (k := k) ih.1 ih.2 rates.length
    refine ⟨h.1, fun r hr => ?_⟩
    have e : dayK by0 (k + 1) = dayK by0 k + (3 + byG by0 k % 16) := rfl
    have := h.2 r hr
    omega
/-- Readings in the order of their days, and of houses on a day. -/
def OrdW (w : Walk) : Prop := ∀ i j, i < j → j < w.readings.length → ordQ (rd w i) (rd w j)
theorem ordW_of {w : Walk} (h : w.readings.Pairwise ordQ) : OrdW w := by
  intro i j hij hj
  have := List.pairwise_iff_getElem.1 h i j (by omega) hj hij
  have e1 : rd w i = w.readings[i] := by unfold rd; rw [List.getElem?_eq_getElem]; rfl
  have e2 : rd w j = w.readings[j] := by unfold rd; rw [List.getElem?_eq_getElem]; rfl
  rw [e1, e2]; exact this
/-- The readings of each house are in the order of their days. -/
def AscW (w : Walk) : Prop := ∀ i j, i < j → j < w.readings.length → (rd w i).house = (rd w j).house → (rd w i).day < (rd w j).day
theorem ordW_asc {w : Walk} (h : OrdW w) : AscW w := fun i j hij hj hh => by
  rcases h i j hij hj with h | h
  · exact h
  · omega
theorem asc_of {w : Walk} (h : AscW w) (k : Int) : ofS w k = (List.range w.readings.length).filter fun i => decide ((rd w i).house = k) := by
  refine ofS_uniq ?_ fun x => ?_
  · refine (List.Pairwise.filter _ List.pairwise_lt_range).imp_of_mem fun {a b} ha hb hab => ?_
    have h1 := List.mem_filter.1 ha
    have h2 := List.mem_filter.1 hb
    exact .inl (h a b hab (List.mem_range.1 h2.1) (by have := of_decide_eq_true h1.2; have := of_decide_eq_true h2.2; omega))
  · rw [List.mem_filter, List.mem_range, decide_eq_true_iff]
theorem befL_is {a b : Nat} : ∀ {l : List Nat}, l.Pairwise (· < ·) → a ∈ l → b ∈ l → b < a → (∀ c ∈ l, ¬ (b < c ∧ c < a)) → befL a l = some b
  | [], _, h, _, _, _ => by cases h
  | [x], _, h1, h2, h3, _ => by
    rw [List.mem_singleton] at h1 h2
    omega
  | x :: y :: r, hp, h1, h2, h3, h4 => by
    have hp' := List.pairwise_cons.1 hp
    have hp2 := List.pairwise_cons.1 hp'.2
    have hxy := hp'.1 y (by simp)
    unfold befL
    by_cases e : y = a
    · rw [if_pos e]
      rcases List.mem_cons.1 h2 with rfl | h2
      · rfl
      · exfalso
        rcases List.mem_cons.1 h2 with rfl | h2
        · omega
        · have := hp2.1 b h2; omega
    · rw [if_neg e]
      have ha : a ∈ y :: r := by
        rcases List.mem_cons.1 h1 with rfl | h1
        · exfalso
          rcases List.mem_cons.1 h2 with rfl | h2
          · omega
          · have := hp'.1 b h2; omega
        · exact h1
      have hya : y < a := by
        rcases List.mem_cons.1 ha with h | h
        · exact absurd h.symm e
        · exact hp2.1 a h
      have hb : b ∈ y :: r := by
        rcases List.mem_cons.1 h2 with rfl | h2
        · exact absurd ⟨hxy, hya⟩ (h4 y (by simp))
        · exact h2
      exact befL_is hp'.2 ha hb h3 fun c hc => h4 c (List.mem_cons_of_mem _ hc)
theorem befL_lt {a b : Nat} : ∀ {l : List Nat}, l.Pairwise (· < ·) → befL a l = some b → b < a
  | [], _, h => by cases h
  | [x], _, h => by cases h
  | x :: y :: r, hp, h => by
    have hp' := List.pairwise_cons.1 hp
    unfold befL at h
    split at h
    · rename_i e
      cases h
      have := hp'.1 y (by simp)
      omega
    · exact befL_lt hp'.2 h
theorem asc_bef {w : Walk} (h : AscW w) {a p : Nat} (hb : befS w a = some p) : p < a := by
  unfold befS at hb
  rw [asc_of h] at hb
  exact befL_lt (List.Pairwise.filter _ List.pairwise_lt_range) hb
theorem bef_house {w : Walk} {a p : Nat} (hb : befS w a = some p) : (rd w p).house = (rd w a).house := (mem_ofS.1 (befL_mem hb)).2
theorem list_rd {w : Walk} {l : List Reading} (hn : l.length = w.readings.length) (h : ∀ i, i < w.readings.length → rd ⟨w.rates, l⟩ i = rd w i) : l = w.readings := by
  refine List.ext_getElem? fun i => ?_
  rcases Nat.lt_or_ge i w.readings.length with hi | hi
  · rw [rd_get hi, ← h i hi]
    exact rd_get (w := ⟨w.rates, l⟩) (by simp only; omega)
  · rw [List.getElem?_eq_none (by omega), List.getElem?_eq_none (by omega)]

/-- What two readings are swapped with: the first one behind of the next house, of the same day. -/
def swC (w : Walk) (a b : Nat) : Bool := (rd w b).day == (rd w a).day && (rd w b).house == (rd w a).house + 1
def swF (w : Walk) (a : Nat) : Nat → Option Nat
  | 0 => none
  | k + 1 => match swF w a k with
    | some b => some b
    | none => if swC w a (a + 1 + k) = true then some (a + 1 + k) else none
def cpF (w : Walk) (a : Nat) : Nat → Option Nat
  | 0 => none
  | k + 1 => match cpF w a k with
    | some b => some b
    | none => if (rd w (a - 1 - k)).house = (rd w a).house then some (a - 1 - k) else none
def ltC (w : Walk) (a : Nat) (n : Int) (b : Nat) : Bool := (rd w b).house != (rd w a).house || decide ((rd w a).day + n < (rd w b).day)
def ltF (w : Walk) (a : Nat) (n : Int) : Nat → Bool
  | 0 => true
  | k + 1 => ltF w a n k && ltC w a n (a + 1 + k)
def swW (w : Walk) (a : Nat) : Option Nat → List Reading
  | none => w.readings
  | some b => (w.readings.set a { rd w a with shows := (rd w b).shows }).set b { rd w b with shows := (rd w a).shows }
def cpW (w : Walk) (a : Nat) : Option Nat → List Reading
  | none => w.readings
  | some b => w.readings.set a { rd w a with shows := (rd w b).shows }
def ltW (w : Walk) (a : Nat) (n : Int) (is : Bool) : List Reading := if is = true then w.readings.set a { rd w a with day := (rd w a).day + n } else w.readings
theorem swF_some {w : Walk} {a b : Nat} : ∀ {k}, swF w a k = some b → (a < b ∧ b < a + 1 + k) ∧ swC w a b = true
  | 0, h => by cases h
  | k + 1, h => by
    unfold swF at h
    split at h
    · rename_i c hc
      cases h
      have := swF_some hc
      exact ⟨by omega, this.2⟩
    · split at h
      · rename_i h2
        cases h
        exact ⟨by omega, h2⟩
      · cases h
theorem cpF_none {w : Walk} {a : Nat} : ∀ {k}, cpF w a k = none → ∀ j, j < k → (rd w (a - 1 - j)).house ≠ (rd w a).house
  | 0, _, j, hj => by omega
  | k + 1, h, j, hj => by
    unfold cpF at h
    split at h
    · cases h
    · rename_i hc
      split at h
      · cases h
      · rename_i h2
        by_cases e : j = k
        · subst e; exact h2
        · exact cpF_none hc j (by omega)
theorem cpF_some {w : Walk} {a b : Nat} : ∀ {k}, k ≤ a → cpF w a k = some b → b < a ∧ (rd w b).house = (rd w a).house ∧ ∀ c, b < c → c < a → (rd w c).house ≠ (rd w a).house
  | 0, _, h => by cases h
  | k + 1, hk, h => by
    unfold cpF at h
    split at h
    · rename_i c hc
      cases h
      exact cpF_some (by omega) hc
    · rename_i hn
      split at h
      · rename_i h2
        cases h
        refine ⟨by omega, h2, fun c h3 h4 => ?_⟩
        have := cpF_none hn (a - 1 - c) (by omega)
        rw [show a - 1 - (a - 1 - c) = c by omega] at this
        exact this
      · cases h
theorem ltF_all {w : Walk} {a : Nat} {n : Int} : ∀ {k}, ltF w a n k = true → ∀ j, j < k → ltC w a n (a + 1 + j) = true
  | 0, _, j, hj => by omega
  | k + 1, h, j, hj => by
    unfold ltF at h
    rw [Bool.and_eq_true] at h
    by_cases e : j = k
    · subst e; exact h.2
    · exact ltF_all h.1 j (by omega)
/-- The readings as they were, or as they were but for what can not be known. -/
def wantL (w : Walk) (k a : Nat) (d : Int) : List Reading := if k = 1 then w.readings.take a ++ w.readings.drop (a + 1) else if k = 2 then w.readings.set a { rd w a with day := (rd w a).day + d } else w.readings
/-- A mistake, and what undoes it. -/
def MistP (w : Walk) (k a : Nat) (R : List Reading) (md : Bool) (B : Nat) : Prop := R.length = w.readings.length ∧ walkB ⟨w.rates, R⟩ = true ∧ (k < 3 ∧ B ≤ 100) ∧ (fitsS ⟨w.rates, R⟩ = false →
  md = true ∧ (k = 1 → B = 0) ∧ worksS ⟨w.rates, R⟩ ⟨k, a, B, 0⟩ = true ∧ ∀ y, y ∈ allS ⟨w.rates, R⟩ → covB ⟨k, a, B, 0⟩ y = true → (madeS ⟨w.rates, R⟩ y).map Walk.readings = some (wantL w k a (B - y.b)))
section
variable {w : Walk} {a : Nat}
theorem mist_no {k : Nat} {md : Bool} {B : Nat} (hk : k < 3) (hB : B ≤ 100) (hw : walkB w = true) (hf : fitsS w = true) : MistP w k a w.readings md B := by
  have e : (⟨w.rates, w.readings⟩ : Walk) = w := rfl
  refine ⟨rfl, hw, ⟨hk, hB⟩, fun h => ?_⟩
  rw [e, hf] at h; cases h
theorem mist_sw (hw : walkB w = true) (hf : fitsS w = true) {o : Option Nat} (ho : ∀ b, o = some b → (a < b ∧ b < w.readings.length) ∧ swC w a b = true) : MistP w 0 a (swW w a o) o.isSome (o.getD 0) := by
  cases o with
  | none => exact mist_no (by omega) (by simp) hw hf
  | some b =>
    obtain ⟨⟨hab, hb⟩, hc⟩ := ho b rfl
    have hl24 := (walk_len hw).2.2
    have ha : a < w.readings.length := by omega
    simp only [swC, Bool.and_eq_true, beq_iff_eq] at hc
    have ea := readB_iff.1 (readB_rd hw ha)
    have eb := readB_iff.1 (readB_rd hw hb)
    have hlen : (swW w a (some b)).length = w.readings.length := by unfold swW; simp
    have hrd : ∀ i, rd ⟨w.rates, swW w a (some b)⟩ i = if i = b then { rd w b with shows := (rd w a).shows } else if i = a then { rd w a with shows := (rd w b).shows } else rd w i := fun i => rd_two ha hb
    have hba : rd ⟨w.rates, swW w a (some b)⟩ b = { rd w b with shows := (rd w a).shows } := by rw [hrd, if_pos rfl]
    have haa : rd ⟨w.rates, swW w a (some b)⟩ a = { rd w a with shows := (rd w b).shows } := by rw [hrd, if_neg (by omega), if_pos rfl]
    have hlist : (((swW w a (some b)).set a { rd ⟨w.rates, swW w a (some b)⟩ a with shows := (rd ⟨w.rates, swW w a (some b)⟩ b).shows }).set b { rd ⟨w.rates, swW w a (some b)⟩ b with shows := (rd ⟨w.rates, swW w a (some b)⟩ a).shows }) = w.readings := by
      refine list_rd (by simp [hlen]) fun i hi => ?_
      have := rd_two (w := ⟨w.rates, swW w a (some b)⟩) (a := a) (b := b) (i := i) (x := { rd ⟨w.rates, swW w a (some b)⟩ a with shows := (rd ⟨w.rates, swW w a (some b)⟩ b).shows }) (y := { rd ⟨w.rates, swW w a (some b)⟩ b with shows := (rd ⟨w.rates, swW w a (some b)⟩ a).shows }) (by simp only; omega) (by simp only; omega)
      rw [this, hba, haa]
      by_cases e1 : i = b
      · rw [if_pos e1, e1]
      · rw [if_neg e1]
        by_cases e2 : i = a
        · rw [if_pos e2, e2]
        · rw [if_neg e2, hrd, if_neg e1, if_neg e2]
    refine ⟨hlen, walk_mk hw (by omega) fun r hr => ?_, ⟨by omega, by simp only [Option.getD_some]; omega⟩, fun _ => ⟨rfl, fun h => by omega, ?_, fun y hy hcv => ?_⟩⟩
    · unfold swW at hr
      rcases List.mem_or_eq_of_mem_set hr with hr | rfl
      · rcases List.mem_or_eq_of_mem_set hr with hr | rfl
        · exact readB_mem hw hr
        · exact readB_iff.2 ⟨ea.1, ea.2.1, eb.2.2⟩
      · exact readB_iff.2 ⟨eb.1, eb.2.1, ea.2.2⟩
    · refine (works_swI hab (by simp only; omega)).2 ⟨⟨by rw [hba, haa]; exact hc.1.symm, by rw [hba, haa]; simp only; omega⟩, ?_⟩
      simp only
      rw [hlist]
      exact hf
    · have hky : y.kind ≠ 2 := fun e => by
        unfold covB at hcv
        rw [if_pos e] at hcv
        simp only [Bool.and_eq_true, beq_iff_eq] at hcv
        have := hcv.1.1.1
        rw [e] at this
        simp at this
      rw [covB_no hky, decide_eq_true_iff] at hcv
      subst hcv
      obtain ⟨m, hm, _, _, hwm⟩ := all_made hy
      rw [hm]
      have e : repOf ⟨((0 : Nat) : Int), (a : Int), ((Option.some b).getD 0 : Nat), 0⟩ = .sw a b := rfl
      rw [e] at hwm
      rw [← hwm]
      show some (((swW w a (some b)).set a { rd ⟨w.rates, swW w a (some b)⟩ a with shows := (rd ⟨w.rates, swW w a (some b)⟩ b).shows }).set b { rd ⟨w.rates, swW w a (some b)⟩ b with shows := (rd ⟨w.rates, swW w a (some b)⟩ a).shows }) = _
      rw [hlist]
      rfl
theorem asc_same {w v : Walk} (hl : v.readings.length = w.readings.length) (hh : ∀ i, (rd v i).house = (rd w i).house ∧ (rd v i).day = (rd w i).day) (h : AscW w) : AscW v := by
  intro i j hij hj he
  have h1 := hh i
  have h2 := hh j
  have := h i j hij (by omega) (by omega)
  omega
theorem mist_cp (hw : walkB w = true) (hf : fitsS w = true) (hs : AscW w) (ha : a < w.readings.length) {o : Option Nat} (ho : ∀ b, o = some b → b < a ∧ (rd w b).house = (rd w a).house ∧ ∀ c, b < c → c < a → (rd w c).house ≠ (rd w a).house) : MistP w 1 a (cpW w a o) o.isSome 0 := by
  cases o with
  | none => exact mist_no (by omega) (by omega) hw hf
  | some b =>
    obtain ⟨hba, hbh, hbn⟩ := ho b rfl
    have hl24 := (walk_len hw).2.2
    have hb : b < w.readings.length := by omega
    have ea := readB_iff.1 (readB_rd hw ha)
    have eb := readB_iff.1 (readB_rd hw hb)
    have hlen : (cpW w a (some b)).length = w.readings.length := by unfold cpW; simp
    have hrd : ∀ i, rd ⟨w.rates, cpW w a (some b)⟩ i = if i = a then { rd w a with shows := (rd w b).shows } else rd w i := fun i => rd_set ha i
    have hcut : (cpW w a (some b)).take a ++ (cpW w a (some b)).drop (a + 1) = w.readings.take a ++ w.readings.drop (a + 1) := by
      unfold cpW
      rw [List.take_set_of_le (Nat.le_refl _), List.drop_set_of_lt (by omega)]
    have hasc : AscW ⟨w.rates, cpW w a (some b)⟩ := asc_same hlen (fun i => by
      rw [hrd]
      split
      · rename_i e; subst e; exact ⟨rfl, rfl⟩
      · exact ⟨rfl, rfl⟩) hs
    have hho : ∀ i, (rd ⟨w.rates, cpW w a (some b)⟩ i).house = (rd w i).house := fun i => by
      rw [hrd]
      split
      · rename_i e; subst e; rfl
      · rfl
    have hbef : befS ⟨w.rates, cpW w a (some b)⟩ a = some b := by
      unfold befS
      rw [asc_of hasc]
      refine befL_is (List.Pairwise.filter _ List.pairwise_lt_range) ?_ ?_ hba fun c hc hbc => ?_
      · exact List.mem_filter.2 ⟨List.mem_range.2 (by simp only; omega), by simp⟩
      · exact List.mem_filter.2 ⟨List.mem_range.2 (by simp only; omega), by rw [hho, hho, hbh]; simp⟩
      · have := (List.mem_filter.1 hc).2
        rw [hho, hho, decide_eq_true_iff] at this
        exact hbn c hbc.1 hbc.2 this
    refine ⟨hlen, walk_mk hw (by omega) fun r hr => ?_, ⟨by omega, by omega⟩, fun _ => ⟨rfl, fun _ => rfl, ?_, fun y hy hcv => ?_⟩⟩
    · unfold cpW at hr
      rcases List.mem_or_eq_of_mem_set hr with hr | rfl
      · exact readB_mem hw hr
      · exact readB_iff.2 ⟨ea.1, ea.2.1, eb.2.2⟩
    · refine (works_cpI (by simp only; omega)).2 ⟨⟨b, hbef, by rw [hrd, hrd, if_neg (by omega), if_pos rfl]⟩, ?_⟩
      simp only
      rw [hcut]
      refine fits_sub (A := w) rfl (fun r hr => ?_) hf
      rcases List.mem_append.1 hr with hr | hr
      · exact List.mem_of_mem_take hr
      · exact List.mem_of_mem_drop hr
    · have hky : y.kind ≠ 2 := fun e => by
        unfold covB at hcv
        rw [if_pos e] at hcv
        simp only [Bool.and_eq_true, beq_iff_eq] at hcv
        have := hcv.1.1.1
        rw [e] at this
        simp at this
      rw [covB_no hky, decide_eq_true_iff] at hcv
      subst hcv
      obtain ⟨m, hm, _, _, hwm⟩ := all_made hy
      rw [hm]
      have e : repOf ⟨((1 : Nat) : Int), (a : Int), ((0 : Nat) : Int), 0⟩ = .cp a := rfl
      rw [e] at hwm
      rw [← hwm]
      show some ((cpW w a (some b)).take a ++ (cpW w a (some b)).drop (a + 1)) = _
      rw [hcut]
      rfl
theorem mist_lt (hw : walkB w = true) (hf : fitsS w = true) (hs : AscW w) (ha : a < w.readings.length) {n : Nat} (hn : 1 ≤ n ∧ n ≤ 30) (hd : (rd w a).day ≤ 1000) {is : Bool} (hi : is = true → ∀ b, a < b → b < w.readings.length → ltC w a n b = true) : MistP w 2 a (ltW w a n is) is (if is = true then n else 0) := by
  cases is with
  | false => exact mist_no (by omega) (by simp) hw hf
  | true =>
    have hi := hi rfl
    have hl24 := (walk_len hw).2.2
    have ea := readB_iff.1 (readB_rd hw ha)
    have hlen : (ltW w a n true).length = w.readings.length := by unfold ltW; simp
    have hrd : ∀ i, rd ⟨w.rates, ltW w a n true⟩ i = if i = a then { rd w a with day := (rd w a).day + n } else rd w i := fun i => by
      unfold ltW
      rw [if_pos rfl]
      exact rd_set ha i
    have haa : rd ⟨w.rates, ltW w a n true⟩ a = { rd w a with day := (rd w a).day + n } := by rw [hrd, if_pos rfl]
    have hlate : ∀ d : Int, (ltW w a n true).set a { rd ⟨w.rates, ltW w a n true⟩ a with day := (rd ⟨w.rates, ltW w a n true⟩ a).day - d } = w.readings.set a { rd w a with day := (rd w a).day + (n - d) } := fun d => by
      rw [haa]
      unfold ltW
      rw [if_pos rfl, List.set_set]
      simp only
      rw [show (rd w a).day + (n : Int) - d = (rd w a).day + (n - d) by omega]
    have hsame : w.readings.set a { rd w a with day := (rd w a).day + ((n : Int) - n) } = w.readings := by
      refine list_rd (by simp) fun i hi => ?_
      rw [rd_set ha]
      split
      · rename_i e
        subst e
        rw [Int.sub_self, Int.add_zero]
      · rfl
    have hasc : AscW ⟨w.rates, ltW w a n true⟩ := by
      intro i j hij hj he
      have hj : j < w.readings.length := by rw [← hlen]; exact hj
      rw [hrd, hrd] at he ⊢
      by_cases e1 : j = a
      · have e2 : ¬ i = a := by omega
        rw [if_pos e1, if_neg e2] at he ⊢
        have := hs i a (by omega) ha he
        simp only; omega
      · rw [if_neg e1] at he ⊢
        by_cases e2 : i = a
        · rw [if_pos e2] at he ⊢
          have := hi j (by omega) hj
          simp only [ltC, Bool.or_eq_true, bne_iff_ne, decide_eq_true_eq] at this
          rcases this with h | h
          · exact absurd he.symm h
          · exact h
        · rw [if_neg e2] at he ⊢
          exact hs i j hij hj he
    rw [if_pos rfl]
    refine ⟨hlen, walk_mk hw (by omega) fun r hr => ?_, ⟨by omega, by omega⟩, fun _ => ⟨rfl, fun h => by omega, ?_, fun y hy hcv => ?_⟩⟩
    · unfold ltW at hr
      rw [if_pos rfl] at hr
      rcases List.mem_or_eq_of_mem_set hr with hr | rfl
      · exact readB_mem hw hr
      · exact readB_iff.2 ⟨ea.1, ⟨by simp only; omega, by simp only; omega⟩, ea.2.2⟩
    · refine (works_ltI (by simp only; omega)).2 ⟨⟨hn.1, hn.2, by rw [haa]; simp only; omega, fun p hp => ?_⟩, ?_⟩
      · have h1 := asc_bef hasc hp
        have h2 := bef_house hp
        rw [haa] at h2 ⊢
        rw [hrd, if_neg (by omega)] at h2 ⊢
        have := hs p a h1 ha h2
        simp only; omega
      · have e : (lateW ⟨w.rates, ltW w a n true⟩ a n) = w := by
          show (⟨w.rates, _⟩ : Walk) = w
          have := (hlate n).trans hsame
          exact (congrArg (Walk.mk w.rates) this)
        rw [e]; exact hf
    · have hky : y.kind = 2 := by
        rcases Decidable.em (y.kind = 2) with e | e
        · exact e
        · rw [covB_no e, decide_eq_true_iff] at hcv
          rw [← hcv] at e
          exact absurd rfl e
      have hya : y.a = a := by
        unfold covB at hcv
        rw [if_pos hky] at hcv
        simp only [Bool.and_eq_true, beq_iff_eq] at hcv
        exact hcv.1.1.2.symm
      obtain ⟨m, hm, _, _, hwm⟩ := all_made hy
      have hyw := allS_works hy
      rw [hm]
      have e : repOf y = .lt a y.b.toNat := by
        unfold repOf
        rw [if_neg (by omega), if_neg (by omega), hya, Int.toNat_natCast]
      rw [e] at hwm
      rw [← hwm]
      show some ((ltW w a n true).set a { rd ⟨w.rates, ltW w a n true⟩ a with day := (rd ⟨w.rates, ltW w a n true⟩ a).day - (y.b.toNat : Nat) }) = _
      rw [hlate, Int.toNat_of_nonneg hyw.2.2.2.1]
      rfl
end
/-- What a mistake comes to. -/
def fndB (k a B : Int) (y : Repair) : Bool := (y.kind == k && y.a == a) && ((y.kind == 2 && decide (y.b ≤ B) && decide (B ≤ y.c)) || (y.kind != 2 && y.b == B))
theorem cov_fnd {k a B : Int} {y : Repair} (h : covB ⟨k, a, B, 0⟩ y = true) : fndB k a B y = true := by
  unfold fndB
  by_cases e : y.kind = 2
  · unfold covB at h
    rw [if_pos e] at h
    simp only [Bool.and_eq_true, beq_iff_eq, decide_eq_true_eq] at h
    simp only [Bool.and_eq_true, beq_iff_eq, decide_eq_true_eq, Bool.or_eq_true]
    exact ⟨⟨h.1.1.1.symm, h.1.1.2.symm⟩, .inl ⟨⟨e, h.1.2⟩, h.2⟩⟩
  · rw [covB_no e, decide_eq_true_iff] at h
    subst h
    simp only at e
    simp [e]
theorem mist_end {w : Walk} {k a B : Nat} {R : List Reading} {md : Bool} (h : MistP w k a R md B) (ha : a < w.readings.length) (hf : fitsS ⟨w.rates, R⟩ = false) :
    md = true ∧ (misfitR ⟨w.rates, R⟩).2.2 = 0 ∧ explainR ⟨w.rates, R⟩ = (allS ⟨w.rates, R⟩, 0) ∧ (allS ⟨w.rates, R⟩).any (fndB k a B) = true ∧
    (1 < (allS ⟨w.rates, R⟩).length → mendR ⟨w.rates, R⟩ = ([], 12)) ∧
    ∀ y, allS ⟨w.rates, R⟩ = [y] → mendR ⟨w.rates, R⟩ = (wantL w k a (B - y.b), 0) ∧ (misfitR ⟨w.rates, wantL w k a (B - y.b)⟩).2.2 = 4 := by
  obtain ⟨hl, hw, hk, h⟩ := h
  obtain ⟨h1, h2, h3, h4⟩ := h hf
  have hcov : (allS ⟨w.rates, R⟩).any (covB ⟨k, a, B, 0⟩) = true := by
    rw [cov_all hw ⟨by simp only; omega, by simp only; omega⟩ (by simp only; omega) (by simp only; omega) rfl]
    exact h3
  have hne : allS ⟨w.rates, R⟩ ≠ [] := fun e => by rw [e] at hcov; cases hcov
  have hex : explainR ⟨w.rates, R⟩ = (allS ⟨w.rates, R⟩, 0) := by
    unfold explainR
    rw [if_pos hw, if_neg (by rw [hf]; decide), if_neg hne]
  refine ⟨h1, by rw [misfit_is hw, if_neg (by rw [hf]; decide)], hex, ?_, fun hlen => ?_, fun y hy => ?_⟩
  · obtain ⟨y, hy, hc⟩ := List.any_eq_true.1 hcov
    exact List.any_eq_true.2 ⟨y, hy, cov_fnd hc⟩
  · unfold mendR
    rw [hex, if_pos rfl]
    simp only
    split
    · rename_i e; rw [e] at hlen; simp at hlen
    · rename_i e; rw [e] at hlen; simp at hlen
    · rfl
  · have hc : covB ⟨k, a, B, 0⟩ y = true := by rw [hy] at hcov; simpa using hcov
    have hmem : y ∈ allS ⟨w.rates, R⟩ := by rw [hy]; simp
    have hm := h4 y hmem hc
    obtain ⟨m, hm1, hm2, _, _⟩ := all_made hmem
    have ho := made_ok hw hm1
    rw [hm1] at hm
    have e : m = ⟨w.rates, wantL w k a (B - y.b)⟩ := by
      obtain ⟨mr, ml⟩ := m
      have e1 : mr = w.rates := ho.2.1
      have e2 : ml = wantL w k a (B - y.b) := Option.some.inj hm
      rw [e1, e2]
    constructor
    · unfold mendR
      rw [hex, if_pos rfl, hy]
      simp only
      rw [hm1, e]
      rfl
    · rw [← e, misfit_is ho.1, if_pos hm2]
end Go.Mw
namespace Go.Mw
open Go.Proofs
set_option maxRecDepth 20000 in
set_option maxHeartbeats 4000000 in
/-- meterworks/meterworkslaw12.took -/
theorem c_law_took (s : Span) (house day : Nat) (by0 : List Nat) (hs : 0 ≤ s.lo ∧ s.lo ≤ s.hi ∧ s.hi ≤ 100000) (hd : house ≤ 1000 ∧ day ≤ 1000) (h0 : 0 < by0.length) (hl : by0.length ≤ 9223372036854775807) (hb : ∀ n ∈ by0, n ≤ 65535) : Contract Try.prog 48 [spanV s, .int house, .int day, .leaf (.d (.sl 1 (by0.map encU16)))] (.int (tookS s house day by0)) [] := by
  have e1 : ((house : Nat) : Int) + ((day : Nat) : Int) = ((house + day : Nat) : Int) := by omega
  have e2 := tmod_n (house + day) by0.length
  have g := byG_get h0 (house + day)
  have gb := byG_le hb (house + day)
  have t1 : (((house + day) % by0.length : Nat) : Int).toNat = (house + day) % by0.length := Int.toNat_natCast _
  have e3 : ((byG by0 (house + day) : Nat) : Int) + ((day : Nat) : Int) = ((byG by0 (house + day) + day : Nat) : Int) := by omega
  have e4 : s.lo + ((byG by0 (house + day) + day : Nat) : Int).tmod (s.hi - s.lo + 1) = tookS s house day by0 := rfl
  have e5 := took_in ⟨hs.1, hs.2.1⟩ house day by0
  have lm := Nat.mod_lt (house + day) h0
  have hz : ¬ ((by0.length : Nat) : Int) = 0 := by omega
  have hz2 : ¬ s.hi - s.lo + 1 = 0 := by omega
  refine con_of follows_mixed Try.func48 rfl (by simp only [List.length_cons, List.length_nil, Try.ntmps48]; omega) (by kernel_rfl) rfl ?_
  refine Exec.reg ?_
  iterate 2 (refine Run.op (by simp only [go_sem, e1, e2, g, t1, e3, e4, hz, hz2] <;> rfl) (by simp only [go_sem] <;> rfl) ?_)
  refine Run.nil ?_
  refine Exec.opk 25 ?_
  refine OpenK.op (by simp only [go_sem, e1, e2, g, t1, e3, e4, hz, hz2] <;> rfl) (by simp only [go_sem] <;> rfl) (by simp only [go_sem] <;> rfl) ?_
  refine OpenK.op (by simp only [go_sem, e1, e2, g, t1, e3, e4, hz, hz2] <;> rfl) (by simp only [go_sem] <;> rfl) (by simp only [go_sem] <;> rfl) ?_
  refine OpenK.op (by simp only [go_sem, e1, e2, g, t1, e3, e4, hz, hz2] <;> rfl) (by simp only [go_sem] <;> rfl) (by simp only [go_sem] <;> rfl) ?_
  refine OpenK.op (by simp only [go_sem, e1, e2, g, t1, e3, e4, hz, hz2] <;> rfl) (by simp only [go_sem] <;> rfl) (by simp only [go_sem] <;> rfl) ?_
  refine OpenK.op (by simp only [go_sem, e1, e2, g, t1, e3, e4, hz, hz2] <;> rfl) (by simp only [go_sem] <;> rfl) (by simp only [go_sem] <;> rfl) ?_
  refine OpenK.op (by simp only [go_sem, e1, e2, g, t1, e3, e4, hz, hz2]; (try simp (disch := omega) only [IntWalk.i64_in, IntWalk.u64_in, if_neg, if_pos])<;> rfl) (by simp only [go_sem] <;> rfl) (by simp only [go_sem] <;> rfl) ?_
  refine OpenK.op (by simp only [go_sem, e1, e2, g, t1, e3, e4, hz, hz2] <;> rfl) (by simp only [go_sem] <;> rfl) (by simp only [go_sem] <;> rfl) ?_
  refine OpenK.op (by simp only [go_sem, e1, e2, g, t1, e3, e4, hz, hz2] <;> rfl) (by simp only [go_sem] <;> rfl) (by simp only [go_sem] <;> rfl) ?_
  refine OpenK.op (by simp only [go_sem, e1, e2, g, t1, e3, e4, hz, hz2]; (try simp (disch := omega) only [IntWalk.i64_in, IntWalk.u64_in, if_neg, if_pos])<;> rfl) (by simp only [go_sem] <;> rfl) (by simp only [go_sem] <;> rfl) ?_
  refine OpenK.op (by simp only [go_sem, e1, e2, g, t1, e3, e4, hz, hz2]; (try simp (disch := omega) only [if_pos]); (try simp only [go_sem, e1, e2, g, t1, e3, e4, hz, hz2])<;> rfl) (by simp only [go_sem] <;> rfl) (by simp only [go_sem] <;> rfl) ?_
  refine OpenK.op (by simp only [go_sem, e1, e2, g, t1, e3, e4, hz, hz2] <;> rfl) (by simp only [go_sem] <;> rfl) (by simp only [go_sem] <;> rfl) ?_
  refine OpenK.op (by simp only [go_sem, e1, e2, g, t1, e3, e4, hz, hz2]; (try simp (disch := omega) only [IntWalk.i64_in, IntWalk.u64_in, if_neg, if_pos])<;> rfl) (by simp only [go_sem] <;> rfl) (by simp only [go_sem] <;> rfl) ?_
  refine OpenK.op (by simp only [go_sem, e1, e2, g, t1, e3, e4, hz, hz2] <;> rfl) (by simp only [go_sem] <;> rfl) (by simp only [go_sem] <;> rfl) ?_
  refine OpenK.op (by simp only [go_sem, e1, e2, g, t1, e3, e4, hz, hz2]; (try simp (disch := omega) only [IntWalk.i64_in, IntWalk.u64_in, if_neg, if_pos])<;> rfl) (by simp only [go_sem] <;> rfl) (by simp only [go_sem] <;> rfl) ?_
  refine OpenK.op (by simp only [go_sem, e1, e2, g, t1, e3, e4, hz, hz2] <;> rfl) (by simp only [go_sem] <;> rfl) (by simp only [go_sem] <;> rfl) ?_
  refine OpenK.op (by simp only [go_sem, e1, e2, g, t1, e3, e4, hz, hz2] <;> rfl) (by simp only [go_sem] <;> rfl) (by simp only [go_sem] <;> rfl) ?_
  refine OpenK.op (by simp only [go_sem, e1, e2, g, t1, e3, e4, hz, hz2] <;> rfl) (by simp only [go_sem] <;> rfl) (by simp only [go_sem] <;> rfl) ?_
  refine OpenK.op (by simp only [go_sem, e1, e2, g, t1, e3, e4, hz, hz2] <;> rfl) (by simp only [go_sem] <;> rfl) (by simp only [go_sem] <;> rfl) ?_
  refine OpenK.op (by simp only [go_sem, e1, e2, g, t1, e3, e4, hz, hz2]; (try simp (disch := omega) only [IntWalk.i64_in, IntWalk.u64_in, if_neg, if_pos])<;> rfl) (by simp only [go_sem] <;> rfl) (by simp only [go_sem] <;> rfl) ?_
  refine OpenK.op (by simp only [go_sem, e1, e2, g, t1, e3, e4, hz, hz2]; (try simp (disch := omega) only [IntWalk.i64_in, IntWalk.u64_in, if_neg, if_pos])<;> rfl) (by simp only [go_sem] <;> rfl) (by simp only [go_sem] <;> rfl) ?_
  refine OpenK.op (by simp only [go_sem, e1, e2, g, t1, e3, e4, hz, hz2]; (try simp (disch := omega) only [IntWalk.i64_in, IntWalk.u64_in, if_neg, if_pos])<;> rfl) (by simp only [go_sem] <;> rfl) (by simp only [go_sem] <;> rfl) ?_
  refine OpenK.op (by simp only [go_sem, e1, e2, g, t1, e3, e4, hz, hz2]; (try simp (disch := omega) only [IntWalk.i64_in, IntWalk.u64_in, if_neg, if_pos])<;> rfl) (by simp only [go_sem] <;> rfl) (by simp only [go_sem] <;> rfl) ?_
  refine OpenK.op (by simp only [go_sem, e1, e2, g, t1, e3, e4, hz, hz2] <;> rfl) (by simp only [go_sem] <;> rfl) (by simp only [go_sem] <;> rfl) ?_
  refine OpenK.nil (OpenE.finT (by kernel_rfl) (by kernel_rfl) (by kernel_rfl) ?_)
  exact Ends.fin [] (rs := [.tmp 8]) rfl (by simp only [go_sem, e1, e2, g, t1, e3, e4, hz, hz2] <;> rfl) (by simp only [go_sem, e1, e2, g, t1, e3, e4, hz, hz2] <;> first | rfl | ((repeat' (first | with_reducible_and_instances rfl | refine st_eq ?_ ?_ ?_ | refine ret_eq ?_ | refine tup_eq ?_ | refine tm_eq ?_ ?_ | refine arr_eq ?_ | refine cells_eq ?_ | refine val_eq ?_ | refine ls_eq ?_ ?_ | refine own_eq ?_ ?_ | refine sl_eq ?_ | refine b_eq ?_ | (refine i_eq ?_; omega))); done))

theorem WkR.walk0 {r : Nat → Nat} {ns : List Nat} (x : D) : WkR r ns (.val true [.d x, .d (.raw (.slice none 0 0))]) (.val true [.d x, .d (.sl 3 [])]) := by
  refine ⟨rfl, fun S ι H w v hr => ?_⟩
  obtain ⟨vs, rfl, ha⟩ := hr
  match vs, ha with
  | [a, b], ⟨h1, h2, _⟩ =>
    have hb := raw_eq h2
    subst hb
    exact ⟨_, rfl, h1, RepD.nil 3 none 0, trivial⟩
def shnD (rates : List Span) (by0 : List Nat) (n : Nat) : List (List D) := (List.range n).map fun i => [.sl 1 ((rowI (rtL rates i) i by0 81).map encInt)]
theorem shnD_succ (rates : List Span) (by0 : List Nat) (n : Nat) : shnD rates by0 (n + 1) = shnD rates by0 n ++ [[.sl 1 ((rowI (rtL rates n) n by0 81).map encInt)]] := by unfold shnD; rw [List.range_succ, List.map_append]; rfl
theorem shnD_len (rates : List Span) (by0 : List Nat) (n : Nat) : (shnD rates by0 n).length = n := by unfold shnD; simp
theorem shnD_get {rates : List Span} {by0 : List Nat} {n i : Nat} (h : i < n) : (shnD rates by0 n)[i]? = some [.sl 1 ((rowI (rtL rates i) i by0 81).map encInt)] := by unfold shnD; simp [h]
set_option maxRecDepth 20000 in
set_option maxHeartbeats 16000000 in
/-- meterworks/meterworkslaw12.round -/
theorem c_law_round (rates : List Span) (by0 : List Nat) (hrl : rates.length ≤ 8) (hr : ∀ i, i < rates.length → 0 ≤ (rtL rates i).lo ∧ (rtL rates i).lo ≤ (rtL rates i).hi ∧ (rtL rates i).hi ≤ 100000) (h0 : 0 < by0.length) (hl : by0.length ≤ 9223372036854775807) (hb : ∀ n ∈ by0, n ≤ 65535) : Contract Try.prog 28 [.leaf (.d (.sl 2 (rates.map encSpan))), .leaf (.d (.sl 1 (by0.map encU16)))] (.tup [(true, [.d (.sl 2 (rates.map encSpan)), .d (.sl 3 ((allR rates by0 4).map encReading))]), (false, [.d (.sl 1 (shnD rates by0 rates.length))])]) [] := by
  have hz : ¬ ((by0.length : Nat) : Int) = 0 := by omega
  refine con_of follows_mixed Try.func28 rfl (by simp only [List.length_cons, List.length_nil, Try.ntmps28]; omega) (by kernel_rfl) rfl ?_
  refine Exec.reg ?_
  iterate 2 (refine Run.op (by simp only [go_sem] <;> rfl) (by simp only [go_sem] <;> rfl) ?_)
  refine Run.nil ?_
  refine Exec.reg ?_
  iterate 3 (refine Run.op (by simp only [go_sem] <;> rfl) (by simp only [go_sem] <;> rfl) ?_)
  refine Run.nil ?_
  refine Exec.assocS ?_
  refine Exec.reg ?_
  refine Run.nilo 5 2000 58 1 (by simp only [go_sem] <;> rfl) (by simp only [go_sem] <;> rfl) (by omega) (by omega) (by simp only [go_sem] <;> rfl) ?_
  refine Run.op (by simp only [go_sem] <;> rfl) (by simp only [go_sem] <;> rfl) ?_
  refine Run.op (by simp only [go_sem, hz] <;> rfl) (by simp only [go_sem] <;> rfl) ?_
  refine Run.op (by simp only [go_sem] <;> rfl) (by simp only [go_sem] <;> rfl) ?_
  refine Run.nil ?_
  refine Exec.blk ?_
  refine Exec.forA [0, 1, 4, 5, 16, 17, 18] [4, 2000] (rates.length) (fun k => [.slot 18 (.int k), .slot 5 (.leaf (.own 2000 0 (shnD rates by0 k).length (shnD rates by0 k).length)), .obj 2000 (.arr 58 1 (shnD rates by0 k))]) (fun _ => True) (fun k => by simp only [go_sem] <;> rfl) (by simp only [go_sem, hz] <;> rfl) ?_ (fun k hk hX => ?_)
  · trivial
  refine Exec.reg ?_
  refine Run.op (by simp only [go_sem, hz] <;> rfl) (by simp only [go_sem] <;> rfl) ?_
  refine Run.nil ?_
  refine Exec.cndS (by simp only [go_sem, hz] <;> rfl) (fun hb19 => ?_) (fun hb19 => ?_)
  · skip
    have hlt := lt_of_dec hb19
    have hs := rtL_get hlt
    have hrk := hr k hlt
    have f1 := tmod_n k by0.length
    have g1 := byG_get h0 k
    have gb := byG_le hb k
    have t1 : ((k % by0.length : Nat) : Int).toNat = k % by0.length := Int.toNat_natCast _
    have lm := Nat.mod_lt k h0
    have f2 : ((byG by0 k : Nat) : Int).tmod 500 = ((byG by0 k % 500 : Nat) : Int) := tmod_n _ 500
    have e0 : shwF (rtL rates k) k by0 0 = ((byG by0 k % 500 : Nat) : Int) := rfl
    have hsl := shnD_len rates by0 k
    refine Exec.skipS ?_
    refine Exec.blk ?_
    refine Exec.reg ?_
    refine Run.op (by simp only [go_sem] <;> rfl) (by simp only [go_sem] <;> rfl) ?_
    refine Run.op (by simp only [go_sem, hz, hs, f1, g1, t1, f2]; (try simp (disch := omega) only [if_pos]); (try simp only [go_sem, hz, hs, f1, g1, t1, f2])<;> rfl) (by simp only [go_sem] <;> rfl) ?_
    refine Run.op (by simp only [go_sem, hz, hs, f1, g1, t1, f2] <;> rfl) (by simp only [go_sem] <;> rfl) ?_
    iterate 3 (refine Run.op (by simp only [go_sem] <;> rfl) (by simp only [go_sem] <;> rfl) ?_)
    refine Run.nil ?_
    refine Exec.reg ?_
    iterate 3 (refine Run.op (by simp only [go_sem] <;> rfl) (by simp only [go_sem] <;> rfl) ?_)
    refine Run.op (by simp only [go_sem, hz, hs, f1, g1, t1, f2] <;> rfl) (by simp only [go_sem] <;> rfl) ?_
    refine Run.op (by simp only [go_sem, hz, hs, f1, g1, t1, f2]; (try simp (disch := omega) only [IntWalk.i64_in, IntWalk.u64_in, if_neg, if_pos])<;> rfl) (by simp only [go_sem] <;> rfl) ?_
    refine Run.op (by simp only [go_sem, hz, hs, f1, g1, t1, f2]; (try simp (disch := omega) only [if_pos]); (try simp only [go_sem, hz, hs, f1, g1, t1, f2])<;> rfl) (by simp only [go_sem] <;> rfl) ?_
    refine Run.op (by simp only [go_sem, hz, hs, f1, g1, t1, f2] <;> rfl) (by simp only [go_sem] <;> rfl) ?_
    iterate 2 (refine Run.op (by simp only [go_sem, hz, hs, f1, g1, t1, f2]; (try simp (disch := omega) only [IntWalk.i64_in, IntWalk.u64_in, if_neg, if_pos])<;> rfl) (by simp only [go_sem] <;> rfl) ?_)
    refine Run.op (by simp only [go_sem] <;> rfl) (by simp only [go_sem] <;> rfl) ?_
    refine Run.nil ?_
    refine Exec.reg ?_
    refine Run.op (by simp only [go_sem] <;> rfl) (by simp only [go_sem] <;> rfl) ?_
    refine Run.nil ?_
    refine Exec.assocS ?_
    refine Exec.reg ?_
    refine Run.nilo 9 1000 3 1 (by simp only [go_sem] <;> rfl) (by simp only [go_sem] <;> rfl) (by omega) (by omega) (by simp only [go_sem] <;> rfl) ?_
    refine Run.op (by simp only [go_sem] <;> rfl) (by simp only [go_sem] <;> rfl) ?_
    refine Run.nil ?_
    refine Exec.blk ?_
    refine Exec.forA [0, 1, 4, 5, 6, 7, 8, 9, 16, 17, 18, 32] [4, 7, 1000, 2000] (81) (fun d => [.slot 32 (.int d), .slot 8 (.int (shwF (rtL rates k) k by0 d)), .slot 9 (.leaf (.own 1000 0 (rowI (rtL rates k) k by0 d).length (rowI (rtL rates k) k by0 d).length)), .obj 1000 (.arr 3 1 ((rowI (rtL rates k) k by0 d).map encInt))]) (fun _ => True) (fun d => by simp only [go_sem] <;> rfl) (by simp only [go_sem, hz, hs, f1, g1, t1, f2, e0] <;> rfl) ?_ (fun d hd Xd => ?_)
    · trivial
    refine Exec.reg ?_
    refine Run.op (by simp only [go_sem, hz, hs, f1, g1, t1, f2] <;> rfl) (by simp only [go_sem] <;> rfl) ?_
    refine Run.nil ?_
    refine Exec.cndS (by simp only [go_sem, hz, hs, f1, g1, t1, f2] <;> rfl) (fun hb33 => ?_) (fun hb33 => ?_)
    · skip
      have hd81 : d < 81 := by have := of_decide_eq_true hb33; omega
      have sb := shw_bnd hrk k by0 d
      have tk := took_in ⟨hrk.1, hrk.2.1⟩ k d by0
      have rl := rowI_len (rtL rates k) k by0 d
      have rs := rowI_succ (rtL rates k) k by0 d
      have es : shwF (rtL rates k) k by0 d + tookS (rtL rates k) k d by0 = shwF (rtL rates k) k by0 (d + 1) := rfl
      refine Exec.skipS ?_
      refine Exec.blk ?_
      refine Exec.reg ?_
      iterate 2 (refine Run.op (by simp only [go_sem] <;> rfl) (by simp only [go_sem] <;> rfl) ?_)
      refine Run.nil ?_
      refine Exec.reg ?_
      iterate 2 (refine Run.op (by simp only [go_sem] <;> rfl) (by simp only [go_sem] <;> rfl) ?_)
      refine Run.op (by simp only [go_sem, hz, hs, f1, g1, t1, f2, es] <;> rfl) (by simp only [go_sem] <;> rfl) ?_
      refine Run.op (by simp only [go_sem, hz, hs, f1, g1, t1, f2, es]; (try simp (disch := omega) only [if_pos]); (try simp only [go_sem, hz, hs, f1, g1, t1, f2, es]) <;> first | (refine ite_run ⟨by (try simp only [List.length_append, List.length_drop, List.length_take, List.length_map, List.length_cons, List.length_nil, List.length_replicate, List.length_set, List.length_range, Nat.zero_add]); omega, by (try simp only [List.length_append, List.length_drop, List.length_take, List.length_map, List.length_cons, List.length_nil, List.length_replicate, List.length_set, List.length_range, Nat.zero_add]); omega, by repeat (first | exact al_nil | assumption | refine al_app ?_ ?_ | refine al_drop ?_ | refine al_take ?_ | exact al_map (fun _ => rfl) | exact al_rep rfl | refine al_cons rfl ?_)⟩ ?_; simp only [go_sem, hz, hs, f1, g1, t1, f2, es] <;> rfl) | (refine ite_run ⟨by (try simp only [List.length_append, List.length_drop, List.length_take, List.length_map, List.length_cons, List.length_nil, List.length_replicate, List.length_set, List.length_range, Nat.zero_add]); omega, by repeat (first | exact al_nil | assumption | refine al_app ?_ ?_ | refine al_drop ?_ | refine al_take ?_ | exact al_map (fun _ => rfl) | exact al_rep rfl | refine al_cons rfl ?_)⟩ ?_; simp only [go_sem, hz, hs, f1, g1, t1, f2, es] <;> rfl) | rfl) (by simp only [go_sem] <;> rfl) ?_
      refine Run.op (by simp only [go_sem] <;> rfl) (by simp only [go_sem] <;> rfl) ?_
      refine Run.nil ?_
      refine Exec.reg1 ?_
      refine Run.op (by simp only [go_sem] <;> rfl) (by simp only [go_sem] <;> rfl) ?_
      refine Run.op (by simp only [go_sem, hz, hs, f1, g1, t1, f2, es] <;> rfl) (by simp only [go_sem] <;> rfl) ?_
      iterate 3 (refine Run.op (by simp only [go_sem] <;> rfl) (by simp only [go_sem] <;> rfl) ?_)
      refine Run.cal (c_law_took (rtL rates k) k d by0 hrk (by omega) h0 hl hb) (by simp only [go_sem]) (by simp only [go_sem, hz, hs, f1, g1, t1, f2, es] <;> rfl) (by exact ⟨by first | exact WkR.pure rfl | exact WkR.nil _ | exact WkR.int (by first | omega | (simp; done) | (simp; omega)), by first | exact WkR.pure rfl | exact WkR.nil _ | exact WkR.int (by first | omega | (simp; done) | (simp; omega)), by first | exact WkR.pure rfl | exact WkR.nil _ | exact WkR.int (by first | omega | (simp; done) | (simp; omega)), by first | exact WkR.pure rfl | exact WkR.nil _ | exact WkR.int (by first | omega | (simp; done) | (simp; omega)), trivial⟩) (fr0) (by simp only [go_sem, hz, hs, f1, g1, t1, f2, es] <;> rfl) ?_
      refine Run.op (by simp only [go_sem, hz, hs, f1, g1, t1, f2, es]; (try simp (disch := omega) only [IntWalk.i64_in, IntWalk.u64_in, if_neg, if_pos])<;> rfl) (by simp only [go_sem] <;> rfl) ?_
      refine Run.op (by simp only [go_sem] <;> rfl) (by simp only [go_sem] <;> rfl) ?_
      refine Run.nil ?_
      refine BlkK.nrm ?_
      refine Exec.reg1 ?_
      refine Run.op (by simp only [go_sem, hz, hs, f1, g1, t1, f2, es]; (try simp (disch := omega) only [IntWalk.i64_in, IntWalk.u64_in, if_neg, if_pos])<;> rfl) (by simp only [go_sem] <;> rfl) ?_
      refine Run.op (by simp only [go_sem] <;> rfl) (by simp only [go_sem] <;> rfl) ?_
      refine Run.nil ?_
      refine ForK.nxt ?_ ?_ ?_
      · omega
      · exact Ghost.kp [0, 1, 4, 5, 6, 7, 8, 9, 16, 17, 18, 32] [4, 7, 1000, 2000] (by simp only [go_sem, hz, hs, f1, g1, t1, f2, es]; first | ((repeat' (first | with_reducible_and_instances rfl | refine st_eq ?_ ?_ ?_ | refine ret_eq ?_ | refine tup_eq ?_ | refine tm_eq ?_ ?_ | refine arr_eq ?_ | refine cells_eq ?_ | refine val_eq ?_ | refine ls_eq ?_ ?_ | refine own_eq ?_ ?_ | refine sl_eq ?_ | refine b_eq ?_ | (refine i_eq ?_; omega))); (all_goals (simp [rs, encInt]))) | rfl)
      · trivial
    have hd81 : d = 81 := by have := of_decide_eq_false hb33; omega
    subst hd81
    have sn := shnD_succ rates by0 k
    have rl := rowI_len (rtL rates k) k by0 81
    have rtk : List.take (rowI (rtL rates k) k by0 81).length (List.map encInt (rowI (rtL rates k) k by0 81)) = List.map encInt (rowI (rtL rates k) k by0 81) := List.take_of_length_le (by simp)
    rw [rl] at rtk
    refine Exec.exitS ?_
    refine ForK.ext ?_
    refine BlkK.hit ?_
    refine Exec.reg1 ?_
    refine Run.frz 1000 (by simp only [go_sem] <;> rfl) ?_
    iterate 2 (refine Run.op (by simp only [go_sem] <;> rfl) (by simp only [go_sem] <;> rfl) ?_)
    refine Run.op (by simp only [go_sem, hz, hs, f1, g1, t1, f2, rl, rtk] <;> rfl) (by simp only [go_sem] <;> rfl) ?_
    refine Run.op (by simp only [go_sem, hz, hs, f1, g1, t1, f2, rl, rtk]; (try simp (disch := omega) only [if_pos]); (try simp only [go_sem, hz, hs, f1, g1, t1, f2, rl, rtk]) <;> first | (refine ite_run ⟨by (try simp only [List.length_append, List.length_drop, List.length_take, List.length_map, List.length_cons, List.length_nil, List.length_replicate, List.length_set, List.length_range, Nat.zero_add]); omega, by (try simp only [List.length_append, List.length_drop, List.length_take, List.length_map, List.length_cons, List.length_nil, List.length_replicate, List.length_set, List.length_range, Nat.zero_add]); omega, by repeat (first | exact al_nil | assumption | refine al_app ?_ ?_ | refine al_drop ?_ | refine al_take ?_ | exact al_map (fun _ => rfl) | exact al_rep rfl | refine al_cons rfl ?_)⟩ ?_; simp only [go_sem, hz, hs, f1, g1, t1, f2, rl, rtk] <;> rfl) | (refine ite_run ⟨by (try simp only [List.length_append, List.length_drop, List.length_take, List.length_map, List.length_cons, List.length_nil, List.length_replicate, List.length_set, List.length_range, Nat.zero_add]); omega, by repeat (first | exact al_nil | assumption | refine al_app ?_ ?_ | refine al_drop ?_ | refine al_take ?_ | exact al_map (fun _ => rfl) | exact al_rep rfl | refine al_cons rfl ?_)⟩ ?_; simp only [go_sem, hz, hs, f1, g1, t1, f2, rl, rtk] <;> rfl) | rfl) (by simp only [go_sem] <;> rfl) ?_
    refine Run.op (by simp only [go_sem] <;> rfl) (by simp only [go_sem] <;> rfl) ?_
    refine Run.nil ?_
    refine BlkK.nrm ?_
    refine Exec.reg1 ?_
    refine Run.op (by simp only [go_sem, hz, hs, f1, g1, t1, f2, rl, rtk]; (try simp (disch := omega) only [IntWalk.i64_in, IntWalk.u64_in, if_neg, if_pos])<;> rfl) (by simp only [go_sem] <;> rfl) ?_
    refine Run.op (by simp only [go_sem] <;> rfl) (by simp only [go_sem] <;> rfl) ?_
    refine Run.nil ?_
    refine ForK.nxt ?_ ?_ ?_
    · omega
    · exact Ghost.kp [0, 1, 4, 5, 16, 17, 18] [4, 2000] (by simp only [go_sem, hz, hs, f1, g1, t1, f2, rl, rtk]; first | ((repeat' (first | with_reducible_and_instances rfl | refine st_eq ?_ ?_ ?_ | refine ret_eq ?_ | refine tup_eq ?_ | refine tm_eq ?_ ?_ | refine arr_eq ?_ | refine cells_eq ?_ | refine val_eq ?_ | refine ls_eq ?_ ?_ | refine own_eq ?_ ?_ | refine sl_eq ?_ | refine b_eq ?_ | (refine i_eq ?_; omega))); (all_goals (first | (simp [sn, rl]; done) | (rw [sn]; simp [List.take_of_length_le, rl])))) | rfl)
    · trivial
  have hek : k = rates.length := by have := ge_of_dec hb19; omega
  subst hek
  refine Exec.exitS ?_
  refine ForK.ext ?_
  refine BlkK.hit ?_
  refine Exec.reg ?_
  refine Run.frz 2000 (by simp only [go_sem] <;> rfl) ?_
  refine Run.nilC 4 1 3000 46 3 (by simp only [go_sem] <;> rfl) (by simp only [go_sem] <;> rfl) (by simp only [go_sem] <;> rfl) (by omega) (by omega) (by simp only [go_sem] <;> rfl) ?_
  refine Run.op (by simp only [go_sem] <;> rfl) (by simp only [go_sem] <;> rfl) ?_
  refine Run.nil ?_
  refine Exec.assocS ?_
  refine Exec.reg ?_
  refine Run.op (by simp only [go_sem] <;> rfl) (by simp only [go_sem] <;> rfl) ?_
  refine Run.nil ?_
  refine Exec.blk ?_
  refine Exec.forA [0, 1, 4, 5, 11, 52] [4, 3000] (4) (fun k => [.slot 52 (.int k), .slot 11 (.int (dayK by0 k)), .obj 4 (.cells [.d (.sl 2 (rates.map encSpan)), .own 3000 0 (allR rates by0 k).length (allR rates by0 k).length]), .obj 3000 (.arr 46 3 ((allR rates by0 k).map encReading))]) (fun _ => True) (fun k => by simp only [go_sem] <;> rfl) (by simp only [go_sem, hz] <;> rfl) ?_ (fun k hk hX => ?_)
  · trivial
  refine Exec.reg ?_
  refine Run.op (by simp only [go_sem, hz] <;> rfl) (by simp only [go_sem] <;> rfl) ?_
  refine Run.nil ?_
  refine Exec.cndS (by simp only [go_sem, hz] <;> rfl) (fun hb53 => ?_) (fun hb53 => ?_)
  · skip
    have hk4 : k < 4 := by have := of_decide_eq_true hb53; omega
    have dk := dayK_le by0 k
    have al := allR_len rates by0 k
    have f1 := tmod_n k by0.length
    have g1 := byG_get h0 k
    have t1 : ((k % by0.length : Nat) : Int).toNat = k % by0.length := Int.toNat_natCast _
    have lm := Nat.mod_lt k h0
    have gb := byG_le hb k
    have f2 : ((byG by0 k : Nat) : Int).tmod 16 = ((byG by0 k % 16 : Nat) : Int) := tmod_n _ 16
    have l16 := Nat.mod_lt (byG by0 k) (show 0 < 16 by omega)
    have ed : ((dayK by0 k : Nat) : Int) + (3 + ((byG by0 k % 16 : Nat) : Int)) = ((dayK by0 (k + 1) : Nat) : Int) := by
      show _ = ((dayK by0 k + (3 + byG by0 k % 16) : Nat) : Int)
      omega
    refine Exec.skipS ?_
    refine Exec.blk ?_
    refine Exec.reg ?_
    iterate 2 (refine Run.op (by simp only [go_sem] <;> rfl) (by simp only [go_sem] <;> rfl) ?_)
    refine Run.nil ?_
    refine Exec.assocS ?_
    refine Exec.reg ?_
    refine Run.op (by simp only [go_sem] <;> rfl) (by simp only [go_sem] <;> rfl) ?_
    refine Run.op (by simp only [go_sem, hz, f1, g1, t1, f2, ed] <;> rfl) (by simp only [go_sem] <;> rfl) ?_
    refine Run.op (by simp only [go_sem] <;> rfl) (by simp only [go_sem] <;> rfl) ?_
    refine Run.nil ?_
    refine Exec.blk ?_
    refine Exec.forA [0, 1, 4, 5, 11, 12, 52, 56, 57] [4, 3000] (rates.length) (fun i => [.slot 57 (.int i), .obj 4 (.cells [.d (.sl 2 (rates.map encSpan)), .own 3000 0 (rowR rates by0 k (dayK by0 k) (allR rates by0 k) i).length (rowR rates by0 k (dayK by0 k) (allR rates by0 k) i).length]), .obj 3000 (.arr 46 3 ((rowR rates by0 k (dayK by0 k) (allR rates by0 k) i).map encReading))]) (fun _ => True) (fun i => by simp only [go_sem] <;> rfl) (by simp only [go_sem, hz, f1, g1, t1, f2, ed] <;> rfl) ?_ (fun i hi Xi => ?_)
    · trivial
    refine Exec.reg ?_
    refine Run.op (by simp only [go_sem, hz, f1, g1, t1, f2, ed] <;> rfl) (by simp only [go_sem] <;> rfl) ?_
    refine Run.nil ?_
    refine Exec.cndS (by simp only [go_sem, hz, f1, g1, t1, f2, ed] <;> rfl) (fun hb58 => ?_) (fun hb58 => ?_)
    · skip
      have hil := lt_of_dec hb58
      have rl := rowR_len (rates := rates) (by0 := by0) (k := k) (day := dayK by0 k) al i
      have f3 : ((i : Nat) : Int) + ((k : Nat) : Int) = ((i + k : Nat) : Int) := by omega
      have f4 := tmod_n (i + k) by0.length
      have g2 := byG_get h0 (i + k)
      have t2 : (((i + k) % by0.length : Nat) : Int).toNat = (i + k) % by0.length := Int.toNat_natCast _
      have lm2 := Nat.mod_lt (i + k) h0
      have gb2 := byG_le hb (i + k)
      have f5 : ((byG by0 (i + k) : Nat) : Int).tmod 8 = ((byG by0 (i + k) % 8 : Nat) : Int) := tmod_n _ 8
      have sg := shnD_get (rates := rates) (by0 := by0) hil
      have dlt : dayK by0 k < 81 := by omega
      have rg := rowI_get (s := rtL rates i) (house := i) (by0 := by0) dlt
      have t3 : ((dayK by0 k : Nat) : Int).toNat = dayK by0 k := Int.toNat_natCast _
      have sl := shnD_len rates by0 rates.length
      have rll := rowI_len (rtL rates i) i by0 81
      refine Exec.skipS ?_
      refine Exec.blk ?_
      refine Exec.reg ?_
      iterate 2 (refine Run.op (by simp only [go_sem] <;> rfl) (by simp only [go_sem] <;> rfl) ?_)
      refine Run.nil ?_
      refine Exec.reg ?_
      refine Run.op (by simp only [go_sem] <;> rfl) (by simp only [go_sem] <;> rfl) ?_
      iterate 4 (refine Run.op (by simp only [go_sem, hz, f1, g1, t1, f2, ed, f3, f4, g2, t2, f5, sg, rg, t3] <;> rfl) (by simp only [go_sem] <;> rfl) ?_)
      iterate 3 (refine Run.gop (by simp only [go_sem] <;> rfl) (by simp only [go_sem] <;> rfl) (by simp only [go_sem] <;> rfl) ?_)
      refine Run.gop (by simp only [go_sem] <;> rfl) (by simp only [go_sem, hz, f1, g1, t1, f2, ed, f3, f4, g2, t2, f5, sg, rg, t3]; (try simp (disch := omega) only [IntWalk.i64_in, IntWalk.u64_in, if_neg, if_pos])<;> rfl) (by simp only [go_sem] <;> rfl) ?_
      refine Run.gop (by simp only [go_sem] <;> rfl) (by simp only [go_sem] <;> rfl) (by simp only [go_sem] <;> rfl) ?_
      refine Run.gop (by simp only [go_sem] <;> rfl) (by simp only [go_sem, hz, f1, g1, t1, f2, ed, f3, f4, g2, t2, f5, sg, rg, t3] <;> rfl) (by simp only [go_sem] <;> rfl) ?_
      refine Run.gop (by simp only [go_sem] <;> rfl) (by simp only [go_sem, hz, f1, g1, t1, f2, ed, f3, f4, g2, t2, f5, sg, rg, t3]; (try simp (disch := omega) only [IntWalk.i64_in, IntWalk.u64_in, if_neg, if_pos])<;> rfl) (by simp only [go_sem] <;> rfl) ?_
      refine Run.gop (by simp only [go_sem] <;> rfl) (by simp only [go_sem, hz, f1, g1, t1, f2, ed, f3, f4, g2, t2, f5, sg, rg, t3]; (try simp (disch := omega) only [if_pos]); (try simp only [go_sem, hz, f1, g1, t1, f2, ed, f3, f4, g2, t2, f5, sg, rg, t3])<;> rfl) (by simp only [go_sem] <;> rfl) ?_
      refine Run.gop (by simp only [go_sem] <;> rfl) (by simp only [go_sem, hz, f1, g1, t1, f2, ed, f3, f4, g2, t2, f5, sg, rg, t3] <;> rfl) (by simp only [go_sem] <;> rfl) ?_
      iterate 2 (refine Run.gop (by simp only [go_sem] <;> rfl) (by simp only [go_sem, hz, f1, g1, t1, f2, ed, f3, f4, g2, t2, f5, sg, rg, t3]; (try simp (disch := omega) only [IntWalk.i64_in, IntWalk.u64_in, if_neg, if_pos])<;> rfl) (by simp only [go_sem] <;> rfl) ?_)
      refine Run.gop (by simp only [go_sem] <;> rfl) (by simp only [go_sem, hz, f1, g1, t1, f2, ed, f3, f4, g2, t2, f5, sg, rg, t3] <;> rfl) (by simp only [go_sem] <;> rfl) ?_
      refine Run.op (by simp only [go_sem, hz, f1, g1, t1, f2, ed, f3, f4, g2, t2, f5, sg, rg, t3] <;> rfl) (by simp only [go_sem] <;> rfl) ?_
      refine Run.nil ?_
      refine Exec.cnd (by simp only [go_sem, hz, f1, g1, t1, f2, ed, f3, f4, g2, t2, f5, sg, rg, t3] <;> rfl) (fun hb77 => ?_) (fun hb77 => ?_)
      · skip
        have hc : (rowR rates by0 k (dayK by0 k) (allR rates by0 k) i).length < 24 ∧ 0 < byG by0 (i + k) % 8 := by simp at hb77; omega
        have er : rowR rates by0 k (dayK by0 k) (allR rates by0 k) (i + 1) = rowR rates by0 k (dayK by0 k) (allR rates by0 k) i ++ [⟨(i : Int), ((dayK by0 k : Nat) : Int), shwF (rtL rates i) i by0 (dayK by0 k)⟩] := by
          show addR rates by0 k (dayK by0 k) _ i = _
          unfold addR; rw [if_pos hc]
        refine Exec.opk1 18 ?_
        refine OpenK.op (by simp only [go_sem] <;> rfl) (by simp only [go_sem] <;> rfl) (by simp only [go_sem] <;> rfl) ?_
        refine OpenK.op (by simp only [go_sem, hz, f1, g1, t1, f2, ed, f3, f4, g2, t2, f5, sg, rg, t3] <;> rfl) (by simp only [go_sem] <;> rfl) (by simp only [go_sem] <;> rfl) ?_
        iterate 4 (refine OpenK.op (by simp only [go_sem] <;> rfl) (by simp only [go_sem] <;> rfl) (by simp only [go_sem] <;> rfl) ?_)
        refine OpenK.op (by simp only [go_sem, hz, f1, g1, t1, f2, ed, f3, f4, g2, t2, f5, sg, rg, t3]; (try simp (disch := omega) only [if_pos]); (try simp only [go_sem, hz, f1, g1, t1, f2, ed, f3, f4, g2, t2, f5, sg, rg, t3])<;> rfl) (by simp only [go_sem] <;> rfl) (by simp only [go_sem] <;> rfl) ?_
        refine OpenK.op (by simp only [go_sem, hz, f1, g1, t1, f2, ed, f3, f4, g2, t2, f5, sg, rg, t3] <;> rfl) (by simp only [go_sem] <;> rfl) (by simp only [go_sem] <;> rfl) ?_
        refine OpenK.op (by simp only [go_sem] <;> rfl) (by simp only [go_sem] <;> rfl) (by simp only [go_sem] <;> rfl) ?_
        refine OpenK.op (by simp only [go_sem, hz, f1, g1, t1, f2, ed, f3, f4, g2, t2, f5, sg, rg, t3]; (try simp (disch := omega) only [if_pos]); (try simp only [go_sem, hz, f1, g1, t1, f2, ed, f3, f4, g2, t2, f5, sg, rg, t3])<;> rfl) (by simp only [go_sem] <;> rfl) (by simp only [go_sem] <;> rfl) ?_
        refine OpenK.op (by simp only [go_sem, hz, f1, g1, t1, f2, ed, f3, f4, g2, t2, f5, sg, rg, t3] <;> rfl) (by simp only [go_sem] <;> rfl) (by simp only [go_sem] <;> rfl) ?_
        refine OpenK.op (by simp only [go_sem] <;> rfl) (by simp only [go_sem] <;> rfl) (by simp only [go_sem] <;> rfl) ?_
        refine OpenK.op (by simp only [go_sem, hz, f1, g1, t1, f2, ed, f3, f4, g2, t2, f5, sg, rg, t3] <;> rfl) (by simp only [go_sem] <;> rfl) (by simp only [go_sem] <;> rfl) ?_
        refine OpenK.op (by simp only [go_sem, hz, f1, g1, t1, f2, ed, f3, f4, g2, t2, f5, sg, rg, t3]; (try simp (disch := omega) only [if_pos]); (try simp only [go_sem, hz, f1, g1, t1, f2, ed, f3, f4, g2, t2, f5, sg, rg, t3]) <;> first | (refine ite_run ⟨by (try simp only [List.length_append, List.length_drop, List.length_take, List.length_map, List.length_cons, List.length_nil, List.length_replicate, List.length_set, List.length_range, Nat.zero_add]); omega, by (try simp only [List.length_append, List.length_drop, List.length_take, List.length_map, List.length_cons, List.length_nil, List.length_replicate, List.length_set, List.length_range, Nat.zero_add]); omega, by repeat (first | exact al_nil | assumption | refine al_app ?_ ?_ | refine al_drop ?_ | refine al_take ?_ | exact al_map (fun _ => rfl) | exact al_rep rfl | refine al_cons rfl ?_)⟩ ?_; simp only [go_sem, hz, f1, g1, t1, f2, ed, f3, f4, g2, t2, f5, sg, rg, t3] <;> rfl) | (refine ite_run ⟨by (try simp only [List.length_append, List.length_drop, List.length_take, List.length_map, List.length_cons, List.length_nil, List.length_replicate, List.length_set, List.length_range, Nat.zero_add]); omega, by repeat (first | exact al_nil | assumption | refine al_app ?_ ?_ | refine al_drop ?_ | refine al_take ?_ | exact al_map (fun _ => rfl) | exact al_rep rfl | refine al_cons rfl ?_)⟩ ?_; simp only [go_sem, hz, f1, g1, t1, f2, ed, f3, f4, g2, t2, f5, sg, rg, t3] <;> rfl) | rfl) (by simp only [go_sem] <;> rfl) (by simp only [go_sem] <;> rfl) ?_
        iterate 2 (refine OpenK.op (by simp only [go_sem] <;> rfl) (by simp only [go_sem] <;> rfl) (by simp only [go_sem] <;> rfl) ?_)
        refine OpenK.nil (OpenE.fin (by decide +kernel) (by decide +kernel) ?_)
        refine BlkK.nrm ?_
        refine Exec.reg1 ?_
        refine Run.op (by simp only [go_sem, hz, f1, g1, t1, f2, ed, f3, f4, g2, t2, f5, sg, rg, t3]; (try simp (disch := omega) only [IntWalk.i64_in, IntWalk.u64_in, if_neg, if_pos])<;> rfl) (by simp only [go_sem] <;> rfl) ?_
        refine Run.op (by simp only [go_sem] <;> rfl) (by simp only [go_sem] <;> rfl) ?_
        refine Run.nil ?_
        refine ForK.nxt ?_ ?_ ?_
        · omega
        · exact Ghost.kp [0, 1, 4, 5, 11, 12, 52, 56, 57] [4, 3000] (by simp only [go_sem, hz, f1, g1, t1, f2, ed, f3, f4, g2, t2, f5, sg, rg, t3]; first | ((repeat' (first | with_reducible_and_instances rfl | refine st_eq ?_ ?_ ?_ | refine ret_eq ?_ | refine tup_eq ?_ | refine tm_eq ?_ ?_ | refine arr_eq ?_ | refine cells_eq ?_ | refine val_eq ?_ | refine ls_eq ?_ ?_ | refine own_eq ?_ ?_ | refine sl_eq ?_ | refine b_eq ?_ | (refine i_eq ?_; omega))); (all_goals (simp [er, encReading]))) | rfl)
        · trivial
      have hc : ¬ ((rowR rates by0 k (dayK by0 k) (allR rates by0 k) i).length < 24 ∧ 0 < byG by0 (i + k) % 8) := by
        intro hc
        simp at hb77; omega
      have er : rowR rates by0 k (dayK by0 k) (allR rates by0 k) (i + 1) = rowR rates by0 k (dayK by0 k) (allR rates by0 k) i := by
        show addR rates by0 k (dayK by0 k) _ i = _
        unfold addR; rw [if_neg hc]
      refine BlkK.nrm ?_
      refine Exec.reg1 ?_
      refine Run.op (by simp only [go_sem, hz, f1, g1, t1, f2, ed, f3, f4, g2, t2, f5, sg, rg, t3, er]; (try simp (disch := omega) only [IntWalk.i64_in, IntWalk.u64_in, if_neg, if_pos])<;> rfl) (by simp only [go_sem] <;> rfl) ?_
      refine Run.op (by simp only [go_sem] <;> rfl) (by simp only [go_sem] <;> rfl) ?_
      refine Run.nil ?_
      refine ForK.nxt ?_ ?_ ?_
      · omega
      · exact Ghost.kp [0, 1, 4, 5, 11, 12, 52, 56, 57] [4, 3000] (by simp only [go_sem, hz, f1, g1, t1, f2, ed, f3, f4, g2, t2, f5, sg, rg, t3, er]; first | ((repeat' (first | with_reducible_and_instances rfl | refine st_eq ?_ ?_ ?_ | refine ret_eq ?_ | refine tup_eq ?_ | refine tm_eq ?_ ?_ | refine arr_eq ?_ | refine cells_eq ?_ | refine val_eq ?_ | refine ls_eq ?_ ?_ | refine own_eq ?_ ?_ | refine sl_eq ?_ | refine b_eq ?_ | (refine i_eq ?_; omega))); done) | rfl)
      · trivial
    have hei : i = rates.length := by have := ge_of_dec hb58; omega
    subst hei
    refine Exec.exitS ?_
    refine ForK.ext ?_
    refine BlkK.hit ?_
    refine Exec.reg1 ?_
    iterate 4 (refine Run.op (by simp only [go_sem] <;> rfl) (by simp only [go_sem] <;> rfl) ?_)
    refine Run.op (by simp only [go_sem, hz, f1, g1, t1, f2, ed] <;> rfl) (by simp only [go_sem] <;> rfl) ?_
    refine Run.op (by simp only [go_sem, hz, f1, g1, t1, f2, ed]; (try simp (disch := omega) only [IntWalk.i64_in, IntWalk.u64_in, if_neg, if_pos])<;> rfl) (by simp only [go_sem] <;> rfl) ?_
    refine Run.op (by simp only [go_sem, hz, f1, g1, t1, f2, ed]; (try simp (disch := omega) only [if_pos]); (try simp only [go_sem, hz, f1, g1, t1, f2, ed])<;> rfl) (by simp only [go_sem] <;> rfl) ?_
    refine Run.op (by simp only [go_sem, hz, f1, g1, t1, f2, ed] <;> rfl) (by simp only [go_sem] <;> rfl) ?_
    iterate 4 (refine Run.op (by simp only [go_sem, hz, f1, g1, t1, f2, ed]; (try simp (disch := omega) only [IntWalk.i64_in, IntWalk.u64_in, if_neg, if_pos])<;> rfl) (by simp only [go_sem] <;> rfl) ?_)
    refine Run.op (by simp only [go_sem] <;> rfl) (by simp only [go_sem] <;> rfl) ?_
    refine Run.nil ?_
    refine BlkK.nrm ?_
    refine Exec.reg1 ?_
    refine Run.op (by simp only [go_sem, hz, f1, g1, t1, f2, ed]; (try simp (disch := omega) only [IntWalk.i64_in, IntWalk.u64_in, if_neg, if_pos])<;> rfl) (by simp only [go_sem] <;> rfl) ?_
    refine Run.op (by simp only [go_sem] <;> rfl) (by simp only [go_sem] <;> rfl) ?_
    refine Run.nil ?_
    refine ForK.nxt ?_ ?_ ?_
    · omega
    · exact Ghost.kp [0, 1, 4, 5, 11, 52] [4, 3000] (by simp only [go_sem, hz, f1, g1, t1, f2, ed]; first | ((repeat' (first | with_reducible_and_instances rfl | refine st_eq ?_ ?_ ?_ | refine ret_eq ?_ | refine tup_eq ?_ | refine tm_eq ?_ ?_ | refine arr_eq ?_ | refine cells_eq ?_ | refine val_eq ?_ | refine ls_eq ?_ ?_ | refine own_eq ?_ ?_ | refine sl_eq ?_ | refine b_eq ?_ | (refine i_eq ?_; omega))); done) | rfl)
    · trivial
  have hk4 : k = 4 := by have := of_decide_eq_false hb53; omega
  subst hk4
  refine Exec.exitS ?_
  refine ForK.ext ?_
  refine BlkK.hit ?_
  refine Exec.reg ?_
  refine Run.frz 3000 (by simp only [go_sem] <;> rfl) ?_
  refine Run.op (by simp only [go_sem, hz] <;> rfl) (by simp only [go_sem] <;> rfl) ?_
  iterate 3 (refine Run.op (by simp only [go_sem] <;> rfl) (by simp only [go_sem] <;> rfl) ?_)
  refine Run.nil ?_
  exact Ends.fin [] (rs := [.cell 4 25, .tmp 5]) rfl (by simp only [go_sem, hz] <;> rfl) (by simp only [go_sem, hz] <;> first | rfl | ((repeat' (first | with_reducible_and_instances rfl | refine st_eq ?_ ?_ ?_ | refine ret_eq ?_ | refine tup_eq ?_ | refine tm_eq ?_ ?_ | refine arr_eq ?_ | refine cells_eq ?_ | refine val_eq ?_ | refine ls_eq ?_ ?_ | refine own_eq ?_ ?_ | refine sl_eq ?_ | refine b_eq ?_ | (refine i_eq ?_; omega))); (exact (List.take_of_length_le (by simp)).symm)))

set_option maxRecDepth 20000 in
/-- meterworks/meterworksref12.Walk -/
theorem c_Walk_big (w : Walk) (h1 : w.rates.length ≤ 9223372036854775807) (h2 : w.readings.length ≤ 1000) : Contract Try.prog 29 [walkV w] (.bool (walkB w)) [] := by
  refine con_of follows_mixed Try.func29 rfl (by simp only [List.length_cons, List.length_nil, Try.ntmps29]; omega) (by kernel_rfl) rfl ?_
  refine Exec.reg ?_
  iterate 2 (refine Run.op (by simp only [go_sem] <;> rfl) (by simp only [go_sem] <;> rfl) ?_)
  refine Run.nil ?_
  refine Exec.assocS ?_
  refine Exec.reg ?_
  refine Run.op (by simp only [go_sem] <;> rfl) (by simp only [go_sem] <;> rfl) ?_
  refine Run.nil ?_
  refine Exec.blk ?_
  refine Exec.forA [1, 3] [1] (w.rates.length) (fun k => [.slot 3 (.int k)]) (fun k => (w.rates.take k).all rateB = true) (fun k => by simp only [go_sem] <;> rfl) (by simp only [go_sem] <;> rfl) ?_ (fun k hk hX => ?_)
  · rfl
  · skip
    refine Exec.assocS ?_
    refine Exec.reg ?_
    iterate 5 (refine Run.op (by simp only [go_sem] <;> rfl) (by simp only [go_sem] <;> rfl) ?_)
    refine Run.nil ?_
    refine Exec.cndS (by simp only [go_sem] <;> rfl) (fun hb11 => ?_) (fun hb11 => ?_)
    · skip
      have hlt := lt_of_dec hb11
      have hs := rt_get hlt
      refine Exec.skipS ?_
      refine Exec.blk ?_
      refine Exec.reg ?_
      iterate 3 (refine Run.op (by simp only [go_sem, hs] <;> rfl) (by simp only [go_sem] <;> rfl) ?_)
      refine Run.op (by simp only [go_sem, hs]; (try simp (disch := omega) only [if_pos]); (try simp only [go_sem, hs])<;> rfl) (by simp only [go_sem] <;> rfl) ?_
      iterate 3 (refine Run.op (by simp only [go_sem, hs] <;> rfl) (by simp only [go_sem] <;> rfl) ?_)
      refine Run.nil ?_
      refine Exec.reg ?_
      iterate 4 (refine Run.op (by simp only [go_sem, hs] <;> rfl) (by simp only [go_sem] <;> rfl) ?_)
      refine Run.gop (by simp only [go_sem] <;> rfl) (by simp only [go_sem, hs] <;> rfl) (by simp only [go_sem] <;> rfl) ?_
      refine Run.gop (by simp only [go_sem] <;> rfl) (by simp only [go_sem, hs] <;> rfl) (by simp only [go_sem] <;> rfl) ?_
      refine Run.gop (by simp only [go_sem] <;> rfl) (by simp only [go_sem, hs] <;> rfl) (by simp only [go_sem] <;> rfl) ?_
      refine Run.gop (by simp only [go_sem] <;> rfl) (by simp only [go_sem, hs] <;> rfl) (by simp only [go_sem] <;> rfl) ?_
      refine Run.gop (by simp only [go_sem] <;> rfl) (by simp only [go_sem, hs] <;> rfl) (by simp only [go_sem] <;> rfl) ?_
      iterate 2 (refine Run.op (by simp only [go_sem, hs] <;> rfl) (by simp only [go_sem] <;> rfl) ?_)
      refine Run.gop (by simp only [go_sem] <;> rfl) (by simp only [go_sem, hs] <;> rfl) (by simp only [go_sem] <;> rfl) ?_
      refine Run.gop (by simp only [go_sem] <;> rfl) (by simp only [go_sem, hs] <;> rfl) (by simp only [go_sem] <;> rfl) ?_
      refine Run.gop (by simp only [go_sem] <;> rfl) (by simp only [go_sem, hs] <;> rfl) (by simp only [go_sem] <;> rfl) ?_
      refine Run.op (by simp only [go_sem, hs] <;> rfl) (by simp only [go_sem] <;> rfl) ?_
      refine Run.nil ?_
      refine Exec.cnd (by simp only [go_sem, hs] <;> rfl) (fun hb33 => ?_) (fun hb33 => ?_)
      · skip
        have hr : walkB w = false := by rw [walkB, all_stop hs (by simp [rateB, hb33])]; rfl
        refine Exec.reg ?_
        refine Run.op (by simp only [go_sem, hs, hr] <;> rfl) (by simp only [go_sem] <;> rfl) ?_
        refine Run.nil ?_
        refine BlkK.ret ?_
        refine ForK.ret ?_
        refine BlkK.ret ?_
        exact Ends.fin [] (rs := [.tmp 2]) rfl (by simp only [go_sem, hs, hr] <;> rfl) (by simp only [go_sem, hs, hr] <;> first | rfl | ((repeat' (first | with_reducible_and_instances rfl | refine st_eq ?_ ?_ ?_ | refine ret_eq ?_ | refine tup_eq ?_ | refine tm_eq ?_ ?_ | refine arr_eq ?_ | refine cells_eq ?_ | refine val_eq ?_ | refine ls_eq ?_ ?_ | refine own_eq ?_ ?_ | refine sl_eq ?_ | refine b_eq ?_ | (refine i_eq ?_; omega))); done))
      · skip
        refine BlkK.nrm ?_
        refine Exec.reg1 ?_
        refine Run.op (by simp only [go_sem, hs] <;> rfl) (by simp only [go_sem] <;> rfl) ?_
        refine Run.op (by simp only [go_sem, hs]; (try simp (disch := omega) only [IntWalk.i64_in, IntWalk.u64_in, if_neg, if_pos])<;> rfl) (by simp only [go_sem] <;> rfl) ?_
        refine Run.op (by simp only [go_sem, hs] <;> rfl) (by simp only [go_sem] <;> rfl) ?_
        refine Run.nil ?_
        refine ForK.nxt ?_ ?_ ?_
        · omega
        · exact Ghost.kp [1, 3] [1] (by simp only [go_sem, hs]; first | ((repeat' (first | with_reducible_and_instances rfl | refine st_eq ?_ ?_ ?_ | refine ret_eq ?_ | refine tup_eq ?_ | refine tm_eq ?_ ?_ | refine arr_eq ?_ | refine cells_eq ?_ | refine val_eq ?_ | refine ls_eq ?_ ?_ | refine own_eq ?_ ?_ | refine sl_eq ?_ | refine b_eq ?_ | (refine i_eq ?_; omega))); done) | rfl)
        · exact all_step hX hs (by simpa [rateB] using hb33)
    · skip
      have hr1 := all_done hX (ge_of_dec hb11)
      refine Exec.exitS ?_
      refine ForK.ext ?_
      refine BlkK.hit ?_
      refine Exec.assocS ?_
      refine Exec.reg ?_
      refine Run.op (by simp only [go_sem] <;> rfl) (by simp only [go_sem] <;> rfl) ?_
      refine Run.nil ?_
      refine Exec.blk ?_
      refine Exec.forA [1, 5] [1] (w.readings.length) (fun k => [.slot 5 (.int k)]) (fun k => (w.readings.take k).all (readB w.rates.length) = true) (fun k => by simp only [go_sem] <;> rfl) (by simp only [go_sem] <;> rfl) ?_ (fun k hk hX => ?_)
      · rfl
      · skip
        refine Exec.assocS ?_
        refine Exec.reg ?_
        iterate 5 (refine Run.op (by simp only [go_sem] <;> rfl) (by simp only [go_sem] <;> rfl) ?_)
        refine Run.nil ?_
        refine Exec.cndS (by simp only [go_sem] <;> rfl) (fun hb38 => ?_) (fun hb38 => ?_)
        · skip
          have hlt := lt_of_dec hb38
          have hs := rd_get hlt
          refine Exec.skipS ?_
          refine Exec.blk ?_
          refine Exec.reg ?_
          iterate 3 (refine Run.op (by simp only [go_sem, hs] <;> rfl) (by simp only [go_sem] <;> rfl) ?_)
          refine Run.op (by simp only [go_sem, hs]; (try simp (disch := omega) only [if_pos]); (try simp only [go_sem, hs])<;> rfl) (by simp only [go_sem] <;> rfl) ?_
          iterate 3 (refine Run.op (by simp only [go_sem, hs] <;> rfl) (by simp only [go_sem] <;> rfl) ?_)
          refine Run.nil ?_
          refine Exec.reg ?_
          iterate 5 (refine Run.op (by simp only [go_sem, hs] <;> rfl) (by simp only [go_sem] <;> rfl) ?_)
          refine Run.op (by simp only [go_sem, hs]; (try simp (disch := omega) only [IntWalk.i64_in, IntWalk.u64_in, if_neg, if_pos])<;> rfl) (by simp only [go_sem] <;> rfl) ?_
          refine Run.cal (c_meterworksref12_in _ _ _) (by simp only [go_sem]) (by simp only [go_sem, hs] <;> rfl) (by exact ⟨by first | exact WkR.pure rfl | exact WkR.nil _ | exact WkR.int (by first | omega | (simp; done) | (simp; omega)), by first | exact WkR.pure rfl | exact WkR.nil _ | exact WkR.int (by first | omega | (simp; done) | (simp; omega)), by first | exact WkR.pure rfl | exact WkR.nil _ | exact WkR.int (by first | omega | (simp; done) | (simp; omega)), trivial⟩) (fr0) (by simp only [go_sem, hs] <;> rfl) ?_
          iterate 2 (refine Run.op (by simp only [go_sem, hs] <;> rfl) (by simp only [go_sem] <;> rfl) ?_)
          refine Run.gop (by simp only [go_sem] <;> rfl) (by simp only [go_sem, hs] <;> rfl) (by simp only [go_sem] <;> rfl) ?_
          refine Run.gop (by simp only [go_sem] <;> rfl) (by simp only [go_sem, hs] <;> rfl) (by simp only [go_sem] <;> rfl) ?_
          refine Run.gcal (by simp only [go_sem] <;> rfl) (c_meterworksref12_in _ _ _) (by simp only [go_sem]) (by simp only [go_sem, hs] <;> rfl) (by exact ⟨by first | exact WkR.pure rfl | exact WkR.nil _ | exact WkR.int (by first | omega | (simp; done) | (simp; omega)), by first | exact WkR.pure rfl | exact WkR.nil _ | exact WkR.int (by first | omega | (simp; done) | (simp; omega)), by first | exact WkR.pure rfl | exact WkR.nil _ | exact WkR.int (by first | omega | (simp; done) | (simp; omega)), trivial⟩) (by simp only [go_sem, hs] <;> rfl) ?_
          refine Run.gop (by simp only [go_sem] <;> rfl) (by simp only [go_sem, hs] <;> rfl) (by simp only [go_sem] <;> rfl) ?_
          iterate 2 (refine Run.op (by simp only [go_sem, hs] <;> rfl) (by simp only [go_sem] <;> rfl) ?_)
          refine Run.gop (by simp only [go_sem] <;> rfl) (by simp only [go_sem, hs] <;> rfl) (by simp only [go_sem] <;> rfl) ?_
          refine Run.gop (by simp only [go_sem] <;> rfl) (by simp only [go_sem, hs] <;> rfl) (by simp only [go_sem] <;> rfl) ?_
          refine Run.gcal (by simp only [go_sem] <;> rfl) (c_meterworksref12_in _ _ _) (by simp only [go_sem]) (by simp only [go_sem, hs] <;> rfl) (by exact ⟨by first | exact WkR.pure rfl | exact WkR.nil _ | exact WkR.int (by first | omega | (simp; done) | (simp; omega)), by first | exact WkR.pure rfl | exact WkR.nil _ | exact WkR.int (by first | omega | (simp; done) | (simp; omega)), by first | exact WkR.pure rfl | exact WkR.nil _ | exact WkR.int (by first | omega | (simp; done) | (simp; omega)), trivial⟩) (by simp only [go_sem, hs] <;> rfl) ?_
          refine Run.gop (by simp only [go_sem] <;> rfl) (by simp only [go_sem, hs] <;> rfl) (by simp only [go_sem] <;> rfl) ?_
          refine Run.op (by simp only [go_sem, hs] <;> rfl) (by simp only [go_sem] <;> rfl) ?_
          refine Run.nil ?_
          refine Exec.cnd (by simp only [go_sem, hs] <;> rfl) (fun hb65 => ?_) (fun hb65 => ?_)
          · skip
            have hr : walkB w = false := by rw [walkB, hr1, all_stop hs (by revert hb65; cases h1 : inB (rd w k).house 0 (↑w.rates.length - 1) <;> cases h2 : inB (rd w k).day 0 131072 <;> cases h3 : inB (rd w k).shows 0 1073741824 <;> simp [readB, h1, h2, h3])]; rfl
            refine Exec.reg ?_
            refine Run.op (by simp only [go_sem, hs, hr] <;> rfl) (by simp only [go_sem] <;> rfl) ?_
            refine Run.nil ?_
            refine BlkK.ret ?_
            refine ForK.ret ?_
            refine BlkK.ret ?_
            exact Ends.fin [] (rs := [.tmp 2]) rfl (by simp only [go_sem, hs, hr] <;> rfl) (by simp only [go_sem, hs, hr] <;> first | rfl | ((repeat' (first | with_reducible_and_instances rfl | refine st_eq ?_ ?_ ?_ | refine ret_eq ?_ | refine tup_eq ?_ | refine tm_eq ?_ ?_ | refine arr_eq ?_ | refine cells_eq ?_ | refine val_eq ?_ | refine ls_eq ?_ ?_ | refine own_eq ?_ ?_ | refine sl_eq ?_ | refine b_eq ?_ | (refine i_eq ?_; omega))); done))
          · skip
            refine BlkK.nrm ?_
            refine Exec.reg1 ?_
            refine Run.op (by simp only [go_sem, hs] <;> rfl) (by simp only [go_sem] <;> rfl) ?_
            refine Run.op (by simp only [go_sem, hs]; (try simp (disch := omega) only [IntWalk.i64_in, IntWalk.u64_in, if_neg, if_pos])<;> rfl) (by simp only [go_sem] <;> rfl) ?_
            refine Run.op (by simp only [go_sem, hs] <;> rfl) (by simp only [go_sem] <;> rfl) ?_
            refine Run.nil ?_
            refine ForK.nxt ?_ ?_ ?_
            · omega
            · exact Ghost.kp [1, 5] [1] (by simp only [go_sem, hs]; first | ((repeat' (first | with_reducible_and_instances rfl | refine st_eq ?_ ?_ ?_ | refine ret_eq ?_ | refine tup_eq ?_ | refine tm_eq ?_ ?_ | refine arr_eq ?_ | refine cells_eq ?_ | refine val_eq ?_ | refine ls_eq ?_ ?_ | refine own_eq ?_ ?_ | refine sl_eq ?_ | refine b_eq ?_ | (refine i_eq ?_; omega))); done) | rfl)
            · exact all_step hX hs (by simpa [readB, and_assoc] using hb65)
        · skip
          have hr : walkB w = (inB w.rates.length 1 8 && decide ((w.readings.length : Int) ≤ 24)) := by rw [walkB, hr1, all_done hX (ge_of_dec hb38)]; simp
          refine Exec.exitS ?_
          refine ForK.ext ?_
          refine BlkK.hit ?_
          refine Exec.reg ?_
          iterate 3 (refine Run.op (by simp only [go_sem, hr] <;> rfl) (by simp only [go_sem] <;> rfl) ?_)
          refine Run.cal (c_meterworksref12_in _ _ _) (by simp only [go_sem]) (by simp only [go_sem, hr] <;> rfl) (by exact ⟨by first | exact WkR.pure rfl | exact WkR.nil _ | exact WkR.int (by first | omega | (simp; done) | (simp; omega)), by first | exact WkR.pure rfl | exact WkR.nil _ | exact WkR.int (by first | omega | (simp; done) | (simp; omega)), by first | exact WkR.pure rfl | exact WkR.nil _ | exact WkR.int (by first | omega | (simp; done) | (simp; omega)), trivial⟩) (fr0) (by simp only [go_sem, hr] <;> rfl) ?_
          refine Run.op (by simp only [go_sem, hr] <;> rfl) (by simp only [go_sem] <;> rfl) ?_
          refine Run.gop (by simp only [go_sem] <;> rfl) (by simp only [go_sem, hr] <;> rfl) (by simp only [go_sem] <;> rfl) ?_
          refine Run.gop (by simp only [go_sem] <;> rfl) (by simp only [go_sem, hr] <;> rfl) (by simp only [go_sem] <;> rfl) ?_
          refine Run.gop (by simp only [go_sem] <;> rfl) (by simp only [go_sem, hr] <;> rfl) (by simp only [go_sem] <;> rfl) ?_
          refine Run.gop (by simp only [go_sem] <;> rfl) (by simp only [go_sem, hr] <;> rfl) (by simp only [go_sem] <;> rfl) ?_
          iterate 2 (refine Run.op (by simp only [go_sem, hr] <;> rfl) (by simp only [go_sem] <;> rfl) ?_)
          refine Run.nil ?_
          exact Ends.fin [] (rs := [.tmp 2]) rfl (by simp only [go_sem, hr] <;> rfl) (by simp only [go_sem, hr] <;> first | rfl | ((repeat' (first | with_reducible_and_instances rfl | refine st_eq ?_ ?_ ?_ | refine ret_eq ?_ | refine tup_eq ?_ | refine tm_eq ?_ ?_ | refine arr_eq ?_ | refine cells_eq ?_ | refine val_eq ?_ | refine ls_eq ?_ ?_ | refine own_eq ?_ ?_ | refine sl_eq ?_ | refine b_eq ?_ | (refine i_eq ?_; omega))); done))

set_option maxRecDepth 20000 in
/-- meterworks/meterworkslaw12.legal -/
theorem c_law_legal (rates : List Span) (h1 : rates.length ≤ 9223372036854775807) : Contract Try.prog 27 [.leaf (.d (.sl 2 (rates.map encSpan)))] (.bool (walkB ⟨rates, []⟩)) [] := by
  refine con_of follows_mixed Try.func27 rfl (by simp only [List.length_cons, List.length_nil, Try.ntmps27]; omega) (by kernel_rfl) rfl ?_
  refine Exec.reg ?_
  refine Run.op (by simp only [go_sem] <;> rfl) (by simp only [go_sem] <;> rfl) ?_
  refine Run.nil ?_
  refine Exec.reg ?_
  iterate 2 (refine Run.op (by simp only [go_sem] <;> rfl) (by simp only [go_sem] <;> rfl) ?_)
  refine Run.cal (c_Walk_big ⟨rates, []⟩ h1 (by simp)) (by simp only [go_sem]) (by simp only [go_sem] <;> rfl) (by exact ⟨WkR.walk0 _, trivial⟩) (fr0) (by simp only [go_sem] <;> rfl) ?_
  refine Run.op (by simp only [go_sem] <;> rfl) (by simp only [go_sem] <;> rfl) ?_
  refine Run.nil ?_
  exact Ends.fin [] (rs := [.tmp 2]) rfl (by simp only [go_sem] <;> rfl) (by simp only [go_sem] <;> first | rfl | ((repeat' (first | with_reducible_and_instances rfl | refine st_eq ?_ ?_ ?_ | refine ret_eq ?_ | refine tup_eq ?_ | refine tm_eq ?_ ?_ | refine arr_eq ?_ | refine cells_eq ?_ | refine val_eq ?_ | refine ls_eq ?_ ?_ | refine own_eq ?_ ?_ | refine sl_eq ?_ | refine b_eq ?_ | (refine i_eq ?_; omega))); done))

end Go.Mw

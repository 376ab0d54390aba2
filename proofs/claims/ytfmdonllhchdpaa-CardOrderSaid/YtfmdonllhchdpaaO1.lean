/- The statements about the card. -/
import Derived.Test.YtfmdonllhchdpaaB10
import Derived.Test.YtfmdonllhchdpaaB3
import Derived.Test.YtfmdonllhchdpaaB4
set_option linter.unusedSimpArgs false
set_option linter.unusedVariables false
set_option linter.unusedSectionVars false
set_option linter.deprecated false
namespace Go.Mw
open Go.Proofs
theorem great_no {w : Walk} {n : Int} (h : greatB w n = false) : (w.rates.length ≤ 14 ∧ w.readings.length ≤ 32) ∧ ((w.readings.length : Int) ≤ n ∨ 24 < w.readings.length) := by
  unfold greatB at h
  simp only [Bool.or_eq_false_iff, Bool.and_eq_false_iff, decide_eq_false_iff_not] at h
  omega
theorem len_all {w : Walk} (hw : walkB w = true) : (allS w).length ≤ 1000 := by
  have hn := (walk_len hw).2.2
  have b1 := len_swN hn w.readings.length
  have b2 := len_cpN w w.readings.length
  have b3 := len_ltN w w.readings.length
  unfold allS
  rw [List.length_append, List.length_append]
  omega
theorem len_expl (w : Walk) : (explainR w).1.length ≤ 1000 := by
  unfold explainR
  split
  · rename_i hw
    split
    · simp
    · split
      · simp
      · exact len_all hw
  · simp
end Go.Mw
namespace Go.Mw
open Go.RowKit Go.ChangeShapes Go.WideShapes

section
variable {H : Type} {enc : TypeId × Value → H} {P : Program} {w : World} {base : Nat} {spare : Nat → Bool} {held : Bool} {v : Value} {d : DataW H} {ps : List MemPlace} {t : TypeId}
theorem trodAll_five {t0 t1 t2 t3 t4 : TypeId} {args : Array Value} {ds : List (DataW H)} (h : DataW.TrodAll enc P w base spare held [t0, t1, t2, t3, t4] args.toList ds ps) :
    ∃ v0 v1 v2 v3 v4 d0 d1 d2 d3 d4 p0 p1 p2 p3 p4, args = #[v0, v1, v2, v3, v4] ∧ ds = [d0, d1, d2, d3, d4] ∧ ps = p0 ++ p1 ++ p2 ++ p3 ++ p4 ∧ DataW.Trod enc P w base spare held t0 v0 d0 p0 ∧ DataW.Trod enc P w base spare held t1 v1 d1 p1 ∧
      DataW.Trod enc P w base spare held t2 v2 d2 p2 ∧ DataW.Trod enc P w base spare held t3 v3 d3 p3 ∧ DataW.Trod enc P w base spare held t4 v4 d4 p4 := by
  obtain ⟨v0, vs0, d0, ds0, p0, q0, hargs, rfl, rfl, h0, h⟩ := trodAll_cons h
  obtain ⟨v1, vs1, d1, ds1, p1, q1, rfl, rfl, rfl, h1, h⟩ := trodAll_cons h
  obtain ⟨v2, vs2, d2, ds2, p2, q2, rfl, rfl, rfl, h2, h⟩ := trodAll_cons h
  obtain ⟨v3, vs3, d3, ds3, p3, q3, rfl, rfl, rfl, h3, h⟩ := trodAll_cons h
  obtain ⟨v4, vs4, d4, ds4, p4, q4, rfl, rfl, rfl, h4, h⟩ := trodAll_cons h
  obtain ⟨rfl, rfl, rfl⟩ := trodAll_nil h
  exact ⟨v0, v1, v2, v3, v4, d0, d1, d2, d3, d4, p0, p1, p2, p3, p4, by cases args; simp_all, rfl, by simp, h0, h1, h2, h3, h4⟩
theorem int_read {k : IntKind} {b0 : Nat} {r : Reach} (ht : P.underlying t = some (.int k)) (hv : Value.okWide P w r b0 t v) (h : DataW.Trod enc P w base spare held t v d ps) :
    ∃ n : Int, (Lit.int k n).wf = true ∧ RepV (fun b _ => b < w.heap.size) noVal (look []) w (.leaf (.d (.raw (.int k n)))) v := by
  obtain ⟨n, rfl, _, _, hw⟩ := open_int ht hv h
  exact ⟨n, hw, _, rfl, .raw _ rfl⟩
theorem u8_read {b0 : Nat} {r : Reach} (ht : P.underlying t = some (.int .u8)) (hv : Value.okWide P w r b0 t v) (h : DataW.Trod enc P w base spare held t v d ps) :
    ∃ n : Nat, n ≤ 255 ∧ RepV (fun b _ => b < w.heap.size) noVal (look []) w (.leaf (.d (.raw (.int .u8 (n : Int))))) v := by
  obtain ⟨n, hw, hr⟩ := int_read ht hv h
  have h2 : 0 ≤ n ∧ n ≤ 255 := by
    simp only [Lit.wf, Bool.and_eq_true, decide_eq_true_eq] at hw
    have e1 : IntKind.u8.min = 0 := by decide
    have e2 : IntKind.u8.max = 255 := by decide
    omega
  refine ⟨n.toNat, by omega, ?_⟩
  rw [show ((n.toNat : Nat) : Int) = n by omega]
  exact hr
/-- A slice of plain cells, as an argument. -/
theorem sl_read {e : TypeId} {ks : List LK} (ht : P.underlying t = some (.slice e)) (hk : flatK P e = some ks) (hc : P.cellsOf e = ks.length) (h0 : 0 < ks.length) {b0 : Nat} {r : Reach} (hv : Value.okWide P w r b0 t v) (h : DataW.Trod enc P w base spare held t v d ps) :
    ∃ rows : List (List Value), (∀ r ∈ rows, All2 LK.has ks r) ∧ RepV (fun b _ => b < w.heap.size) noVal (look []) w (.leaf (.d (.sl ks.length (rows.map (·.map .raw))))) v := by
  obtain ⟨fuel, hf⟩ := h
  obtain ⟨u, rows, e1, hr, hd⟩ := slice_read ht hk hc h0 hf
  have hvu : v = u := by
    unfold Value.okWide at hv
    rw [ht] at hv
    simp only [Cell.okWide, ht] at hv
    cases v <;> first | (simp only [Value.cells] at e1; exact (List.cons.inj e1).1) | (simp [Cell.ok, ht] at hv)
  subst hvu
  exact ⟨rows, hr, _, rfl, hd⟩
end
end Go.Mw
namespace Go.Mw
open Go.Proofs Go.RowKit Go.ChangeShapes Go.WideShapes

@[go_sem] def encU16 (n : Nat) : List D := [.raw (.int .u16 (n : Int))]
theorem read_u16 (r : List Value) (h : All2 LK.has [.int .u16] r) : ∃ n : Nat, n ≤ 65535 ∧ r.map D.raw = encU16 n := by
  obtain ⟨a, r, rfl, ⟨n, hn, hw⟩, h⟩ := all2_inv h
  have := all2_nil h
  subst hn this
  have h2 : 0 ≤ n ∧ n ≤ 65535 := by
    simp only [Lit.wf, Bool.and_eq_true, decide_eq_true_eq] at hw
    have e1 : IntKind.u16.min = 0 := by decide
    have e2 : IntKind.u16.max = 65535 := by decide
    omega
  refine ⟨n.toNat, by omega, ?_⟩
  show [D.raw (.int .u16 n)] = [D.raw (.int .u16 ((n.toNat : Nat) : Int))]
  rw [show ((n.toNat : Nat) : Int) = n by omega]
theorem rows_u16 : ∀ {rows : List (List Value)}, (∀ r ∈ rows, All2 LK.has [.int .u16] r) → ∃ l : List Nat, (∀ n ∈ l, n ≤ 65535) ∧ rows.map (·.map D.raw) = l.map encU16
  | [], _ => ⟨[], by simp, rfl⟩
  | r :: rows, h => by
    obtain ⟨n, hn, hr⟩ := read_u16 r (h r (by simp))
    obtain ⟨l, hl, hl2⟩ := rows_u16 (rows := rows) fun q hq => h q (List.mem_cons_of_mem _ hq)
    refine ⟨n :: l, fun m hm => ?_, by rw [List.map_cons, List.map_cons, hr, hl2]⟩
    rcases List.mem_cons.1 hm with rfl | hm
    · exact hn
    · exact hl m hm
section
variable {H : Type} {enc : TypeId × Value → H} {W : World} {v : Value} {d : DataW H} {ps : List MemPlace}
set_option maxRecDepth 20000 in
theorem spans_read {b0 : Nat} {r : Reach} (hv : Value.okWide Try.prog W r b0 22 v) (h : DataW.Trod enc Try.prog W 0 (fun _ => true) true 22 v d ps) :
    ∃ l : List Span, RepV (fun b _ => b < W.heap.size) noVal (look []) W (.leaf (.d (.sl 2 (l.map encSpan)))) v := by
  obtain ⟨rows, hr, hd⟩ := sl_read (P := Try.prog) (e := 32) (ks := [.int .i64, .int .i64]) (by kernel_rfl) (by kernel_rfl) (by kernel_rfl) (by decide) hv h
  obtain ⟨l, hl⟩ := rows_enc read_span hr
  rw [hl] at hd
  exact ⟨l, hd⟩
set_option maxRecDepth 20000 in
theorem u16s_read {b0 : Nat} {r : Reach} (hv : Value.okWide Try.prog W r b0 53 v) (h : DataW.Trod enc Try.prog W 0 (fun _ => true) true 53 v d ps) :
    ∃ l : List Nat, (∀ n ∈ l, n ≤ 65535) ∧ RepV (fun b _ => b < W.heap.size) noVal (look []) W (.leaf (.d (.sl 1 (l.map encU16)))) v := by
  obtain ⟨rows, hr, hd⟩ := sl_read (P := Try.prog) (e := 88) (ks := [.int .u16]) (by kernel_rfl) (by kernel_rfl) (by kernel_rfl) (by decide) hv h
  obtain ⟨l, hl, hl2⟩ := rows_u16 hr
  rw [hl2] at hd
  exact ⟨l, hl, hd⟩
end
end Go.Mw
namespace Go.Mw
open Go.RowKit Go.ChangeShapes Go.WideShapes

section
variable {H : Type} {enc : TypeId × Value → H} {P : Program} {w : World} {base : Nat} {spare : Nat → Bool} {held : Bool} {v : Value} {d : DataW H} {ps : List MemPlace} {t : TypeId}
theorem sl_len {e : TypeId} {k : Nat} {es : List (List D)} {S : Settled} {ι : Nat → Value} {Q : Nat → Option AO} (ht : P.underlying t = some (.slice e)) {b0 : Nat} {r : Reach} (hv : Value.okWide P w r b0 t v) (h : DataW.Trod enc P w base spare held t v d ps)
    (hr : RepV S ι Q w (.leaf (.d (.sl k es))) v) : es.length ≤ 9223372036854775807 := by
  obtain ⟨fuel, hf⟩ := h
  obtain ⟨l, e1, hd⟩ := hr
  cases e1
  have hd : RepD S w (.sl k es) v := hd
  cases hd with
  | nil => simp
  | sl _ _ b off c vals hc =>
    rcases DataW.trod_slice ht hf with ⟨h0, _⟩ | ⟨a, len, cap, elems, rest, n, _, h0, _, _, hl, hm, _⟩
    · have h1 : [Value.slice (some ⟨b, off, none⟩) es.length c] = [Value.slice none 0 0] := h0
      cases h1
    · have h1 : [Value.slice (some ⟨b, off, none⟩) es.length c] = [Value.slice (some a) len cap] := h0
      injection h1 with h2
      injection h2 with _ h3 _
      have hmx : maxLen = 9223372036854775807 := by decide
      omega
end
end Go.Mw
namespace Go.Mw

def tkL (s : Span) (n : Int) : Int := if n < 0 then s.hi * n else s.lo * n
def tkH (s : Span) (n : Int) : Int := if n < 0 then s.lo * n else s.hi * n
def rtOk (s : Span) : Prop := 0 ≤ s.lo ∧ s.lo ≤ s.hi
theorem tk_neg (s : Span) (n : Int) : tkL s (-n) = - tkH s n := by
  unfold tkL tkH
  rcases Int.lt_trichotomy n 0 with h | h | h
  · rw [if_neg (by omega), if_pos h, Int.mul_neg]
  · subst h; simp
  · rw [if_pos (by omega), if_neg (by omega), Int.mul_neg]
theorem tk_neg2 (s : Span) (n : Int) : tkH s (-n) = - tkL s n := by
  have := tk_neg s (-n)
  rw [Int.neg_neg] at this
  omega
/-- Do two readings of a house fit? -/
def fitP (s : Span) (a b : Reading) : Prop := tkL s (b.day - a.day) ≤ b.shows - a.shows ∧ b.shows - a.shows ≤ tkH s (b.day - a.day)
theorem fit_symm {s : Span} {a b : Reading} (h : fitP s a b) : fitP s b a := by
  unfold fitP at *
  have e : a.day - b.day = -(b.day - a.day) := by omega
  rw [e, tk_neg, tk_neg2]
  omega
theorem fit_refl (s : Span) (a : Reading) : fitP s a a := by
  unfold fitP tkL tkH
  simp
theorem fit_trans {s : Span} {a b c : Reading} (hab : a.day ≤ b.day) (hbc : b.day ≤ c.day) (h1 : fitP s a b) (h2 : fitP s b c) : fitP s a c := by
  unfold fitP tkL tkH at *
  have e : c.day - a.day = (b.day - a.day) + (c.day - b.day) := by omega
  rw [if_neg (by omega), if_neg (by omega)] at h1 h2
  rw [if_neg (by omega), if_neg (by omega), e, Int.mul_add, Int.mul_add]
  omega
theorem two_fit {s : Span} {a b : Reading} (h : a.day ≤ b.day) : twoB s a b = true ↔ fitP s a b := by
  unfold twoB fitP tkL tkH
  rw [if_neg (by omega), if_neg (by omega)]
  simp
theorem bad_none {w : Walk} {s : Span} : ∀ {l : List Nat}, badL w s l = none ↔ ∀ k a b, l[k]? = some a → l[k + 1]? = some b → twoB s (rd w a) (rd w b) = true
  | [] => by simp [badL]
  | [x] => by simp [badL]
  | x :: y :: r => by
    unfold badL
    constructor
    · intro h k a b ha hb
      split at h
      · rename_i ht
        cases k with
        | zero => simp at ha hb; subst ha hb; exact ht
        | succ k => exact (bad_none.1 h) k a b (by simpa using ha) (by simpa using hb)
      · cases h
    · intro h
      rw [if_pos (h 0 x y rfl rfl)]
      exact bad_none.2 fun k a b ha hb => h (k + 1) a b (by simpa using ha) (by simpa using hb)
theorem asc_ofS' (w : Walk) (h : Int) (i j a b : Nat) (hij : i ≤ j) (ha : (ofS w h)[i]? = some a) (hb : (ofS w h)[j]? = some b) : (rd w a).day ≤ (rd w b).day := by
  rcases Nat.lt_or_eq_of_le hij with h1 | rfl
  · exact asc_ofS w h i j a b h1 ha hb
  · rw [ha] at hb; cases hb; exact Int.le_refl _
theorem bad_iff {w : Walk} {h : Nat} : badS w h = none ↔ ∀ x y, x < w.readings.length → y < w.readings.length → (rd w x).house = h → (rd w y).house = h → fitP (rt w h) (rd w x) (rd w y) := by
  unfold badS
  rw [bad_none]
  constructor
  · intro hb
    have hc : ∀ (k i a b : Nat), (ofS w (h : Int))[i]? = some a → (ofS w (h : Int))[i + k]? = some b → fitP (rt w h) (rd w a) (rd w b) := by
      intro k
      induction k with
      | zero =>
        intro i a b ha hb2
        rw [Nat.add_zero, ha] at hb2
        cases hb2; exact fit_refl _ _
      | succ k ih =>
        intro i a b ha hb2
        have hlt := (List.getElem?_eq_some_iff.1 hb2).1
        obtain ⟨c, hcg⟩ : ∃ c, (ofS w (h : Int))[i + k]? = some c := ⟨_, List.getElem?_eq_getElem (by omega)⟩
        have h1 := ih i a c ha hcg
        have h2 := hb (i + k) c b hcg (by rw [show i + k + 1 = i + (k + 1) by omega]; exact hb2)
        rw [two_fit (asc_ofS w h (i + k) (i + (k + 1)) c b (by omega) hcg hb2)] at h2
        exact fit_trans (asc_ofS' w h i (i + k) a c (by omega) ha hcg) (asc_ofS w h (i + k) (i + (k + 1)) c b (by omega) hcg hb2) h1 h2
    intro x y hx hy hxh hyh
    obtain ⟨i, hi⟩ := List.getElem?_of_mem (mem_ofS.2 ⟨hx, hxh⟩)
    obtain ⟨j, hj⟩ := List.getElem?_of_mem (mem_ofS.2 ⟨hy, hyh⟩)
    rcases Nat.le_total i j with hij | hij
    · exact hc (j - i) i x y hi (by rw [show i + (j - i) = j by omega]; exact hj)
    · exact fit_symm (hc (i - j) j y x hj (by rw [show j + (i - j) = i by omega]; exact hi))
  · intro hp k a b ha hb
    have h1 := mem_ofS.1 (List.mem_of_getElem? ha)
    have h2 := mem_ofS.1 (List.mem_of_getElem? hb)
    rw [two_fit (asc_ofS w h k (k + 1) a b (by omega) ha hb)]
    exact hp a b h1.1 h2.1 h1.2 h2.2
theorem fits_pairs {w : Walk} : fitsS w = true ↔ ∀ (h : Nat) x y, h < w.rates.length → x < w.readings.length → y < w.readings.length → (rd w x).house = h → (rd w y).house = h → fitP (rt w h) (rd w x) (rd w y) := by
  rw [fits_iff]
  constructor
  · intro hf h x y hh hx hy hxh hyh
    exact bad_iff.1 (hf h hh) x y hx hy hxh hyh
  · intro hf h hh
    exact bad_iff.2 fun x y hx hy hxh hyh => hf h x y hh hx hy hxh hyh

/-- What one reading says of another day. -/
theorem xSpan_eq (w : Walk) (s : Span) (day : Int) (i : Nat) : xSpan w s day i = ⟨(rd w i).shows + tkL s (day - (rd w i).day), (rd w i).shows + tkH s (day - (rd w i).day)⟩ := by
  unfold xSpan tkL tkH
  split <;> rfl
theorem shF_le {w : Walk} {s : Span} {day : Int} {l : List Nat} : ∀ {k : Nat}, 0 < k → k ≤ l.length → ∀ n, (shF w s day l k).lo ≤ n ↔ ∀ j i, j < k → l[j]? = some i → (xSpan w s day i).lo ≤ n := by
  intro k hk hkl n
  induction k with
  | zero => omega
  | succ k ih =>
    obtain ⟨i, hi⟩ : ∃ i, l[k]? = some i := ⟨_, List.getElem?_eq_getElem (by omega)⟩
    rw [shF_succ hi]
    by_cases h0 : k = 0
    · subst h0
      rw [if_pos rfl]
      simp only [Int.max_self]
      constructor
      · intro h j i' hj hi'
        have : j = 0 := by omega
        subst this
        rw [hi] at hi'; cases hi'; exact h
      · intro h; exact h 0 i (by omega) hi
    · rw [if_neg h0]
      simp only [Int.max_le]
      rw [ih (by omega) (by omega)]
      constructor
      · rintro ⟨h1, h2⟩ j i' hj hi'
        by_cases hjk : j < k
        · exact h1 j i' hjk hi'
        · have : j = k := by omega
          subst this
          rw [hi] at hi'; cases hi'; exact h2
      · intro h
        exact ⟨fun j i' hj hi' => h j i' (by omega) hi', h k i (by omega) hi⟩
theorem shF_ge {w : Walk} {s : Span} {day : Int} {l : List Nat} : ∀ {k : Nat}, 0 < k → k ≤ l.length → ∀ n, n ≤ (shF w s day l k).hi ↔ ∀ j i, j < k → l[j]? = some i → n ≤ (xSpan w s day i).hi := by
  intro k hk hkl n
  induction k with
  | zero => omega
  | succ k ih =>
    obtain ⟨i, hi⟩ : ∃ i, l[k]? = some i := ⟨_, List.getElem?_eq_getElem (by omega)⟩
    rw [shF_succ hi]
    by_cases h0 : k = 0
    · subst h0
      rw [if_pos rfl]
      simp only [Int.min_self]
      constructor
      · intro h j i' hj hi'
        have : j = 0 := by omega
        subst this
        rw [hi] at hi'; cases hi'; exact h
      · intro h; exact h 0 i (by omega) hi
    · rw [if_neg h0]
      simp only [Int.le_min]
      rw [ih (by omega) (by omega)]
      constructor
      · rintro ⟨h1, h2⟩ j i' hj hi'
        by_cases hjk : j < k
        · exact h1 j i' hjk hi'
        · have : j = k := by omega
          subst this
          rw [hi] at hi'; cases hi'; exact h2
      · intro h
        exact ⟨fun j i' hj hi' => h j i' (by omega) hi', h k i (by omega) hi⟩
/-- When there is something to show. -/
theorem shows_ok {w : Walk} {house day : Int} (h : (showsR w house day).2 = 0) : walkB w = true ∧ (0 ≤ house ∧ house < w.rates.length) ∧ (0 ≤ day ∧ day ≤ 131072) ∧ ofS w house ≠ [] ∧ badS w house.toNat = none ∧
    (showsR w house day).1 = shF w (rt w house.toNat) day (ofS w house) (ofS w house).length := by
  unfold showsR at h ⊢
  split at h
  · simp at h
  · rename_i h1
    rw [if_neg h1]
    split at h
    · simp at h
    · rename_i h2
      rw [if_neg h2]
      split at h
      · simp at h
      · rename_i h3
        rw [if_neg h3]
        split at h
        · simp at h
        · rename_i h4
          rw [if_neg h4]
          have h2' : ¬ inB house 0 ((w.rates.length : Int) - 1) = false ∧ ¬ inB day 0 131072 = false := ⟨fun e => h2 (.inl e), fun e => h2 (.inr e)⟩
          have a1 := inB_iff.1 (by simpa using h2'.1 : inB house 0 ((w.rates.length : Int) - 1) = true)
          have a2 := inB_iff.1 (by simpa using h2'.2 : inB day 0 131072 = true)
          exact ⟨by simpa using h1, ⟨a1.1, by omega⟩, a2, h3, by cases hb : badS w house.toNat <;> simp_all, rfl⟩
/-- What can be shown: just what fits each reading of the house. -/
theorem shows_iff {w : Walk} {house day : Int} (h : (showsR w house day).2 = 0) (n : Int) : ((showsR w house day).1.lo ≤ n ↔ ∀ i, i < w.readings.length → (rd w i).house = house → (rd w i).shows + tkL (rt w house.toNat) (day - (rd w i).day) ≤ n) ∧
    (n ≤ (showsR w house day).1.hi ↔ ∀ i, i < w.readings.length → (rd w i).house = house → n ≤ (rd w i).shows + tkH (rt w house.toNat) (day - (rd w i).day)) := by
  obtain ⟨_, _, _, hne, _, e⟩ := shows_ok h
  have hl := List.length_pos_iff.2 hne
  rw [e, shF_le hl (Nat.le_refl _), shF_ge hl (Nat.le_refl _)]
  simp only [xSpan_eq]
  constructor
  · constructor
    · intro h1 i hi hh
      obtain ⟨j, hj⟩ := List.getElem?_of_mem (mem_ofS.2 ⟨hi, hh⟩)
      exact h1 j i (List.getElem?_eq_some_iff.1 hj).1 hj
    · intro h1 j i _ hi
      have := mem_ofS.1 (List.mem_of_getElem? hi)
      exact h1 i this.1 this.2
  · constructor
    · intro h1 i hi hh
      obtain ⟨j, hj⟩ := List.getElem?_of_mem (mem_ofS.2 ⟨hi, hh⟩)
      exact h1 j i (List.getElem?_eq_some_iff.1 hj).1 hj
    · intro h1 j i _ hi
      have := mem_ofS.1 (List.mem_of_getElem? hi)
      exact h1 i this.1 this.2
end Go.Mw
namespace Go.Mw

theorem rd_mem {w : Walk} {i : Nat} (h : i < w.readings.length) : rd w i ∈ w.readings := List.mem_of_getElem? (rd_get h)
theorem mem_rd {w : Walk} {r : Reading} (h : r ∈ w.readings) : ∃ i, i < w.readings.length ∧ rd w i = r := by
  obtain ⟨i, hi⟩ := List.getElem?_of_mem h
  have hl := (List.getElem?_eq_some_iff.1 hi).1
  rw [rd_get hl] at hi
  exact ⟨i, hl, Option.some.inj hi⟩
theorem fits_mem {w : Walk} : fitsS w = true ↔ ∀ (h : Nat), h < w.rates.length → ∀ r ∈ w.readings, ∀ q ∈ w.readings, r.house = h → q.house = h → fitP (rt w h) r q := by
  rw [fits_pairs]
  constructor
  · intro hf h hh r hr q hq hrh hqh
    obtain ⟨i, hi, rfl⟩ := mem_rd hr
    obtain ⟨j, hj, rfl⟩ := mem_rd hq
    exact hf h i j hh hi hj hrh hqh
  · intro hf h x y hh hx hy hxh hyh
    exact hf h hh _ (rd_mem hx) _ (rd_mem hy) hxh hyh
/-- The readings of one house, and one more. -/
def oneH (w : Walk) (house : Int) : List Reading := w.readings.filter fun r => decide (r.house = house)
def oneW (w : Walk) (house day n : Int) : Walk := ⟨w.rates, oneH w house ++ [⟨house, day, n⟩]⟩
theorem shows_err {w : Walk} {house day : Int} (h : ¬ (showsR w house day).2 = 0) : (showsR w house day).1 = ⟨0, 0⟩ ∧ ((showsR w house day).2 == 1) = !walkB w := by
  unfold showsR at h ⊢
  by_cases h1 : walkB w = false
  · rw [if_pos h1] at h ⊢; rw [h1]; exact ⟨rfl, rfl⟩
  · rw [if_neg h1] at h ⊢
    have h2 : walkB w = true := by simpa using h1
    rw [h2]
    split
    · exact ⟨rfl, rfl⟩
    · split
      · exact ⟨rfl, rfl⟩
      · split
        · exact ⟨rfl, rfl⟩
        · rename_i a b c
          rw [if_neg a, if_neg b, if_neg c] at h
          exact absurd rfl h
theorem misfit_is {m : Walk} (hm : walkB m = true) : (misfitR m).2.2 = if fitsS m = true then 4 else 0 := by
  have h := misfits_fits m
  unfold misfitR
  rw [if_pos hm, ← h]
  cases misfitsS m <;> rfl
def oneK (w : Walk) (house : Int) (k : Nat) : List Reading := (w.readings.take k).filter fun r => decide (r.house = house)
def q3 (w : Walk) (house day : Int) : List Int := [(showsR w house day).1.lo, (showsR w house day).1.hi, (showsR w house day).1.lo + ((showsR w house day).1.hi - (showsR w house day).1.lo).tdiv 2]
def q2 (w : Walk) (house day : Int) : List Int := [(showsR w house day).1.lo - 1, (showsR w house day).1.hi + 1]
end Go.Mw
namespace Go.Mw

def ordR (y x : Repair) : Prop := y.kind < x.kind ∨ (y.kind = x.kind ∧ (y.a < x.a ∨ (y.a = x.a ∧ x.kind = 0 ∧ y.b < x.b)))
theorem mem_swN {w : Walk} {x : Repair} : x ∈ swN w w.readings.length ↔ ∃ a b : Nat, a < b ∧ b < w.readings.length ∧ worksS w ⟨0, a, b, 0⟩ = true ∧ x = ⟨0, a, b, 0⟩ := by
  unfold swN swA swB
  rw [List.mem_flatMap]
  constructor
  · rintro ⟨a, ha, h⟩
    obtain ⟨b, hb, rfl⟩ := List.mem_map.1 h
    obtain ⟨h1, h2⟩ := List.mem_filter.1 hb
    have := List.mem_range'_1.1 h1
    have := List.mem_range.1 ha
    exact ⟨a, b, by omega, by omega, h2, rfl⟩
  · rintro ⟨a, b, h1, h2, h3, rfl⟩
    exact ⟨a, List.mem_range.2 (by omega), List.mem_map.2 ⟨b, List.mem_filter.2 ⟨List.mem_range'_1.2 (by omega), h3⟩, rfl⟩⟩
theorem mem_cpN {w : Walk} {x : Repair} : x ∈ cpN w w.readings.length ↔ ∃ a : Nat, a < w.readings.length ∧ worksS w ⟨1, a, 0, 0⟩ = true ∧ x = ⟨1, a, 0, 0⟩ := by
  unfold cpN
  constructor
  · intro h
    obtain ⟨b, hb, rfl⟩ := List.mem_map.1 h
    obtain ⟨h1, h2⟩ := List.mem_filter.1 hb
    exact ⟨b, List.mem_range.1 h1, h2, rfl⟩
  · rintro ⟨a, h1, h2, rfl⟩
    exact List.mem_map.2 ⟨a, List.mem_filter.2 ⟨List.mem_range.2 h1, h2⟩, rfl⟩
theorem mem_ltN {w : Walk} {x : Repair} : x ∈ ltN w w.readings.length ↔ ∃ a : Nat, a < w.readings.length ∧ x ∈ ltA w a := by
  unfold ltN
  rw [List.mem_flatMap]
  simp only [List.mem_range]
theorem works_lt_no {w : Walk} {a d : Int} (h : ¬ (1 ≤ d ∧ d ≤ 30)) : worksS w ⟨2, a, d, 0⟩ = false := by
  have hm : madeS w ⟨2, a, d, 0⟩ = none := by
    unfold madeS
    simp only
    by_cases h0 : inB a 0 ((w.readings.length : Int) - 1) = false
    · rw [if_pos h0]
    · rw [if_neg h0, if_neg (by decide), if_neg (by decide), if_pos trivial, if_neg (fun hc => h (inB_iff.1 hc.1))]
  unfold worksS
  rw [hm]
theorem ltD_pw (w : Walk) (a j : Nat) : (ltD w a j).Pairwise (· < ·) := by
  unfold ltD
  exact List.Pairwise.filter _ List.pairwise_lt_range'
theorem mem_ltD {w : Walk} {a d : Nat} : d ∈ ltD w a 30 ↔ (1 ≤ d ∧ d ≤ 30) ∧ worksS w ⟨2, a, d, 0⟩ = true := by
  unfold ltD
  rw [List.mem_filter, List.mem_range'_1]
  exact ⟨fun h => ⟨by omega, h.2⟩, fun h => ⟨by omega, h.2⟩⟩
/-- A span of days of which each one explains the readings, and no other one does. -/
theorem late_span {w : Walk} (hw : walkB w = true) {a : Nat} (ha : a < w.readings.length) {x : Repair} (h : x ∈ ltA w a) : ∃ b c : Nat, x = ⟨2, a, b, c⟩ ∧ 1 ≤ b ∧ b ≤ c ∧ c ≤ 30 ∧ ∀ d : Int, worksS w ⟨2, a, d, 0⟩ = decide ((b : Int) ≤ d ∧ d ≤ (c : Int)) := by
  unfold ltA at h
  split at h
  · cases h
  · rename_i d r hd
    simp at h
    have hne : ltD w a 30 ≠ [] := by rw [hd]; simp
    obtain ⟨c, hc, hlast⟩ := lastI_pos hne
    have hpw := ltD_pw w a 30
    have hdm : d ∈ ltD w a 30 := by rw [hd]; simp
    have hd1 := mem_ltD.1 hdm
    have hc1 := mem_ltD.1 hc
    have hmin : ∀ e ∈ ltD w a 30, d ≤ e := by
      intro e he
      rw [hd] at he hpw
      rcases List.mem_cons.1 he with rfl | he
      · exact Nat.le_refl _
      · exact Nat.le_of_lt ((List.pairwise_cons.1 hpw).1 e he)
    have hmax : ∀ e ∈ ltD w a 30, e ≤ c := by
      intro e he
      have hsplit : ltD w a 30 = (ltD w a 30).dropLast ++ [(ltD w a 30).getLast hne] := (List.dropLast_concat_getLast hne).symm
      have hcl : c = (ltD w a 30).getLast hne := by
        unfold lastI at hlast
        rw [List.getLast?_eq_some_getLast hne] at hlast
        simp only at hlast
        omega
      rw [hsplit] at he hpw
      rcases List.mem_append.1 he with he | he
      · have := (List.pairwise_append.1 hpw).2.2 e he _ (List.mem_singleton.2 rfl)
        omega
      · have := List.mem_singleton.1 he
        omega
    refine ⟨d, c, by rw [h, ← hd, hlast], hd1.1.1, hmin c hc, hc1.1.2, fun e => ?_⟩
    rw [Bool.eq_iff_iff, decide_eq_true_iff]
    constructor
    · intro he
      by_cases hr : 1 ≤ e ∧ e ≤ 30
      · obtain ⟨n, rfl⟩ : ∃ n : Nat, e = n := ⟨e.toNat, by omega⟩
        have hm := mem_ltD.2 ⟨by omega, he⟩
        have := hmin n hm
        have := hmax n hm
        omega
      · rw [works_lt_no hr] at he; cases he
    · rintro ⟨h1, h2⟩
      obtain ⟨n, rfl⟩ : ∃ n : Nat, e = n := ⟨e.toNat, by omega⟩
      exact works_mid hw ha (d := d) (f := c) hd1.1.1 (by omega) (by omega) hd1.2 hc1.2
theorem all_pw (w : Walk) : (allS w).Pairwise ordR := by
  unfold allS
  rw [List.pairwise_append, List.pairwise_append]
  refine ⟨⟨?_, ?_, ?_⟩, ?_, ?_⟩
  · unfold swN
    rw [List.pairwise_flatMap]
    refine ⟨fun a _ => ?_, List.pairwise_lt_range.imp fun {a b} hab x hx y hy => ?_⟩
    · unfold swA swB
      rw [List.pairwise_map]
      exact (List.Pairwise.filter _ List.pairwise_lt_range').imp fun {c d} hcd => .inr ⟨rfl, .inr ⟨rfl, rfl, by simpa using hcd⟩⟩
    · unfold swA swB at hx hy
      obtain ⟨c, _, rfl⟩ := List.mem_map.1 hx
      obtain ⟨d, _, rfl⟩ := List.mem_map.1 hy
      exact .inr ⟨rfl, .inl (by simpa using hab)⟩
  · unfold cpN
    rw [List.pairwise_map]
    exact (List.Pairwise.filter _ List.pairwise_lt_range).imp fun {c d} hcd => .inr ⟨rfl, .inl (by simpa using hcd)⟩
  · intro x hx y hy
    obtain ⟨_, _, _, _, _, rfl⟩ := mem_swN.1 hx
    obtain ⟨_, _, _, rfl⟩ := mem_cpN.1 hy
    exact .inl (show (0 : Int) < 1 by decide)
  · unfold ltN
    rw [List.pairwise_flatMap]
    refine ⟨fun a _ => ?_, List.pairwise_lt_range.imp fun {a b} hab x hx y hy => ?_⟩
    · unfold ltA
      split
      · exact List.Pairwise.nil
      · exact List.pairwise_singleton _ _
    · have h1 := ltA_a hx
      have h2 := ltA_a hy
      exact .inr ⟨by omega, .inl (by omega)⟩
  · intro x hx y hy
    obtain ⟨a, ha, hy⟩ := mem_ltN.1 hy
    have h2 := ltA_a hy
    rcases List.mem_append.1 hx with hx | hx
    · obtain ⟨_, _, _, _, _, rfl⟩ := mem_swN.1 hx
      exact .inl (by rw [h2.1]; exact (show (0 : Int) < 2 by decide))
    · obtain ⟨_, _, _, rfl⟩ := mem_cpN.1 hx
      exact .inl (by rw [h2.1]; exact (show (1 : Int) < 2 by decide))

/-- Does one of those that explain the readings stand for this one? -/
def covB (o x : Repair) : Bool := if x.kind = 2 then (o.kind == x.kind && (o.a == x.a)) && decide (o.b ≥ x.b) && decide (o.b ≤ x.c) else decide (o = x)
theorem covB_no {o x : Repair} (h : x.kind ≠ 2) : covB o x = decide (o = x) := if_neg h
theorem cov_all {w : Walk} (hw : walkB w = true) {o : Repair} (ha : 0 ≤ o.a ∧ o.a < w.readings.length) (hb : 0 ≤ o.b) (hk : o.kind = 0 ∨ (o.kind = 1 ∧ o.b = 0) ∨ o.kind = 2) (hc : o.c = 0) : (allS w).any (covB o) = worksS w o := by
  obtain ⟨k, a, b, c⟩ := o
  simp only at ha hb hk hc
  subst hc
  obtain ⟨a, rfl⟩ : ∃ a' : Nat, a = a' := ⟨a.toNat, by omega⟩
  obtain ⟨b, rfl⟩ : ∃ b' : Nat, b = b' := ⟨b.toNat, by omega⟩
  have han : a < w.readings.length := by omega
  rw [Bool.eq_iff_iff, List.any_eq_true]
  constructor
  · rintro ⟨x, hx, hcov⟩
    unfold allS at hx
    rw [List.mem_append, List.mem_append] at hx
    rcases hx with (hx | hx) | hx
    · obtain ⟨a', b', _, _, h3, rfl⟩ := mem_swN.1 hx
      rw [covB_no (show (0 : Int) ≠ 2 by decide), decide_eq_true_iff] at hcov
      rw [hcov]; exact h3
    · obtain ⟨a', _, h3, rfl⟩ := mem_cpN.1 hx
      rw [covB_no (show (1 : Int) ≠ 2 by decide), decide_eq_true_iff] at hcov
      rw [hcov]; exact h3
    · obtain ⟨a', h1, hx⟩ := mem_ltN.1 hx
      obtain ⟨b', c', rfl, _, _, _, hall⟩ := late_span hw h1 hx
      unfold covB at hcov
      rw [if_pos rfl] at hcov
      simp only [Bool.and_eq_true, beq_iff_eq, decide_eq_true_eq] at hcov
      obtain ⟨⟨⟨q1, q2⟩, q3⟩, q4⟩ := hcov
      rw [q1, q2, hall]
      simp only [decide_eq_true_eq]
      exact ⟨q3, q4⟩
  · intro h
    rcases hk with rfl | ⟨rfl, hb0⟩ | rfl
    · have hab : a < b ∧ b < w.readings.length := by
        unfold worksS madeS at h
        simp only [nat_in han, Bool.true_eq_false, if_false, if_true] at h
        split at h
        · rename_i m hm
          split at hm
          · cases hm
          · rename_i hin
            have hin : inB (b : Int) ((a : Int) + 1) ((w.readings.length : Int) - 1) = true := by simpa using hin
            have := inB_iff.1 hin
            omega
        · cases h
      refine ⟨⟨0, a, b, 0⟩, ?_, by rw [covB_no (show (0 : Int) ≠ 2 by decide)]; simp⟩
      unfold allS
      rw [List.mem_append, List.mem_append]
      exact .inl (.inl (mem_swN.2 ⟨a, b, hab.1, hab.2, h, rfl⟩))
    · obtain rfl : b = 0 := by omega
      refine ⟨⟨1, a, 0, 0⟩, ?_, by rw [covB_no (show (1 : Int) ≠ 2 by decide)]; simp⟩
      unfold allS
      rw [List.mem_append, List.mem_append]
      exact .inl (.inr (mem_cpN.2 ⟨a, han, h, rfl⟩))
    · have hr : 1 ≤ (b : Int) ∧ (b : Int) ≤ 30 := by
        rcases Classical.em (1 ≤ (b : Int) ∧ (b : Int) ≤ 30) with h1 | h1
        · exact h1
        · rw [works_lt_no h1] at h; cases h
      have hm : b ∈ ltD w a 30 := mem_ltD.2 ⟨by omega, h⟩
      obtain ⟨x, hx⟩ : ∃ x, x ∈ ltA w a := by
        unfold ltA
        cases hd : ltD w a 30 with
        | nil => rw [hd] at hm; cases hm
        | cons d r => exact ⟨_, List.mem_singleton.2 rfl⟩
      obtain ⟨b', c', rfl, _, _, _, hall⟩ := late_span hw han hx
      rw [hall] at h
      have h := of_decide_eq_true h
      refine ⟨⟨2, a, b', c'⟩, ?_, ?_⟩
      · unfold allS
        rw [List.mem_append]
        exact .inr (mem_ltN.2 ⟨a, han, hx⟩)
      · unfold covB
        rw [if_pos rfl]
        simp only [Bool.and_eq_true, beq_iff_eq, decide_eq_true_eq]
        exact ⟨⟨⟨trivial, trivial⟩, h.1⟩, h.2⟩
end Go.Mw
namespace Go.Mw

/-- What a meter showed, day by day, if each day took no less and no more than its rate allows. -/
def TruthOk (s : Span) (f : Int → Int) : Prop := ∀ d, 0 ≤ d → s.lo ≤ f (d + 1) - f d ∧ f (d + 1) - f d ≤ s.hi
theorem truth_up {s : Span} {f : Int → Int} (hf : TruthOk s f) (a : Int) (ha : 0 ≤ a) : ∀ n : Nat, s.lo * n ≤ f (a + n) - f a ∧ f (a + n) - f a ≤ s.hi * n
  | 0 => by simp
  | n + 1 => by
    have ih := truth_up hf a ha n
    have h := hf (a + n) (by omega)
    have e : a + ((n + 1 : Nat) : Int) = a + n + 1 := by omega
    have e1 : s.lo * ((n + 1 : Nat) : Int) = s.lo * n + s.lo := by rw [Int.natCast_add, Int.mul_add]; simp
    have e2 : s.hi * ((n + 1 : Nat) : Int) = s.hi * n + s.hi := by rw [Int.natCast_add, Int.mul_add]; simp
    rw [e, e1, e2]
    omega
theorem truth_fit {s : Span} {f : Int → Int} (hf : TruthOk s f) {a b : Reading} (ha : 0 ≤ a.day ∧ a.shows = f a.day) (hb : 0 ≤ b.day ∧ b.shows = f b.day) : fitP s a b := by
  have key : ∀ {a b : Reading}, (0 ≤ a.day ∧ a.shows = f a.day) → (0 ≤ b.day ∧ b.shows = f b.day) → a.day ≤ b.day → fitP s a b := by
    intro a b ha hb hab
    obtain ⟨n, hn⟩ : ∃ n : Nat, b.day = a.day + n := ⟨(b.day - a.day).toNat, by omega⟩
    have h := truth_up hf a.day ha.1 n
    unfold fitP tkL tkH
    rw [hb.2, ha.2, hn, if_neg (by omega), if_neg (by omega), show a.day + (n : Int) - a.day = n by omega]
    exact h
  rcases Int.le_total a.day b.day with h | h
  · exact key ha hb h
  · exact fit_symm (key hb ha h)
end Go.Mw
namespace Go.Mw
theorem tmod_n (a b : Nat) : ((a : Int)).tmod (b : Int) = ((a % b : Nat) : Int) := (Int.ofNat_tmod a b).symm
def byG (by0 : List Nat) (i : Nat) : Nat := by0[i % by0.length]?.getD 0
theorem byG_get {by0 : List Nat} (h : 0 < by0.length) (i : Nat) : by0[i % by0.length]? = some (byG by0 i) := by
  have := Nat.mod_lt i h
  unfold byG
  rw [List.getElem?_eq_getElem this]; rfl
theorem byG_le {by0 : List Nat} (hb : ∀ n ∈ by0, n ≤ 65535) (i : Nat) : byG by0 i ≤ 65535 := by
  unfold byG
  cases h : by0[i % by0.length]? with
  | none => simp
  | some n => exact hb n (List.mem_of_getElem? h)
/-- What a house took on a day. -/
def tookS (s : Span) (house day : Nat) (by0 : List Nat) : Int := s.lo + ((byG by0 (house + day) + day : Nat) : Int).tmod (s.hi - s.lo + 1)
theorem took_in {s : Span} (hs : 0 ≤ s.lo ∧ s.lo ≤ s.hi) (house day : Nat) (by0 : List Nat) : s.lo ≤ tookS s house day by0 ∧ tookS s house day by0 ≤ s.hi := by
  unfold tookS
  have h1 : 0 ≤ ((byG by0 (house + day) + day : Nat) : Int).tmod (s.hi - s.lo + 1) := Int.tmod_nonneg _ (by omega)
  have h2 : ((byG by0 (house + day) + day : Nat) : Int).tmod (s.hi - s.lo + 1) < s.hi - s.lo + 1 := Int.tmod_lt_of_pos _ (by omega)
  omega
/-- What a meter showed day by day. -/
def shwF (s : Span) (house : Nat) (by0 : List Nat) : Nat → Int
  | 0 => ((byG by0 house % 500 : Nat) : Int)
  | d + 1 => shwF s house by0 d + tookS s house d by0
theorem shw_bnd {s : Span} (hs : 0 ≤ s.lo ∧ s.lo ≤ s.hi ∧ s.hi ≤ 100000) (house : Nat) (by0 : List Nat) : ∀ d, 0 ≤ shwF s house by0 d ∧ shwF s house by0 d ≤ 500 + 100000 * (d : Int)
  | 0 => by
    unfold shwF
    have := Nat.mod_lt (byG by0 house) (show 0 < 500 by omega)
    omega
  | d + 1 => by
    have ih := shw_bnd hs house by0 d
    have := took_in ⟨hs.1, hs.2.1⟩ house d by0
    unfold shwF
    omega
def rowI (s : Span) (house : Nat) (by0 : List Nat) (n : Nat) : List Int := (List.range n).map (shwF s house by0)
theorem rowI_succ (s : Span) (house : Nat) (by0 : List Nat) (n : Nat) : rowI s house by0 (n + 1) = rowI s house by0 n ++ [shwF s house by0 n] := by unfold rowI; rw [List.range_succ, List.map_append]; rfl
theorem rowI_len (s : Span) (house : Nat) (by0 : List Nat) (n : Nat) : (rowI s house by0 n).length = n := by unfold rowI; simp
theorem rowI_get {s : Span} {house : Nat} {by0 : List Nat} {n d : Nat} (h : d < n) : (rowI s house by0 n)[d]? = some (shwF s house by0 d) := by unfold rowI; simp [h]
def rtL (rates : List Span) (i : Nat) : Span := rates[i]?.getD ⟨0, 0⟩
theorem rtL_get {rates : List Span} {i : Nat} (h : i < rates.length) : rates[i]? = some (rtL rates i) := by unfold rtL; rw [List.getElem?_eq_getElem h]; rfl
def dayK (by0 : List Nat) : Nat → Nat
  | 0 => 10
  | k + 1 => dayK by0 k + (3 + byG by0 k % 16)
theorem dayK_le (by0 : List Nat) : ∀ k, dayK by0 k ≤ 10 + 18 * k
  | 0 => Nat.le_refl _
  | k + 1 => by
    have := dayK_le by0 k
    have := Nat.mod_lt (byG by0 k) (show 0 < 16 by omega)
    unfold dayK; omega
def addR (rates : List Span) (by0 : List Nat) (k day : Nat) (l : List Reading) (i : Nat) : List Reading := if l.length < 24 ∧ 0 < byG by0 (i + k) % 8 then l ++ [⟨i, day, shwF (rtL rates i) i by0 day⟩] else l
def rowR (rates : List Span) (by0 : List Nat) (k day : Nat) (l : List Reading) : Nat → List Reading
  | 0 => l
  | i + 1 => addR rates by0 k day (rowR rates by0 k day l i) i
def allR (rates : List Span) (by0 : List Nat) : Nat → List Reading
  | 0 => []
  | k + 1 => rowR rates by0 k (dayK by0 k) (allR rates by0 k) rates.length
theorem addR_len {rates : List Span} {by0 : List Nat} {k day i : Nat} {l : List Reading} (h : l.length ≤ 24) : (addR rates by0 k day l i).length ≤ 24 := by
  unfold addR
  split
  · simp; omega
  · exact h
theorem rowR_len {rates : List Span} {by0 : List Nat} {k day : Nat} {l : List Reading} (h : l.length ≤ 24) : ∀ i, (rowR rates by0 k day l i).length ≤ 24
  | 0 => h
  | i + 1 => addR_len (rowR_len h i)
theorem allR_len (rates : List Span) (by0 : List Nat) : ∀ k, (allR rates by0 k).length ≤ 24
  | 0 => by simp [allR]
  | k + 1 => rowR_len (allR_len rates by0 k) _
end Go.Mw
namespace Go.Mw

/-- Two walks whose readings are the same but for their numbers. -/
structure Turned (A B : Walk) (s t : Nat → Nat) : Prop where
  r : A.rates = B.rates
  n : A.readings.length = B.readings.length
  g : ∀ i, i < A.readings.length → s i < A.readings.length ∧ t (s i) = i ∧ rd A i = rd B (s i)
  h : ∀ i, i < A.readings.length → t i < A.readings.length ∧ s (t i) = i ∧ rd B i = rd A (t i)
/-- No two readings are of the same day and house. -/
def DD (w : Walk) : Prop := ∀ i j, i < w.readings.length → j < w.readings.length → i ≠ j → (rd w i).house = (rd w j).house → (rd w i).day ≠ (rd w j).day
section
variable {A B : Walk} {s t : Nat → Nat}
theorem Turned.symm (h : Turned A B s t) : Turned B A t s := ⟨h.r.symm, h.n.symm, fun i hi => h.h i (by rw [h.n]; exact hi) |> fun q => ⟨by rw [← h.n]; exact q.1, q.2.1, q.2.2⟩, fun i hi => h.g i (by rw [h.n]; exact hi) |> fun q => ⟨by rw [← h.n]; exact q.1, q.2.1, q.2.2⟩⟩
theorem Turned.dd (h : Turned A B s t) (hd : DD A) : DD B := by
  intro i j hi hj hij hh
  have hi' := h.h i (by rw [h.n]; exact hi)
  have hj' := h.h j (by rw [h.n]; exact hj)
  rw [hi'.2.2, hj'.2.2] at hh ⊢
  exact hd _ _ hi'.1 hj'.1 (fun e => hij (by rw [← hi'.2.1, ← hj'.2.1, e])) hh
theorem Turned.mem (h : Turned A B s t) {r : Reading} (hr : r ∈ B.readings) : r ∈ A.readings := by
  obtain ⟨i, hi, rfl⟩ := mem_rd hr
  have hi' := h.h i (by rw [h.n]; exact hi)
  rw [hi'.2.2]
  exact rd_mem hi'.1
theorem fits_sub {A B : Walk} (hr : A.rates = B.rates) (hm : ∀ r ∈ B.readings, r ∈ A.readings) (hf : fitsS A = true) : fitsS B = true := by
  rw [fits_mem] at *
  intro k hk r hr' q hq h1 h2
  have := hf k (by rw [hr]; exact hk) r (hm r hr') q (hm q hq) h1 h2
  unfold rt at *
  rw [← hr]; exact this
theorem Turned.fits (h : Turned A B s t) : fitsS A = fitsS B := by
  rw [Bool.eq_iff_iff]
  exact ⟨fits_sub h.r fun r => h.mem, fits_sub h.r.symm fun r => h.symm.mem⟩
theorem Turned.walk (h : Turned A B s t) : walkB A = walkB B := by
  have key : ∀ {A B : Walk} {s t}, Turned A B s t → walkB A = true → walkB B = true := fun {A B s t} h hw => by
    have := walk_mk (l := B.readings) hw (by rw [← h.n]; exact (walk_len hw).2.2) fun r hr => readB_mem hw (h.mem hr)
    rw [h.r] at this
    exact this
  rw [Bool.eq_iff_iff]
  exact ⟨key h, key h.symm⟩
theorem befL_map {s : Nat → Nat} {a : Nat} : ∀ {l : List Nat}, (∀ y ∈ l, s y = s a → y = a) → befL (s a) (l.map s) = (befL a l).map s
  | [], _ => rfl
  | [_], _ => rfl
  | x :: y :: r, h => by
    have ih := befL_map (s := s) (a := a) (l := y :: r) fun z hz => h z (List.mem_cons_of_mem _ hz)
    rw [List.map_cons] at ih
    rw [List.map_cons, List.map_cons, befL, befL]
    by_cases e : y = a
    · rw [if_pos e, if_pos (by rw [e])]; rfl
    · rw [if_neg e, if_neg fun e2 => e (h y (by simp) e2), ih]
theorem Turned.ofS (h : Turned A B s t) (hd : DD A) (k : Int) : ofS B k = (ofS A k).map s := by
  refine ofS_uniq ?_ fun x => ?_
  · rw [List.pairwise_map]
    refine (pw_ofS A k).imp_of_mem fun {a b} ha hb hl => ?_
    have h1 := mem_ofS.1 ha
    have h2 := mem_ofS.1 hb
    have g1 := (h.g a h1.1).2.2
    have g2 := (h.g b h2.1).2.2
    rcases hl with hl | ⟨hl, hab⟩
    · exact .inl (by rw [← g1, ← g2]; exact hl)
    · exact absurd hl (hd a b h1.1 h2.1 (by omega) (by rw [h1.2, h2.2]))
  · rw [List.mem_map]
    constructor
    · rintro ⟨a, ha, rfl⟩
      have h1 := mem_ofS.1 ha
      have g1 := h.g a h1.1
      exact ⟨by rw [← h.n]; exact g1.1, by rw [← g1.2.2]; exact h1.2⟩
    · rintro ⟨hx, hk⟩
      have g1 := h.h x (by rw [h.n]; exact hx)
      exact ⟨t x, mem_ofS.2 ⟨g1.1, by rw [← g1.2.2]; exact hk⟩, g1.2.1⟩
theorem Turned.bef (h : Turned A B s t) (hd : DD A) {a : Nat} (ha : a < A.readings.length) : befS B (s a) = (befS A a).map s := by
  unfold befS
  have g1 := h.g a ha
  rw [← g1.2.2, h.ofS hd]
  refine befL_map fun y hy e => ?_
  have h1 := (h.g y (mem_ofS.1 hy).1).2.1
  rw [← h1, e, g1.2.1]
theorem rd_two {w : Walk} {a b i : Nat} {x y : Reading} (ha : a < w.readings.length) (hb : b < w.readings.length) : rd ⟨w.rates, (w.readings.set a x).set b y⟩ i = if i = b then y else if i = a then x else rd w i := by
  have h1 := rd_set (w := ⟨w.rates, w.readings.set a x⟩) (l := w.rates) (a := b) (r := y) (by simpa using hb) i
  rw [h1]
  split
  · rfl
  · exact rd_set (w := w) (l := w.rates) ha i
/-- A swap and its two readings: what is made. -/
theorem works_swI {w : Walk} {a b : Nat} (hab : a < b) (hb : b < w.readings.length) : worksS w ⟨0, a, b, 0⟩ = true ↔ ((rd w a).day = (rd w b).day ∧ ((rd w a).house - (rd w b).house = 1 ∨ (rd w b).house - (rd w a).house = 1)) ∧
    fitsS ⟨w.rates, (w.readings.set a { rd w a with shows := (rd w b).shows }).set b { rd w b with shows := (rd w a).shows }⟩ = true := by
  rw [works_sw hab hb]
  simp only [Bool.and_eq_true, decide_eq_true_eq, sq_one]
  constructor
  · rintro ⟨h1, h2, h3⟩; exact ⟨⟨h1.symm, by omega⟩, h3⟩
  · rintro ⟨⟨h1, h2⟩, h3⟩; exact ⟨h1.symm, by omega, h3⟩
theorem works_cpI {w : Walk} {a : Nat} (ha : a < w.readings.length) : worksS w ⟨1, a, 0, 0⟩ = true ↔ (∃ p, befS w a = some p ∧ (rd w p).shows = (rd w a).shows) ∧ fitsS ⟨w.rates, w.readings.take a ++ w.readings.drop (a + 1)⟩ = true := by
  rw [works_cp ha]
  cases befS w a with
  | none => simp
  | some p =>
    simp only [Bool.and_eq_true, decide_eq_true_eq]
    constructor
    · rintro ⟨h1, h2⟩; exact ⟨⟨p, rfl, h1⟩, h2⟩
    · rintro ⟨⟨q, hq, h1⟩, h2⟩; cases hq; exact ⟨h1, h2⟩
theorem works_ltI {w : Walk} {a d : Nat} (ha : a < w.readings.length) : worksS w ⟨2, a, d, 0⟩ = true ↔ (1 ≤ d ∧ d ≤ 30 ∧ 0 ≤ (rd w a).day - d ∧ ∀ p, befS w a = some p → (rd w p).day < (rd w a).day - d) ∧ fitsS (lateW w a d) = true := by
  have h1 := nat_in ha
  unfold worksS madeS
  simp only [h1, Int.toNat_natCast, Bool.true_eq_false, if_false]
  rw [if_neg (by decide), if_neg (by decide), if_pos trivial]
  by_cases hc : inB (d : Int) 1 30 = true ∧ 0 ≤ (rd w a).day - d ∧ ∀ p, befS w a = some p → (rd w p).day < (rd w a).day - d
  · rw [if_pos hc]
    have h2 := inB_iff.1 hc.1
    exact ⟨fun h => ⟨⟨by omega, by omega, hc.2⟩, h⟩, fun h => h.2⟩
  · rw [if_neg hc]
    exact ⟨fun h => by simp at h, fun h => absurd ⟨inB_iff.2 ⟨by omega, by omega⟩, h.1.2.2⟩ hc⟩
theorem mem_cut {w : Walk} {a : Nat} {r : Reading} : r ∈ w.readings.take a ++ w.readings.drop (a + 1) ↔ ∃ i, i < w.readings.length ∧ i ≠ a ∧ rd w i = r := by
  rw [List.mem_append]
  constructor
  · rintro (h | h)
    · obtain ⟨i, hi⟩ := List.getElem?_of_mem h
      rw [List.getElem?_take] at hi
      split at hi
      · have hl := (List.getElem?_eq_some_iff.1 hi).1
        rw [rd_get hl] at hi
        exact ⟨i, hl, by omega, Option.some.inj hi⟩
      · cases hi
    · obtain ⟨i, hi⟩ := List.getElem?_of_mem h
      rw [List.getElem?_drop] at hi
      have hl := (List.getElem?_eq_some_iff.1 hi).1
      rw [rd_get hl] at hi
      exact ⟨a + 1 + i, hl, by omega, Option.some.inj hi⟩
  · rintro ⟨i, hi, hne, rfl⟩
    rcases Nat.lt_or_ge i a with h | h
    · left
      refine List.mem_of_getElem? (i := i) ?_
      rw [List.getElem?_take, if_pos h, rd_get hi]
    · right
      refine List.mem_of_getElem? (i := i - (a + 1)) ?_
      rw [List.getElem?_drop, show a + 1 + (i - (a + 1)) = i by omega, rd_get hi]
/-- A repair of the one walk is one of the other. -/
theorem Turned.swap1 (h : Turned A B s t) {a b : Nat} (hab : a < b) (hb : b < A.readings.length) (hw : worksS A ⟨0, a, b, 0⟩ = true) : worksS B ⟨0, ((min (s a) (s b) : Nat) : Int), ((max (s a) (s b) : Nat) : Int), 0⟩ = true := by
  have ha : a < A.readings.length := by omega
  have ga := h.g a ha
  have gb := h.g b hb
  have hB := h.n
  have hne : s a ≠ s b := fun e => by have := ga.2.1; rw [e, gb.2.1] at this; omega
  obtain ⟨⟨h1, h2⟩, h3⟩ := (works_swI hab hb).1 hw
  rw [ga.2.2, gb.2.2] at h1 h2
  rcases Nat.lt_or_ge (s a) (s b) with hl | hl
  · rw [Nat.min_eq_left (by omega), Nat.max_eq_right (by omega)]
    refine (works_swI hl (by omega)).2 ⟨⟨h1, h2⟩, fits_sub (A := ⟨A.rates, (A.readings.set a { rd A a with shows := (rd A b).shows }).set b { rd A b with shows := (rd A a).shows }⟩) h.r (fun r hr => ?_) h3⟩
    obtain ⟨i, hi, rfl⟩ := mem_rd hr
    have hi : i < B.readings.length := by simpa using hi
    have gi := h.h i (by omega)
    have e : rd ⟨B.rates, (B.readings.set (s a) { rd B (s a) with shows := (rd B (s b)).shows }).set (s b) { rd B (s b) with shows := (rd B (s a)).shows }⟩ i = rd ⟨A.rates, (A.readings.set a { rd A a with shows := (rd A b).shows }).set b { rd A b with shows := (rd A a).shows }⟩ (t i) := by
      rw [rd_two (by omega) (by omega), rd_two ha hb, ga.2.2, gb.2.2, ← gi.2.2]
      have e1 : i = s b ↔ t i = b := ⟨fun e => by rw [e, gb.2.1], fun e => by rw [← e, gi.2.1]⟩
      have e2 : i = s a ↔ t i = a := ⟨fun e => by rw [e, ga.2.1], fun e => by rw [← e, gi.2.1]⟩
      simp only [e1, e2]
    rw [e]
    exact rd_mem (by simpa using gi.1)
  · rw [Nat.min_eq_right (by omega), Nat.max_eq_left (by omega)]
    refine (works_swI (by omega) (by omega)).2 ⟨⟨h1.symm, by omega⟩, fits_sub (A := ⟨A.rates, (A.readings.set a { rd A a with shows := (rd A b).shows }).set b { rd A b with shows := (rd A a).shows }⟩) h.r (fun r hr => ?_) h3⟩
    obtain ⟨i, hi, rfl⟩ := mem_rd hr
    have hi : i < B.readings.length := by simpa using hi
    have gi := h.h i (by omega)
    have e : rd ⟨B.rates, (B.readings.set (s b) { rd B (s b) with shows := (rd B (s a)).shows }).set (s a) { rd B (s a) with shows := (rd B (s b)).shows }⟩ i = rd ⟨A.rates, (A.readings.set a { rd A a with shows := (rd A b).shows }).set b { rd A b with shows := (rd A a).shows }⟩ (t i) := by
      rw [rd_two (by omega) (by omega), rd_two ha hb, ga.2.2, gb.2.2, ← gi.2.2]
      have e1 : i = s b ↔ t i = b := ⟨fun e => by rw [e, gb.2.1], fun e => by rw [← e, gi.2.1]⟩
      have e2 : i = s a ↔ t i = a := ⟨fun e => by rw [e, ga.2.1], fun e => by rw [← e, gi.2.1]⟩
      simp only [e1, e2]
      by_cases q1 : t i = a
      · have q2 : ¬ t i = b := by omega
        simp only [q1, if_true, if_neg (show ¬ a = b by omega)]
      · simp only [q1, if_false]
    rw [e]
    exact rd_mem (by simpa using gi.1)
theorem Turned.copy1 (h : Turned A B s t) (hd : DD A) {a : Nat} (ha : a < A.readings.length) (hw : worksS A ⟨1, a, 0, 0⟩ = true) : worksS B ⟨1, (s a : Nat), 0, 0⟩ = true := by
  have ga := h.g a ha
  have hB := h.n
  obtain ⟨⟨p, hp, h1⟩, h2⟩ := (works_cpI ha).1 hw
  have gp := h.g p (befS_lt hp)
  refine (works_cpI (by omega)).2 ⟨⟨s p, by rw [h.bef hd ha, hp]; rfl, by rw [← gp.2.2, ← ga.2.2]; exact h1⟩, fits_sub (A := ⟨A.rates, A.readings.take a ++ A.readings.drop (a + 1)⟩) h.r (fun r hr => ?_) h2⟩
  obtain ⟨i, hi, hne, rfl⟩ := mem_cut.1 hr
  have gi := h.h i (by omega)
  exact mem_cut.2 ⟨t i, gi.1, fun e => hne (by rw [← gi.2.1, e]), gi.2.2.symm⟩
theorem Turned.late1 (h : Turned A B s t) (hd : DD A) {a d : Nat} (ha : a < A.readings.length) (hw : worksS A ⟨2, a, d, 0⟩ = true) : worksS B ⟨2, (s a : Nat), d, 0⟩ = true := by
  have ga := h.g a ha
  have hB := h.n
  obtain ⟨⟨h1, h2, h3, h4⟩, h5⟩ := (works_ltI ha).1 hw
  refine (works_ltI (by omega)).2 ⟨⟨h1, h2, by rw [← ga.2.2]; exact h3, fun p hp => ?_⟩, fits_sub (A := lateW A a d) h.r (fun r hr => ?_) h5⟩
  · rw [h.bef hd ha] at hp
    cases hq : befS A a with
    | none => rw [hq] at hp; cases hp
    | some q =>
      rw [hq] at hp
      cases hp
      rw [← ga.2.2, ← (h.g q (befS_lt hq)).2.2]
      exact h4 q hq
  · obtain ⟨i, hi, rfl⟩ := mem_rd hr
    have hi : i < B.readings.length := by simpa using hi
    have gi := h.h i (by omega)
    have e : rd (lateW B (s a) d) i = rd (lateW A a d) (t i) := by
      rw [rd_late (by omega), rd_late ha, ← ga.2.2, ← gi.2.2]
      have e2 : i = s a ↔ t i = a := ⟨fun e => by rw [e, ga.2.1], fun e => by rw [← e, gi.2.1]⟩
      simp only [e2]
    rw [e]
    exact rd_mem (by simpa using gi.1)
theorem Turned.late2 (h : Turned A B s t) (hd : DD A) {a d : Nat} (ha : a < A.readings.length) : worksS A ⟨2, a, d, 0⟩ = worksS B ⟨2, (s a : Nat), d, 0⟩ := by
  rw [Bool.eq_iff_iff]
  refine ⟨h.late1 hd ha, fun hw => ?_⟩
  have ga := h.g a ha
  have := h.symm.late1 (h.dd hd) (a := s a) (by rw [← h.n]; exact ga.1) hw
  rw [ga.2.1] at this
  exact this
theorem Turned.ltA (h : Turned A B s t) (hd : DD A) {a : Nat} (ha : a < A.readings.length) {x : Repair} (hx : x ∈ ltA A a) : (⟨2, (s a : Nat), x.b, x.c⟩ : Repair) ∈ ltA B (s a) := by
  have e : ltD A a 30 = ltD B (s a) 30 := by
    unfold ltD
    exact filter_ext fun d _ => h.late2 hd ha
  unfold Go.Mw.ltA at *
  rw [← e]
  split at hx
  · cases hx
  · rw [List.mem_singleton.1 hx]
    simp
/-- A repair with the numbers that readings have in the other walk. -/
def renR (s : Nat → Nat) (x : Repair) : Repair := if x.kind = 0 then ⟨0, ((min (s x.a.toNat) (s x.b.toNat) : Nat) : Int), ((max (s x.a.toNat) (s x.b.toNat) : Nat) : Int), x.c⟩ else ⟨x.kind, (s x.a.toNat : Nat), x.b, x.c⟩
theorem mem_allS {w : Walk} {x : Repair} : x ∈ allS w ↔ (∃ a b : Nat, a < b ∧ b < w.readings.length ∧ worksS w ⟨0, a, b, 0⟩ = true ∧ x = ⟨0, a, b, 0⟩) ∨ (∃ a : Nat, a < w.readings.length ∧ worksS w ⟨1, a, 0, 0⟩ = true ∧ x = ⟨1, a, 0, 0⟩) ∨ ∃ a : Nat, a < w.readings.length ∧ x ∈ ltA w a := by
  unfold allS
  rw [List.mem_append, List.mem_append, mem_swN, mem_cpN, mem_ltN, or_assoc]
theorem Turned.all (h : Turned A B s t) (hd : DD A) {x : Repair} (hx : x ∈ allS A) : renR s x ∈ allS B ∧ renR t (renR s x) = x := by
  rw [mem_allS] at hx
  rw [mem_allS]
  have hB := h.n
  rcases hx with ⟨a, b, h1, h2, h3, rfl⟩ | ⟨a, h1, h2, rfl⟩ | ⟨a, h1, hx⟩
  · have ga := h.g a (by omega)
    have gb := h.g b h2
    have hne : s a ≠ s b := fun e => by have := ga.2.1; rw [e, gb.2.1] at this; omega
    have e : renR s ⟨0, a, b, 0⟩ = ⟨0, ((min (s a) (s b) : Nat) : Int), ((max (s a) (s b) : Nat) : Int), 0⟩ := rfl
    rw [e]
    refine ⟨.inl ⟨_, _, by omega, by omega, h.swap1 h1 h2 h3, rfl⟩, ?_⟩
    have e2 : renR t ⟨0, ((min (s a) (s b) : Nat) : Int), ((max (s a) (s b) : Nat) : Int), 0⟩ = ⟨0, ((min (t (min (s a) (s b))) (t (max (s a) (s b))) : Nat) : Int), ((max (t (min (s a) (s b))) (t (max (s a) (s b))) : Nat) : Int), 0⟩ := rfl
    rw [e2]
    rcases Nat.lt_or_ge (s a) (s b) with hl | hl
    · rw [Nat.min_eq_left (Nat.le_of_lt hl), Nat.max_eq_right (Nat.le_of_lt hl), ga.2.1, gb.2.1, Nat.min_eq_left (Nat.le_of_lt h1), Nat.max_eq_right (Nat.le_of_lt h1)]
    · rw [Nat.min_eq_right hl, Nat.max_eq_left hl, ga.2.1, gb.2.1, Nat.min_eq_right (Nat.le_of_lt h1), Nat.max_eq_left (Nat.le_of_lt h1)]
  · have ga := h.g a h1
    exact ⟨.inr (.inl ⟨s a, by omega, h.copy1 hd h1 h2, rfl⟩), by show (⟨1, ((t (s a) : Nat) : Int), 0, 0⟩ : Repair) = _; rw [ga.2.1]⟩
  · have ga := h.g a h1
    have hk := ltA_a hx
    have e : renR s x = ⟨2, (s a : Nat), x.b, x.c⟩ := by
      unfold renR
      rw [if_neg (by omega), hk.1, hk.2, Int.toNat_natCast]
    rw [e]
    refine ⟨.inr (.inr ⟨s a, by omega, h.ltA hd h1 hx⟩), ?_⟩
    unfold renR
    rw [if_neg (show ¬ (2 : Int) = 0 by decide)]
    simp only [Int.toNat_natCast, ga.2.1]
    obtain ⟨k, a', b, c⟩ := x
    simp only at hk ⊢
    rw [hk.1, hk.2]
theorem sub_len {α : Type} [DecidableEq α] : ∀ {l m : List α}, l.Nodup → (∀ x ∈ l, x ∈ m) → l.length ≤ m.length
  | [], _, _, _ => Nat.zero_le _
  | a :: l, m, hn, hs => by
    have h1 := List.nodup_cons.1 hn
    have := sub_len (l := l) (m := m.erase a) h1.2 fun x hx => by
      refine (List.mem_erase_of_ne fun e => ?_).2 (hs x (List.mem_cons_of_mem _ hx))
      subst e; exact h1.1 hx
    have hm := hs a (by simp)
    have := List.length_erase_of_mem hm
    have := List.length_pos_of_mem hm
    simp only [List.length_cons]; omega
theorem nodup_allS (w : Walk) : (allS w).Nodup := by
  refine (all_pw w).imp fun {x y} h e => ?_
  subst e
  rcases h with h | ⟨_, h | ⟨_, _, h⟩⟩ <;> omega
theorem Turned.len1 (h : Turned A B s t) (hd : DD A) : (allS A).length ≤ (allS B).length := by
  have := sub_len (l := (allS A).map (renR s)) (m := allS B) ?_ ?_
  · simpa using this
  · unfold List.Nodup
    rw [List.pairwise_map]
    exact (nodup_allS A).imp_of_mem fun {x y} hx hy hne e => hne (by rw [← (h.all hd hx).2, ← (h.all hd hy).2, e])
  · intro x hx
    obtain ⟨y, hy, rfl⟩ := List.mem_map.1 hx
    exact (h.all hd hy).1
theorem Turned.len (h : Turned A B s t) (hd : DD A) : (allS A).length = (allS B).length := Nat.le_antisymm (h.len1 hd) (h.symm.len1 (h.dd hd))
theorem Turned.expl (h : Turned A B s t) (hd : DD A) : (explainR A).2 = (explainR B).2 ∧ (explainR A).1.length = (explainR B).1.length ∧ ∀ x ∈ (explainR A).1, x ∈ allS A ∧ renR s x ∈ (explainR B).1 := by
  have hl := h.len hd
  unfold explainR
  rw [h.walk, h.fits]
  split
  · split
    · exact ⟨rfl, rfl, fun x hx => by cases hx⟩
    · by_cases e : allS A = []
      · have e2 : allS B = [] := List.eq_nil_of_length_eq_zero (by rw [← hl, e]; rfl)
        rw [if_pos e, if_pos e2]
        exact ⟨rfl, rfl, fun x hx => by cases hx⟩
      · have e2 : ¬ allS B = [] := fun e3 => e (List.eq_nil_of_length_eq_zero (by rw [hl, e3]; rfl))
        rw [if_neg e, if_neg e2]
        exact ⟨rfl, hl, fun x hx => ⟨hx, (h.all hd hx).1⟩⟩
  · exact ⟨rfl, rfl, fun x hx => by cases hx⟩
theorem bad_rot (h : Turned A B s t) (k : Nat) : (badS A k).isSome = (badS B k).isSome := by
  have key : ∀ {A B : Walk} {s t}, Turned A B s t → badS A k = none → badS B k = none := fun {A B s t} h hb => by
    rw [bad_iff] at *
    intro x y hx hy hxk hyk
    have gx := h.h x (by rw [h.n]; exact hx)
    have gy := h.h y (by rw [h.n]; exact hy)
    rw [gx.2.2] at hxk ⊢
    rw [gy.2.2] at hyk ⊢
    have e : rt B k = rt A k := by unfold rt; rw [h.r]
    rw [e]
    exact hb _ _ gx.1 gy.1 hxk hyk
  cases h1 : badS A k with
  | none => rw [key h h1]
  | some p =>
    cases h2 : badS B k with
    | none => rw [key h.symm h2] at h1; cases h1
    | some q => rfl
theorem of_rot (h : Turned A B s t) (k : Int) : ofS A k = [] ↔ ofS B k = [] := by
  have key : ∀ {A B : Walk} {s t}, Turned A B s t → ofS A k = [] → ofS B k = [] := fun {A B s t} h hb => by
    cases ho : ofS B k with
    | nil => rfl
    | cons x r =>
      have hx := mem_ofS.1 (show x ∈ ofS B k by rw [ho]; simp)
      have gx := h.h x (by rw [h.n]; exact hx.1)
      have : t x ∈ ofS A k := mem_ofS.2 ⟨gx.1, by rw [← gx.2.2]; exact hx.2⟩
      rw [hb] at this; cases this
  exact ⟨key h, key h.symm⟩
theorem Turned.shows (h : Turned A B s t) (house day : Int) : showsR A house day = showsR B house day := by
  have e2 : (showsR A house day).2 = (showsR B house day).2 := by
    unfold showsR
    rw [h.walk, h.r, bad_rot h]
    by_cases h1 : walkB B = false
    · rw [if_pos h1, if_pos h1]
    rw [if_neg h1, if_neg h1]
    by_cases h2 : inB house 0 ((B.rates.length : Int) - 1) = false ∨ inB day 0 131072 = false
    · rw [if_pos h2, if_pos h2]
    rw [if_neg h2, if_neg h2]
    by_cases h3 : Go.Mw.ofS A house = []
    · rw [if_pos h3, if_pos ((of_rot h house).1 h3)]
    rw [if_neg h3, if_neg fun e => h3 ((of_rot h house).2 e)]
    split
    · rfl
    · rfl
  by_cases hz : (showsR A house day).2 = 0
  · have hz2 : (showsR B house day).2 = 0 := by rw [← e2]; exact hz
    have key : ∀ {A B : Walk} {s t}, Turned A B s t → (showsR A house day).2 = 0 → (showsR B house day).2 = 0 → (showsR A house day).1.lo ≤ (showsR B house day).1.lo ∧ (showsR B house day).1.hi ≤ (showsR A house day).1.hi := fun {A B s t} h ha hb => by
      have e : rt B house.toNat = rt A house.toNat := by unfold rt; rw [h.r]
      constructor
      · rw [(shows_iff ha _).1]
        intro i hi hih
        have gi := h.g i hi
        have := (shows_iff hb _).1.1 (Int.le_refl _) (s i) (by rw [← h.n]; exact gi.1) (by rw [← gi.2.2]; exact hih)
        rw [← gi.2.2, e] at this
        exact this
      · rw [(shows_iff ha _).2]
        intro i hi hih
        have gi := h.g i hi
        have := (shows_iff hb _).2.1 (Int.le_refl _) (s i) (by rw [← h.n]; exact gi.1) (by rw [← gi.2.2]; exact hih)
        rw [← gi.2.2, e] at this
        exact this
    have k1 := key h hz hz2
    have k2 := key h.symm hz2 hz
    have l1 : (showsR A house day).1.lo = (showsR B house day).1.lo := by omega
    have l2 : (showsR A house day).1.hi = (showsR B house day).1.hi := by omega
    have l3 : (showsR A house day).1 = (showsR B house day).1 := by
      cases hA : (showsR A house day).1
      cases hB : (showsR B house day).1
      rw [hA, hB] at l1 l2
      simp only at l1 l2
      rw [l1, l2]
    exact Prod.ext l3 e2
  · have hz2 : ¬ (showsR B house day).2 = 0 := by rw [← e2]; exact hz
    exact Prod.ext (by rw [(shows_err hz).1, (shows_err hz2).1]) e2
end

/-- Readings that are turned. -/
def turnL (w : Walk) (t k : Nat) : List Reading := (List.range k).map fun i => rd w ((i + t) % w.readings.length)
def turnW (w : Walk) (t : Nat) : Walk := ⟨w.rates, turnL w t w.readings.length⟩
theorem turn_zero (w : Walk) (t : Nat) : turnL w t 0 = [] := rfl
theorem turn_succ (w : Walk) (t k : Nat) : turnL w t (k + 1) = turnL w t k ++ [rd w ((k + t) % w.readings.length)] := by unfold turnL; rw [List.range_succ, List.map_append]; rfl
theorem turn_len (w : Walk) (t k : Nat) : (turnL w t k).length = k := by unfold turnL; simp
theorem rd_turn {w : Walk} {t i : Nat} (h : i < w.readings.length) : rd (turnW w t) i = rd w ((i + t) % w.readings.length) := by
  show (turnL w t w.readings.length)[i]?.getD _ = _
  unfold turnL
  simp [h]
theorem turn_rot (w : Walk) (t : Nat) : Turned (turnW w t) w (fun i => (i + t) % w.readings.length) (fun i => (i + (w.readings.length - t % w.readings.length)) % w.readings.length) := by
  have e : (turnW w t).readings.length = w.readings.length := turn_len _ _ _
  have m1 : ∀ i, i < w.readings.length → ((i + t) % w.readings.length + (w.readings.length - t % w.readings.length)) % w.readings.length = i := fun i hi => by
    have h0 := Nat.mod_lt t (show w.readings.length > 0 by omega)
    have h1 := Nat.add_mod i t w.readings.length
    rw [Nat.mod_eq_of_lt hi] at h1
    rw [h1]
    rcases Nat.lt_or_ge (i + t % w.readings.length) w.readings.length with h2 | h2
    · rw [Nat.mod_eq_of_lt h2, show i + t % w.readings.length + (w.readings.length - t % w.readings.length) = i + w.readings.length by omega, Nat.add_mod_right, Nat.mod_eq_of_lt hi]
    · have h3 : (i + t % w.readings.length) % w.readings.length = i + t % w.readings.length - w.readings.length := by
        rw [Nat.mod_eq_sub_mod h2, Nat.mod_eq_of_lt (by omega)]
      rw [h3, show i + t % w.readings.length - w.readings.length + (w.readings.length - t % w.readings.length) = i by omega, Nat.mod_eq_of_lt hi]
  have m2 : ∀ i, i < w.readings.length → ((i + (w.readings.length - t % w.readings.length)) % w.readings.length + t) % w.readings.length = i := fun i hi => by
    have h0 := Nat.mod_lt t (show w.readings.length > 0 by omega)
    rw [Nat.add_mod, Nat.mod_mod]
    rcases Nat.lt_or_ge (i + (w.readings.length - t % w.readings.length)) w.readings.length with h2 | h2
    · rw [Nat.mod_eq_of_lt h2, show i + (w.readings.length - t % w.readings.length) + t % w.readings.length = i + w.readings.length by omega, Nat.add_mod_right, Nat.mod_eq_of_lt hi]
    · have h3 : (i + (w.readings.length - t % w.readings.length)) % w.readings.length = i - t % w.readings.length := by
        rw [Nat.mod_eq_sub_mod h2]
        rw [show i + (w.readings.length - t % w.readings.length) - w.readings.length = i - t % w.readings.length by omega]
        exact Nat.mod_eq_of_lt (by omega)
      rw [h3]
      have h4 : t % w.readings.length ≤ i := by omega
      rw [show i - t % w.readings.length + t % w.readings.length = i by omega, Nat.mod_eq_of_lt hi]
  refine ⟨rfl, e, fun i hi => ?_, fun i hi => ?_⟩
  · rw [e] at hi ⊢
    exact ⟨Nat.mod_lt _ (by omega), m1 i hi, rd_turn hi⟩
  · rw [e] at hi ⊢
    refine ⟨Nat.mod_lt _ (by omega), m2 i hi, ?_⟩
    rw [rd_turn (Nat.mod_lt _ (by omega)), m2 i hi]

/-- A house more. -/
def moreW (w : Walk) : Walk := ⟨w.rates ++ [⟨0, 0⟩], w.readings⟩
theorem more_ofN (w : Walk) (h : Int) : ∀ n, ofN (moreW w) h n = ofN w h n
  | 0 => rfl
  | n + 1 => by
    have at_ : ∀ i out k, atS (moreW w) i out k = atS w i out k := fun i out k => by
      induction k with
      | zero => rfl
      | succ k ih => unfold atS; rw [ih]; rfl
    unfold ofN
    rw [more_ofN w h n]
    unfold insS
    rw [at_]
    rfl
theorem more_of (w : Walk) (h : Int) : ofS (moreW w) h = ofS w h := more_ofN w h _
theorem more_rt {w : Walk} {i : Nat} (h : i < w.rates.length) : rt (moreW w) i = rt w i := by
  unfold rt moreW
  simp only
  rw [List.getElem?_append_left h]
theorem more_walk {w : Walk} (hw : walkB w = true) (h7 : w.rates.length ≤ 7) : walkB (moreW w) = true := by
  have h := hw
  simp only [walkB, Bool.and_eq_true, List.all_eq_true, inB, decide_eq_true_eq] at h
  have hl : (moreW w).rates.length = w.rates.length + 1 := by unfold moreW; simp
  simp only [walkB, Bool.and_eq_true, List.all_eq_true, inB, decide_eq_true_eq]
  refine ⟨⟨fun s hs => ?_, fun r hr => ?_⟩, ⟨by omega, by omega⟩, h.2.2⟩
  · rcases List.mem_append.1 hs with hs | hs
    · exact h.1.1 s hs
    · rw [List.mem_singleton.1 hs]; rfl
  · have := readB_iff.1 (h.1.2 r hr)
    exact readB_iff.2 ⟨⟨by omega, by rw [hl]; omega⟩, this.2⟩
theorem more_fits {w : Walk} (hw : ∀ r ∈ w.readings, r.house < w.rates.length) : fitsS (moreW w) = fitsS w := by
  have hl : (moreW w).rates.length = w.rates.length + 1 := by unfold moreW; simp
  rw [Bool.eq_iff_iff, fits_mem, fits_mem]
  constructor
  · intro h k hk r hr q hq h1 h2
    have := h k (by omega) r hr q hq h1 h2
    rw [more_rt hk] at this
    exact this
  · intro h k hk r hr q hq h1 h2
    have := hw r hr
    have hk' : k < w.rates.length := by omega
    rw [more_rt hk']
    exact h k hk' r hr q hq h1 h2
theorem more_bef (w : Walk) (a : Nat) : befS (moreW w) a = befS w a := by
  unfold befS
  exact congrArg (befL a) (more_of w _)
theorem more_made (w : Walk) (x : Repair) : madeS (moreW w) x = (madeS w x).map moreW := by
  unfold madeS
  rw [more_bef]
  show (if inB x.a 0 ((w.readings.length : Int) - 1) = false then none else _) = _
  split
  · rfl
  split
  · show (if inB x.b (x.a + 1) ((w.readings.length : Int) - 1) = false then none else _) = _
    split
    · rfl
    show (if (rd w x.a.toNat).day ≠ (rd w x.b.toNat).day ∨ ((rd w x.a.toNat).house - (rd w x.b.toNat).house ≠ 1 ∧ (rd w x.b.toNat).house - (rd w x.a.toNat).house ≠ 1) then none else _) = _
    split
    · rfl
    · rfl
  split
  · cases befS w x.a.toNat with
    | none => rfl
    | some p =>
      show (if (rd w p).shows = (rd w x.a.toNat).shows then _ else none) = _
      simp only
      split
      · rfl
      · rfl
  split
  · show (if inB x.b 1 30 = true ∧ 0 ≤ (rd w x.a.toNat).day - x.b ∧ (∀ p, befS w x.a.toNat = some p → (rd w p).day < (rd w x.a.toNat).day - x.b) then _ else none) = _
    split
    · rfl
    · rfl
  · rfl
theorem more_works {w : Walk} (hw : walkB w = true) (x : Repair) : worksS (moreW w) x = worksS w x := by
  unfold worksS
  rw [more_made]
  cases hm : madeS w x with
  | none => rfl
  | some m =>
    have h1 := made_ok hw hm
    exact more_fits fun r hr => by
      have := readB_iff.1 (readB_mem h1.1 hr)
      omega
theorem more_all {w : Walk} (hw : walkB w = true) : allS (moreW w) = allS w := by
  have e : (fun x => worksS (moreW w) x) = worksS w := funext (more_works hw)
  have e' : worksS (moreW w) = worksS w := e
  have h1 : ∀ a j, swB (moreW w) a j = swB w a j := fun a j => by unfold swB; rw [e']
  have h2 : ∀ a j, ltD (moreW w) a j = ltD w a j := fun a j => by unfold ltD; rw [e']
  have h3 : swA (moreW w) = swA w := funext fun a => h1 a _
  have h4 : ltA (moreW w) = ltA w := funext fun a => by unfold ltA; rw [h2]
  unfold allS swN cpN ltN
  rw [h3, h4, e']
  rfl
theorem more_expl {w : Walk} (hw : walkB w = true) (h7 : w.rates.length ≤ 7) : explainR (moreW w) = explainR w := by
  unfold explainR
  rw [more_walk hw h7, hw, more_fits, more_all hw]
  intro r hr
  have := readB_iff.1 (readB_mem hw hr)
  omega
theorem more_bad {w : Walk} {i : Nat} (h : i < w.rates.length) : badS (moreW w) i = badS w i := by
  unfold badS
  rw [more_rt h, more_of]
  have key : ∀ l : List Nat, badL (moreW w) (rt w i) l = badL w (rt w i) l := fun l => by
    induction l with
    | nil => rfl
    | cons a l ih =>
      cases l with
      | nil => rfl
      | cons b l =>
        unfold badL
        rw [ih]
        rfl
  exact key _
theorem more_shows {w : Walk} (hw : walkB w = true) (h7 : w.rates.length ≤ 7) {house : Int} (hh : house < w.rates.length) (day : Int) : showsR (moreW w) house day = showsR w house day := by
  have hl : (moreW w).rates.length = w.rates.length + 1 := by unfold moreW; simp
  unfold showsR
  rw [more_walk hw h7, hw, more_of, hl]
  rw [if_neg (show ¬ true = false by decide), if_neg (show ¬ true = false by decide)]
  by_cases h0 : 0 ≤ house
  · have e1 : inB house 0 (((w.rates.length + 1 : Nat) : Int) - 1) = true := inB_iff.2 ⟨by omega, by omega⟩
    have e2 : inB house 0 ((w.rates.length : Int) - 1) = true := inB_iff.2 ⟨by omega, by omega⟩
    rw [e1, e2, more_bad (by omega), more_rt (by omega)]
    have key : ∀ (s : Span) (l : List Nat) k, shF (moreW w) s day l k = shF w s day l k := fun s l k => by
      induction k with
      | zero => rfl
      | succ k ih => unfold shF; rw [ih]; rfl
    rw [key]
  · have e1 : inB house 0 (((w.rates.length + 1 : Nat) : Int) - 1) = false := inB_not.2 (.inl (by omega))
    have e2 : inB house 0 ((w.rates.length : Int) - 1) = false := inB_not.2 (.inl (by omega))
    rw [if_pos (.inl e1), if_pos (.inl e2)]
end Go.Mw
namespace Go.Mw
open Go.Proofs
attribute [local go_sem] decide_true beq_self_eq_true bne_self_eq_false
/-- Two repairs, field by field. -/
def eqR (x y : Repair) : Bool := (x.kind == y.kind) && ((x.a == y.a) && ((x.b == y.b) && ((x.c == y.c) && true)))
theorem eqR_self (x : Repair) : eqR x x = true := by unfold eqR; simp
theorem any_takeE {p : Repair → Bool} {l : List Repair} {k : Nat} {x : Repair} (h : l[k]? = some x) : (l.take (k + 1)).any p = ((l.take k).any p || p x) := by
  rw [take_succ' h, List.any_append]; simp
theorem any_eqR {x : Repair} {l : List Repair} (h : x ∈ l) : (l.take l.length).any (eqR x) = true := by
  rw [List.take_length, List.any_eq_true]
  exact ⟨x, h, eqR_self x⟩
theorem tmod_nn (a b : Nat) : ((a : Int) + (b : Int)) = ((a + b : Nat) : Int) := (Int.natCast_add a b).symm
theorem min_nn (a b : Nat) : pick2 true (a : Int) (b : Int) = ((min a b : Nat) : Int) := by unfold pick2; simp only [cond_true]; split <;> omega
theorem max_nn (a b : Nat) : pick2 false (a : Int) (b : Int) = ((max a b : Nat) : Int) := by unfold pick2; simp only [cond_false]; split <;> omega
/-- What is known of a repair. -/
theorem all_in {w : Walk} {x : Repair} (h : x ∈ allS w) : ∃ a b c : Nat, x = ⟨x.kind, a, b, c⟩ ∧ a < w.readings.length ∧ (x.kind = 0 → b < w.readings.length) := by
  rcases mem_allS.1 h with ⟨a, b, h1, h2, _, rfl⟩ | ⟨a, h1, _, rfl⟩ | ⟨a, h1, hx⟩
  · exact ⟨a, b, 0, rfl, by omega, fun _ => h2⟩
  · exact ⟨a, 0, 0, rfl, h1, fun h => by simp at h⟩
  · unfold ltA at hx
    split at hx
    · cases hx
    · rename_i d r hd
      rw [List.mem_singleton.1 hx]
      obtain ⟨e, _, he⟩ := lastI_pos (l := d :: r) (by simp)
      exact ⟨a, d, e, by rw [he], h1, fun h => by simp at h⟩
set_option maxRecDepth 20000 in
set_option maxHeartbeats 64000000 in
/-- meterworks/meterworkslaw12.CardOrder -/
theorem c_law_CardOrder (w : Walk) (house day : Int) (tN : Nat) (b3 : tN ≤ 255) : Contract Try.prog 10 [walkV w, .int house, .int day, .raw (.int .u8 (tN : Int))] (.bool true) [] := by
  rcases (show greatB w 16 = true ∨ (greatB w 16 = false ∧ walkB w = false) ∨ (greatB w 16 = false ∧ walkB w = true ∧ 8 ≤ w.rates.length) ∨ (greatB w 16 = false ∧ walkB w = true ∧ w.rates.length ≤ 7) from by
      cases greatB w 16 <;> cases walkB w <;> simp <;> omega) with hg | ⟨hg, hw⟩ | ⟨hg, hw, h8⟩ | ⟨hg, hw, h7⟩
  · skip
    refine con_of follows_mixed Try.func10 rfl (by simp only [List.length_cons, List.length_nil, Try.ntmps10]; omega) (by kernel_rfl) rfl ?_
    refine Exec.reg ?_
    iterate 2 (refine Run.op (by simp only [go_sem] <;> rfl) (by simp only [go_sem] <;> rfl) ?_)
    refine Run.nil ?_
    refine Exec.assocS ?_
    refine Exec.reg ?_
    refine Run.op (by simp only [go_sem, hg] <;> rfl) (by simp only [go_sem] <;> rfl) ?_
    refine Run.cal (c_law_great w 16) (by simp only [go_sem]) (by simp only [go_sem, hg] <;> rfl) (by exact ⟨by first | exact WkR.pure rfl | exact WkR.nil _ | exact WkR.int (by first | omega | (simp; done) | (simp; omega)), by first | exact WkR.pure rfl | exact WkR.nil _ | exact WkR.int (by first | omega | (simp; done) | (simp; omega)), trivial⟩) (fr0) (by simp only [go_sem, hg] <;> rfl) ?_
    refine Run.op (by simp only [go_sem, hg] <;> rfl) (by simp only [go_sem] <;> rfl) ?_
    iterate 3 (refine Run.skp (by simp only [go_sem] <;> rfl) (by simp only [go_sem] <;> rfl) ?_)
    iterate 2 (refine Run.op (by simp only [go_sem, hg] <;> rfl) (by simp only [go_sem] <;> rfl) ?_)
    iterate 4 (refine Run.skp (by simp only [go_sem] <;> rfl) (by simp only [go_sem] <;> rfl) ?_)
    refine Run.op (by simp only [go_sem, hg] <;> rfl) (by simp only [go_sem] <;> rfl) ?_
    refine Run.nil ?_
    refine Exec.cndS (by simp only [go_sem, hg] <;> rfl) (fun hb46 => ?_) (fun hb46 => ?_)
    · skip
      refine Exec.assocS ?_
      refine Exec.reg ?_
      refine Run.cal (c_law_alive) (by simp only [go_sem]) (by simp only [go_sem, hg] <;> rfl) (by exact trivial) (fr0) (by simp only [go_sem, hg] <;> rfl) ?_
      refine Run.op (by simp only [go_sem] <;> rfl) (by simp only [go_sem] <;> rfl) ?_
      refine Run.nil ?_
      refine Exec.retS ?_
      exact Ends.fin [] (rs := [.tmp 8]) rfl (by simp only [go_sem, hg] <;> rfl) (by simp only [go_sem, hg] <;> first | rfl | ((repeat' (first | with_reducible_and_instances rfl | refine st_eq ?_ ?_ ?_ | refine ret_eq ?_ | refine tup_eq ?_ | refine tm_eq ?_ ?_ | refine arr_eq ?_ | refine cells_eq ?_ | refine val_eq ?_ | refine ls_eq ?_ ?_ | refine own_eq ?_ ?_ | refine sl_eq ?_ | refine b_eq ?_ | (refine i_eq ?_; omega))); done))
    · exact absurd hb46 (by simp)
  · skip
    have hgn := great_no hg
    have h1 : w.rates.length ≤ 1000 := by omega
    refine con_of follows_mixed Try.func10 rfl (by simp only [List.length_cons, List.length_nil, Try.ntmps10]; omega) (by kernel_rfl) rfl ?_
    refine Exec.reg ?_
    iterate 2 (refine Run.op (by simp only [go_sem] <;> rfl) (by simp only [go_sem] <;> rfl) ?_)
    refine Run.nil ?_
    refine Exec.assocS ?_
    refine Exec.reg ?_
    refine Run.op (by simp only [go_sem, hg, hw, Bool.not_false] <;> rfl) (by simp only [go_sem] <;> rfl) ?_
    refine Run.cal (c_law_great w 16) (by simp only [go_sem]) (by simp only [go_sem, hg, hw, Bool.not_false] <;> rfl) (by exact ⟨by first | exact WkR.pure rfl | exact WkR.nil _ | exact WkR.int (by first | omega | (simp; done) | (simp; omega)), by first | exact WkR.pure rfl | exact WkR.nil _ | exact WkR.int (by first | omega | (simp; done) | (simp; omega)), trivial⟩) (fr0) (by simp only [go_sem, hg, hw, Bool.not_false] <;> rfl) ?_
    refine Run.op (by simp only [go_sem, hg, hw, Bool.not_false] <;> rfl) (by simp only [go_sem] <;> rfl) ?_
    refine Run.yes (by simp only [go_sem] <;> rfl) (by simp only [go_sem, hg, hw, Bool.not_false] <;> rfl) (by simp only [go_sem] <;> rfl) ?_
    refine Run.calw (by simp only [go_sem] <;> rfl) (c_meterworksref12_Walk w h1 (by omega)) (by simp only [go_sem]) (by simp only [go_sem, hg, hw, Bool.not_false] <;> rfl) (by simp only [go_sem, hg, hw, Bool.not_false] <;> rfl) (by exact ⟨by first | exact WkR.pure rfl | exact WkR.nil _ | exact WkR.int (by first | omega | (simp; done) | (simp; omega)), trivial⟩) (fr0) (by simp only [go_sem, hg, hw, Bool.not_false] <;> rfl) ?_
    refine Run.yes (by simp only [go_sem] <;> rfl) (by simp only [go_sem, hg, hw, Bool.not_false] <;> rfl) (by simp only [go_sem] <;> rfl) ?_
    iterate 2 (refine Run.op (by simp only [go_sem, hg, hw, Bool.not_false] <;> rfl) (by simp only [go_sem] <;> rfl) ?_)
    iterate 4 (refine Run.skp (by simp only [go_sem] <;> rfl) (by simp only [go_sem] <;> rfl) ?_)
    refine Run.op (by simp only [go_sem, hg, hw, Bool.not_false] <;> rfl) (by simp only [go_sem] <;> rfl) ?_
    refine Run.nil ?_
    refine Exec.cndS (by simp only [go_sem, hg, hw, Bool.not_false] <;> rfl) (fun hb46 => ?_) (fun hb46 => ?_)
    · skip
      refine Exec.assocS ?_
      refine Exec.reg ?_
      refine Run.cal (c_law_alive) (by simp only [go_sem]) (by simp only [go_sem, hg, hw, Bool.not_false] <;> rfl) (by exact trivial) (fr0) (by simp only [go_sem, hg, hw, Bool.not_false] <;> rfl) ?_
      refine Run.op (by simp only [go_sem] <;> rfl) (by simp only [go_sem] <;> rfl) ?_
      refine Run.nil ?_
      refine Exec.retS ?_
      exact Ends.fin [] (rs := [.tmp 8]) rfl (by simp only [go_sem, hg, hw, Bool.not_false] <;> rfl) (by simp only [go_sem, hg, hw, Bool.not_false] <;> first | rfl | ((repeat' (first | with_reducible_and_instances rfl | refine st_eq ?_ ?_ ?_ | refine ret_eq ?_ | refine tup_eq ?_ | refine tm_eq ?_ ?_ | refine arr_eq ?_ | refine cells_eq ?_ | refine val_eq ?_ | refine ls_eq ?_ ?_ | refine own_eq ?_ ?_ | refine sl_eq ?_ | refine b_eq ?_ | (refine i_eq ?_; omega))); done))
    · exact absurd hb46 (by simp)
  · skip
    have hgn := great_no hg
    have h1 : w.rates.length ≤ 1000 := by omega
    have g8 : decide ((w.rates.length : Int) ≥ 8) = true := decide_eq_true (by omega)
    refine con_of follows_mixed Try.func10 rfl (by simp only [List.length_cons, List.length_nil, Try.ntmps10]; omega) (by kernel_rfl) rfl ?_
    refine Exec.reg ?_
    iterate 2 (refine Run.op (by simp only [go_sem] <;> rfl) (by simp only [go_sem] <;> rfl) ?_)
    refine Run.nil ?_
    refine Exec.assocS ?_
    refine Exec.reg ?_
    refine Run.op (by simp only [go_sem, hg, hw, Bool.not_true, g8] <;> rfl) (by simp only [go_sem] <;> rfl) ?_
    refine Run.cal (c_law_great w 16) (by simp only [go_sem]) (by simp only [go_sem, hg, hw, Bool.not_true, g8] <;> rfl) (by exact ⟨by first | exact WkR.pure rfl | exact WkR.nil _ | exact WkR.int (by first | omega | (simp; done) | (simp; omega)), by first | exact WkR.pure rfl | exact WkR.nil _ | exact WkR.int (by first | omega | (simp; done) | (simp; omega)), trivial⟩) (fr0) (by simp only [go_sem, hg, hw, Bool.not_true, g8] <;> rfl) ?_
    refine Run.op (by simp only [go_sem, hg, hw, Bool.not_true, g8] <;> rfl) (by simp only [go_sem] <;> rfl) ?_
    refine Run.yes (by simp only [go_sem] <;> rfl) (by simp only [go_sem, hg, hw, Bool.not_true, g8] <;> rfl) (by simp only [go_sem] <;> rfl) ?_
    refine Run.calw (by simp only [go_sem] <;> rfl) (c_meterworksref12_Walk w h1 (by omega)) (by simp only [go_sem]) (by simp only [go_sem, hg, hw, Bool.not_true, g8] <;> rfl) (by simp only [go_sem, hg, hw, Bool.not_true, g8] <;> rfl) (by exact ⟨by first | exact WkR.pure rfl | exact WkR.nil _ | exact WkR.int (by first | omega | (simp; done) | (simp; omega)), trivial⟩) (fr0) (by simp only [go_sem, hg, hw, Bool.not_true, g8] <;> rfl) ?_
    refine Run.yes (by simp only [go_sem] <;> rfl) (by simp only [go_sem, hg, hw, Bool.not_true, g8] <;> rfl) (by simp only [go_sem] <;> rfl) ?_
    iterate 2 (refine Run.op (by simp only [go_sem, hg, hw, Bool.not_true, g8] <;> rfl) (by simp only [go_sem] <;> rfl) ?_)
    refine Run.yes (by simp only [go_sem] <;> rfl) (by simp only [go_sem] <;> rfl) (by simp only [go_sem] <;> rfl) ?_
    iterate 3 (refine Run.yes (by simp only [go_sem] <;> rfl) (by simp only [go_sem, hg, hw, Bool.not_true, g8] <;> rfl) (by simp only [go_sem] <;> rfl) ?_)
    refine Run.op (by simp only [go_sem, hg, hw, Bool.not_true, g8] <;> rfl) (by simp only [go_sem] <;> rfl) ?_
    refine Run.nil ?_
    refine Exec.cndS (by simp only [go_sem, hg, hw, Bool.not_true, g8] <;> rfl) (fun hb46 => ?_) (fun hb46 => ?_)
    · skip
      refine Exec.assocS ?_
      refine Exec.reg ?_
      refine Run.cal (c_law_alive) (by simp only [go_sem]) (by simp only [go_sem, hg, hw, Bool.not_true, g8] <;> rfl) (by exact trivial) (fr0) (by simp only [go_sem, hg, hw, Bool.not_true, g8] <;> rfl) ?_
      refine Run.op (by simp only [go_sem] <;> rfl) (by simp only [go_sem] <;> rfl) ?_
      refine Run.nil ?_
      refine Exec.retS ?_
      exact Ends.fin [] (rs := [.tmp 8]) rfl (by simp only [go_sem, hg, hw, Bool.not_true, g8] <;> rfl) (by simp only [go_sem, hg, hw, Bool.not_true, g8] <;> first | rfl | ((repeat' (first | with_reducible_and_instances rfl | refine st_eq ?_ ?_ ?_ | refine ret_eq ?_ | refine tup_eq ?_ | refine tm_eq ?_ ?_ | refine arr_eq ?_ | refine cells_eq ?_ | refine val_eq ?_ | refine ls_eq ?_ ?_ | refine own_eq ?_ ?_ | refine sl_eq ?_ | refine b_eq ?_ | (refine i_eq ?_; omega))); done))
    · exact absurd hb46 (by simp)
  · skip
    have hgn := great_no hg
    have h1 : w.rates.length ≤ 1000 := by omega
    have hn24 := (walk_len hw).2.2
    have h2 : w.readings.length ≤ 1000 := by omega
    have h20 : walkB w = true → ∀ h, (ofS w h).length ≤ 39 := fun _ => h20_of (by omega)
    have g8 : decide ((w.rates.length : Int) ≥ 8) = false := decide_eq_false (by omega)
    have hme := more_expl hw h7
    have hml : (moreW w).rates.length = w.rates.length + 1 := by unfold moreW; simp
    have hmr : (moreW w).readings = w.readings := rfl
    have htk : List.take (w.rates.length + 1) (List.map encSpan w.rates ++ [[D.i 0, D.i 0]]) = (moreW w).rates.map encSpan := by
      unfold moreW
      rw [List.map_append]
      exact List.take_of_length_le (by simp)
    obtain ⟨lw, hlw⟩ : ∃ l, (explainR w).1 = l := ⟨_, rfl⟩
    have hlwl : lw.length ≤ 1000 := by rw [← hlw]; exact len_expl w
    refine con_of follows_mixed Try.func10 rfl (by simp only [List.length_cons, List.length_nil, Try.ntmps10]; omega) (by kernel_rfl) rfl ?_
    refine Exec.reg ?_
    iterate 2 (refine Run.op (by simp only [go_sem] <;> rfl) (by simp only [go_sem] <;> rfl) ?_)
    refine Run.nil ?_
    refine Exec.assocS ?_
    refine Exec.reg ?_
    refine Run.op (by simp only [go_sem, hg, hw, Bool.not_true, g8, hme, hlw] <;> rfl) (by simp only [go_sem] <;> rfl) ?_
    refine Run.cal (c_law_great w 16) (by simp only [go_sem]) (by simp only [go_sem, hg, hw, Bool.not_true, g8, hme, hlw] <;> rfl) (by exact ⟨by first | exact WkR.pure rfl | exact WkR.nil _ | exact WkR.int (by first | omega | (simp; done) | (simp; omega)), by first | exact WkR.pure rfl | exact WkR.nil _ | exact WkR.int (by first | omega | (simp; done) | (simp; omega)), trivial⟩) (fr0) (by simp only [go_sem, hg, hw, Bool.not_true, g8, hme, hlw] <;> rfl) ?_
    refine Run.op (by simp only [go_sem, hg, hw, Bool.not_true, g8, hme, hlw] <;> rfl) (by simp only [go_sem] <;> rfl) ?_
    refine Run.yes (by simp only [go_sem] <;> rfl) (by simp only [go_sem, hg, hw, Bool.not_true, g8, hme, hlw] <;> rfl) (by simp only [go_sem] <;> rfl) ?_
    refine Run.calw (by simp only [go_sem] <;> rfl) (c_meterworksref12_Walk w h1 (by omega)) (by simp only [go_sem]) (by simp only [go_sem, hg, hw, Bool.not_true, g8, hme, hlw] <;> rfl) (by simp only [go_sem, hg, hw, Bool.not_true, g8, hme, hlw] <;> rfl) (by exact ⟨by first | exact WkR.pure rfl | exact WkR.nil _ | exact WkR.int (by first | omega | (simp; done) | (simp; omega)), trivial⟩) (fr0) (by simp only [go_sem, hg, hw, Bool.not_true, g8, hme, hlw] <;> rfl) ?_
    refine Run.yes (by simp only [go_sem] <;> rfl) (by simp only [go_sem, hg, hw, Bool.not_true, g8, hme, hlw] <;> rfl) (by simp only [go_sem] <;> rfl) ?_
    iterate 2 (refine Run.op (by simp only [go_sem, hg, hw, Bool.not_true, g8, hme, hlw] <;> rfl) (by simp only [go_sem] <;> rfl) ?_)
    refine Run.yes (by simp only [go_sem] <;> rfl) (by simp only [go_sem] <;> rfl) (by simp only [go_sem] <;> rfl) ?_
    iterate 3 (refine Run.yes (by simp only [go_sem] <;> rfl) (by simp only [go_sem, hg, hw, Bool.not_true, g8, hme, hlw] <;> rfl) (by simp only [go_sem] <;> rfl) ?_)
    refine Run.op (by simp only [go_sem, hg, hw, Bool.not_true, g8, hme, hlw] <;> rfl) (by simp only [go_sem] <;> rfl) ?_
    refine Run.nil ?_
    refine Exec.cndS (by simp only [go_sem, hg, hw, Bool.not_true, g8, hme, hlw] <;> rfl) (fun hb46 => ?_) (fun hb46 => ?_)
    · exact absurd hb46 (by simp)
    refine Exec.skipS ?_
    refine Exec.reg ?_
    refine Run.op (by simp only [go_sem, hg, hw, Bool.not_true, g8, hme, hlw] <;> rfl) (by simp only [go_sem] <;> rfl) ?_
    refine Run.cal (c_card_Explain w h1 h2 h20) (by simp only [go_sem]) (by simp only [go_sem, hg, hw, Bool.not_true, g8, hme, hlw] <;> rfl) (by exact ⟨by first | exact WkR.pure rfl | exact WkR.nil _ | exact WkR.int (by first | omega | (simp; done) | (simp; omega)), trivial⟩) (fr0) (by simp only [go_sem, hg, hw, Bool.not_true, g8, hme, hlw] <;> rfl) ?_
    refine Run.op (by simp only [go_sem] <;> rfl) (by simp only [go_sem] <;> rfl) ?_
    iterate 2 (refine Run.op (by simp only [go_sem, hg, hw, Bool.not_true, g8, hme, hlw] <;> rfl) (by simp only [go_sem] <;> rfl) ?_)
    iterate 2 (refine Run.op (by simp only [go_sem] <;> rfl) (by simp only [go_sem] <;> rfl) ?_)
    refine Run.nil ?_
    refine Exec.reg ?_
    refine Run.op (by simp only [go_sem, hg, hw, Bool.not_true, g8, hme, hlw] <;> rfl) (by simp only [go_sem] <;> rfl) ?_
    iterate 2 (refine Run.op (by simp only [go_sem] <;> rfl) (by simp only [go_sem] <;> rfl) ?_)
    refine Run.cal (c_card_Shows w house day h1 h2 h20) (by simp only [go_sem]) (by simp only [go_sem, hg, hw, Bool.not_true, g8, hme, hlw] <;> rfl) (by exact ⟨by first | exact WkR.pure rfl | exact WkR.nil _ | exact WkR.int (by first | omega | (simp; done) | (simp; omega)), by first | exact WkR.pure rfl | exact WkR.nil _ | exact WkR.int (by first | omega | (simp; done) | (simp; omega)), by first | exact WkR.pure rfl | exact WkR.nil _ | exact WkR.int (by first | omega | (simp; done) | (simp; omega)), trivial⟩) (fr0) (by simp only [go_sem, hg, hw, Bool.not_true, g8, hme, hlw] <;> rfl) ?_
    refine Run.op (by simp only [go_sem] <;> rfl) (by simp only [go_sem] <;> rfl) ?_
    iterate 2 (refine Run.op (by simp only [go_sem, hg, hw, Bool.not_true, g8, hme, hlw] <;> rfl) (by simp only [go_sem] <;> rfl) ?_)
    iterate 3 (refine Run.op (by simp only [go_sem] <;> rfl) (by simp only [go_sem] <;> rfl) ?_)
    refine Run.nil ?_
    refine Exec.reg ?_
    refine Run.op (by simp only [go_sem, hg, hw, Bool.not_true, g8, hme, hlw] <;> rfl) (by simp only [go_sem] <;> rfl) ?_
    iterate 2 (refine Run.op (by simp only [go_sem] <;> rfl) (by simp only [go_sem] <;> rfl) ?_)
    refine Run.nil ?_
    refine Exec.reg ?_
    refine Run.op (by simp only [go_sem, hg, hw, Bool.not_true, g8, hme, hlw] <;> rfl) (by simp only [go_sem] <;> rfl) ?_
    refine Run.op (by simp only [go_sem] <;> rfl) (by simp only [go_sem] <;> rfl) ?_
    refine Run.op (by simp only [go_sem, hg, hw, Bool.not_true, g8, hme, hlw] <;> rfl) (by simp only [go_sem] <;> rfl) ?_
    refine Run.op (by simp only [go_sem, hg, hw, Bool.not_true, g8, hme, hlw]; (try simp (disch := omega) only [if_pos]); (try simp only [go_sem, hg, hw, Bool.not_true, g8, hme, hlw]) <;> first | (refine ite_run ⟨by (try simp only [List.length_append, List.length_drop, List.length_take, List.length_map, List.length_cons, List.length_nil, List.length_replicate, List.length_set, List.length_range, Nat.zero_add]); omega, by (try simp only [List.length_append, List.length_drop, List.length_take, List.length_map, List.length_cons, List.length_nil, List.length_replicate, List.length_set, List.length_range, Nat.zero_add]); omega, by repeat (first | exact al_nil | assumption | refine al_app ?_ ?_ | refine al_drop ?_ | refine al_take ?_ | exact al_map (fun _ => rfl) | exact al_rep rfl | refine al_cons rfl ?_)⟩ ?_; simp only [go_sem, hg, hw, Bool.not_true, g8, hme, hlw] <;> rfl) | (refine ite_run ⟨by (try simp only [List.length_append, List.length_drop, List.length_take, List.length_map, List.length_cons, List.length_nil, List.length_replicate, List.length_set, List.length_range, Nat.zero_add]); omega, by repeat (first | exact al_nil | assumption | refine al_app ?_ ?_ | refine al_drop ?_ | refine al_take ?_ | exact al_map (fun _ => rfl) | exact al_rep rfl | refine al_cons rfl ?_)⟩ ?_; simp only [go_sem, hg, hw, Bool.not_true, g8, hme, hlw] <;> rfl) | rfl) (by simp only [go_sem] <;> rfl) ?_
    refine Run.cal (c_law_span _ _) (by simp only [go_sem]) (by simp only [go_sem, hg, hw, Bool.not_true, g8, hme, hlw] <;> rfl) (by exact ⟨by first | exact WkR.pure rfl | exact WkR.nil _ | exact WkR.int (by first | omega | (simp; done) | (simp; omega)), by first | exact WkR.pure rfl | exact WkR.nil _ | exact WkR.int (by first | omega | (simp; done) | (simp; omega)), trivial⟩) (fr0) (by simp only [go_sem, hg, hw, Bool.not_true, g8, hme, hlw] <;> rfl) ?_
    refine Run.op (by simp only [go_sem, hg, hw, Bool.not_true, g8, hme, hlw] <;> rfl) (by simp only [go_sem] <;> rfl) ?_
    refine Run.op (by simp only [go_sem, hg, hw, Bool.not_true, g8, hme, hlw]; (try simp (disch := omega) only [if_pos]); (try simp only [go_sem, hg, hw, Bool.not_true, g8, hme, hlw]) <;> first | (refine ite_run ⟨by (try simp only [List.length_append, List.length_drop, List.length_take, List.length_map, List.length_cons, List.length_nil, List.length_replicate, List.length_set, List.length_range, Nat.zero_add]); omega, by (try simp only [List.length_append, List.length_drop, List.length_take, List.length_map, List.length_cons, List.length_nil, List.length_replicate, List.length_set, List.length_range, Nat.zero_add]); omega, by repeat (first | exact al_nil | assumption | refine al_app ?_ ?_ | refine al_drop ?_ | refine al_take ?_ | exact al_map (fun _ => rfl) | exact al_rep rfl | refine al_cons rfl ?_)⟩ ?_; simp only [go_sem, hg, hw, Bool.not_true, g8, hme, hlw] <;> rfl) | (refine ite_run ⟨by (try simp only [List.length_append, List.length_drop, List.length_take, List.length_map, List.length_cons, List.length_nil, List.length_replicate, List.length_set, List.length_range, Nat.zero_add]); omega, by repeat (first | exact al_nil | assumption | refine al_app ?_ ?_ | refine al_drop ?_ | refine al_take ?_ | exact al_map (fun _ => rfl) | exact al_rep rfl | refine al_cons rfl ?_)⟩ ?_; simp only [go_sem, hg, hw, Bool.not_true, g8, hme, hlw] <;> rfl) | rfl) (by simp only [go_sem] <;> rfl) ?_
    iterate 2 (refine Run.op (by simp only [go_sem] <;> rfl) (by simp only [go_sem] <;> rfl) ?_)
    refine Run.nil ?_
    refine Exec.reg ?_
    refine Run.frz 61 (by simp only [go_sem, htk] <;> rfl) ?_
    refine Run.op (by simp only [go_sem, hg, hw, Bool.not_true, g8, hme, hlw] <;> rfl) (by simp only [go_sem] <;> rfl) ?_
    refine Run.cal (c_card_Explain (moreW w) (by omega) (by rw [hmr]; omega) (fun _ => h20_of (by rw [hmr]; omega))) (by simp only [go_sem]) (by simp only [go_sem, hg, hw, Bool.not_true, g8, hme, hlw] <;> rfl) (by exact ⟨by first | exact WkR.pure rfl | exact WkR.nil _ | exact WkR.int (by first | omega | (simp; done) | (simp; omega)), trivial⟩) (fr0) (by simp only [go_sem, hg, hw, Bool.not_true, g8, hme, hlw] <;> rfl) ?_
    refine Run.op (by simp only [go_sem] <;> rfl) (by simp only [go_sem] <;> rfl) ?_
    iterate 2 (refine Run.op (by simp only [go_sem, hg, hw, Bool.not_true, g8, hme, hlw] <;> rfl) (by simp only [go_sem] <;> rfl) ?_)
    iterate 2 (refine Run.op (by simp only [go_sem] <;> rfl) (by simp only [go_sem] <;> rfl) ?_)
    refine Run.nil ?_
    refine Exec.assocS ?_
    refine Exec.reg ?_
    iterate 2 (refine Run.op (by simp only [go_sem] <;> rfl) (by simp only [go_sem] <;> rfl) ?_)
    refine Run.cal (c_meterworksref12_Repairs lw lw hlwl hlwl) (by simp only [go_sem]) (by simp only [go_sem, hg, hw, Bool.not_true, g8, hme, hlw] <;> rfl) (by exact ⟨by first | exact WkR.pure rfl | exact WkR.nil _ | exact WkR.int (by first | omega | (simp; done) | (simp; omega)), by first | exact WkR.pure rfl | exact WkR.nil _ | exact WkR.int (by first | omega | (simp; done) | (simp; omega)), trivial⟩) (fr0) (by simp only [go_sem, hg, hw, Bool.not_true, g8, hme, hlw] <;> rfl) ?_
    iterate 2 (refine Run.op (by simp only [go_sem, hg, hw, Bool.not_true, g8, hme, hlw] <;> rfl) (by simp only [go_sem] <;> rfl) ?_)
    iterate 2 (refine Run.yes (by simp only [go_sem] <;> rfl) (by simp only [go_sem] <;> rfl) (by simp only [go_sem] <;> rfl) ?_)
    refine Run.yes (by simp only [go_sem] <;> rfl) (by simp only [go_sem, hg, hw, Bool.not_true, g8, hme, hlw] <;> rfl) (by simp only [go_sem] <;> rfl) ?_
    refine Run.op (by simp only [go_sem, hg, hw, Bool.not_true, g8, hme, hlw] <;> rfl) (by simp only [go_sem] <;> rfl) ?_
    refine Run.nil ?_
    refine Exec.cndS (by simp only [go_sem, hg, hw, Bool.not_true, g8, hme, hlw] <;> rfl) (fun hb82 => ?_) (fun hb82 => ?_)
    · exact absurd hb82 (by simp)
    refine Exec.skipS ?_
    refine Exec.assocS ?_
    refine Exec.reg ?_
    iterate 2 (refine Run.op (by simp only [go_sem] <;> rfl) (by simp only [go_sem] <;> rfl) ?_)
    iterate 3 (refine Run.op (by simp only [go_sem, hg, hw, Bool.not_true, g8, hme, hlw] <;> rfl) (by simp only [go_sem] <;> rfl) ?_)
    refine Run.nil ?_
    refine Exec.joinA [1, 2, 3, 4, 9, 10, 11, 12] [4, 11] (fun (u1 : Unit) => []) (fun (u1 : Unit) => True) (fun u1 => by simp only [go_sem] <;> rfl) ?_ (fun u1 hj => ?_)
    · skip
      refine Exec.cnd (by simp only [go_sem, hg, hw, Bool.not_true, g8, hme, hlw] <;> rfl) (fun hb87 => ?_) (fun hb87 => ?_)
      · skip
        have hh : house < w.rates.length := of_decide_eq_true hb87
        have hms := more_shows hw h7 hh day
        refine Exec.reg ?_
        refine Run.op (by simp only [go_sem, hg, hw, Bool.not_true, g8, hme, hlw, hms] <;> rfl) (by simp only [go_sem] <;> rfl) ?_
        iterate 2 (refine Run.op (by simp only [go_sem] <;> rfl) (by simp only [go_sem] <;> rfl) ?_)
        refine Run.cal (c_card_Shows (moreW w) house day (by omega) (by rw [hmr]; omega) (fun _ => h20_of (by rw [hmr]; omega))) (by simp only [go_sem]) (by simp only [go_sem, hg, hw, Bool.not_true, g8, hme, hlw, hms] <;> rfl) (by exact ⟨by first | exact WkR.pure rfl | exact WkR.nil _ | exact WkR.int (by first | omega | (simp; done) | (simp; omega)), by first | exact WkR.pure rfl | exact WkR.nil _ | exact WkR.int (by first | omega | (simp; done) | (simp; omega)), by first | exact WkR.pure rfl | exact WkR.nil _ | exact WkR.int (by first | omega | (simp; done) | (simp; omega)), trivial⟩) (fr0) (by simp only [go_sem, hg, hw, Bool.not_true, g8, hme, hlw, hms] <;> rfl) ?_
        refine Run.op (by simp only [go_sem] <;> rfl) (by simp only [go_sem] <;> rfl) ?_
        iterate 2 (refine Run.op (by simp only [go_sem, hg, hw, Bool.not_true, g8, hme, hlw, hms] <;> rfl) (by simp only [go_sem] <;> rfl) ?_)
        iterate 3 (refine Run.op (by simp only [go_sem] <;> rfl) (by simp only [go_sem] <;> rfl) ?_)
        refine Run.nil ?_
        refine Exec.reg ?_
        iterate 4 (refine Run.op (by simp only [go_sem, hg, hw, Bool.not_true, g8, hme, hlw, hms] <;> rfl) (by simp only [go_sem] <;> rfl) ?_)
        iterate 2 (refine Run.yes (by simp only [go_sem] <;> rfl) (by simp only [go_sem] <;> rfl) (by simp only [go_sem] <;> rfl) ?_)
        refine Run.yes (by simp only [go_sem] <;> rfl) (by simp only [go_sem, hg, hw, Bool.not_true, g8, hme, hlw, hms] <;> rfl) (by simp only [go_sem] <;> rfl) ?_
        refine Run.op (by simp only [go_sem, hg, hw, Bool.not_true, g8, hme, hlw, hms] <;> rfl) (by simp only [go_sem] <;> rfl) ?_
        refine Run.nil ?_
        refine Exec.cnd (by simp only [go_sem, hg, hw, Bool.not_true, g8, hme, hlw, hms] <;> rfl) (fun hb102 => ?_) (fun hb102 => ?_)
        · exact absurd hb102 (by simp)
        refine JoinK.nrm (()) ?_ ?_
        · trivial
        · exact Ghost.kp [1, 2, 3, 4, 9, 10, 11, 12] [4, 11] (by simp only [go_sem, hg, hw, Bool.not_true, g8, hme, hlw, hms]; first | ((repeat' (first | with_reducible_and_instances rfl | refine st_eq ?_ ?_ ?_ | refine ret_eq ?_ | refine tup_eq ?_ | refine tm_eq ?_ ?_ | refine arr_eq ?_ | refine cells_eq ?_ | refine val_eq ?_ | refine ls_eq ?_ ?_ | refine own_eq ?_ ?_ | refine sl_eq ?_ | refine b_eq ?_ | (refine i_eq ?_; omega))); done) | rfl)
      refine JoinK.nrm (()) ?_ ?_
      · trivial
      · exact Ghost.kp [1, 2, 3, 4, 9, 10, 11, 12] [4, 11] (by simp only [go_sem, hg, hw, Bool.not_true, g8, hme, hlw]; first | ((repeat' (first | with_reducible_and_instances rfl | refine st_eq ?_ ?_ ?_ | refine ret_eq ?_ | refine tup_eq ?_ | refine tm_eq ?_ ?_ | refine arr_eq ?_ | refine cells_eq ?_ | refine val_eq ?_ | refine ls_eq ?_ ?_ | refine own_eq ?_ ?_ | refine sl_eq ?_ | refine b_eq ?_ | (refine i_eq ?_; omega))); done) | rfl)
    refine Exec.assocS ?_
    refine Exec.reg ?_
    refine Run.op (by simp only [go_sem] <;> rfl) (by simp only [go_sem] <;> rfl) ?_
    iterate 2 (refine Run.op (by simp only [go_sem, hg, hw, Bool.not_true, g8, hme, hlw] <;> rfl) (by simp only [go_sem] <;> rfl) ?_)
    refine Run.op (by simp only [go_sem] <;> rfl) (by simp only [go_sem] <;> rfl) ?_
    refine Run.nil ?_
    refine Exec.blk ?_
    refine Exec.forA [1, 2, 3, 4, 9, 10, 11, 12, 104, 105, 106] [4, 11] (w.readings.length) (fun k => [.slot 106 (.int k)]) (fun k => ∀ i j, i < k → j < i → ¬ ((rd w j).day = (rd w i).day ∧ (rd w j).house = (rd w i).house)) (fun k => by simp only [go_sem] <;> rfl) (by simp only [go_sem, hg, hw, Bool.not_true, g8, hme, hlw] <;> rfl) ?_ (fun k hk hX => ?_)
    · exact fun i j hi => by omega
    refine Exec.reg ?_
    refine Run.op (by simp only [go_sem, hg, hw, Bool.not_true, g8, hme, hlw] <;> rfl) (by simp only [go_sem] <;> rfl) ?_
    refine Run.nil ?_
    refine Exec.cndS (by simp only [go_sem, hg, hw, Bool.not_true, g8, hme, hlw] <;> rfl) (fun hb107 => ?_) (fun hb107 => ?_)
    · skip
      have hlt := lt_of_dec hb107
      have hs := rd_get hlt
      have hdr : List.drop (Int.toNat 0) (List.take k (List.map encReading w.readings)) = (w.readings.take k).map encReading := by simp
      have htkl : (w.readings.take k).length = k := by simp; omega
      refine Exec.skipS ?_
      refine Exec.blk ?_
      refine Exec.reg ?_
      refine Run.op (by simp only [go_sem] <;> rfl) (by simp only [go_sem] <;> rfl) ?_
      refine Run.op (by simp only [go_sem, hg, hw, Bool.not_true, g8, hme, hlw, hs, hdr, htkl]; (try simp (disch := omega) only [if_pos]); (try simp only [go_sem, hg, hw, Bool.not_true, g8, hme, hlw, hs, hdr, htkl])<;> rfl) (by simp only [go_sem] <;> rfl) ?_
      refine Run.op (by simp only [go_sem, hg, hw, Bool.not_true, g8, hme, hlw, hs, hdr, htkl] <;> rfl) (by simp only [go_sem] <;> rfl) ?_
      iterate 3 (refine Run.op (by simp only [go_sem] <;> rfl) (by simp only [go_sem] <;> rfl) ?_)
      refine Run.nil ?_
      refine Exec.reg ?_
      refine Run.op (by simp only [go_sem] <;> rfl) (by simp only [go_sem] <;> rfl) ?_
      refine Run.op (by simp only [go_sem, hg, hw, Bool.not_true, g8, hme, hlw, hs, hdr, htkl] <;> rfl) (by simp only [go_sem] <;> rfl) ?_
      refine Run.op (by simp only [go_sem] <;> rfl) (by simp only [go_sem] <;> rfl) ?_
      refine Run.op (by simp only [go_sem, hg, hw, Bool.not_true, g8, hme, hlw, hs, hdr, htkl]; (try simp (disch := omega) only [if_pos]); (try simp only [go_sem, hg, hw, Bool.not_true, g8, hme, hlw, hs, hdr, htkl])<;> rfl) (by simp only [go_sem] <;> rfl) ?_
      refine Run.op (by simp only [go_sem, hg, hw, Bool.not_true, g8, hme, hlw, hs, hdr, htkl] <;> rfl) (by simp only [go_sem] <;> rfl) ?_
      refine Run.op (by simp only [go_sem] <;> rfl) (by simp only [go_sem] <;> rfl) ?_
      refine Run.nil ?_
      refine Exec.blk1 ?_
      refine Exec.forA [1, 2, 3, 4, 9, 10, 11, 12, 19, 104, 105, 106, 114, 115, 116] [4, 11, 19] (k) (fun m => [.slot 116 (.int m)]) (fun m => ∀ j, j < m → ¬ ((rd w j).day = (rd w k).day ∧ (rd w j).house = (rd w k).house)) (fun m => by simp only [go_sem] <;> rfl) (by simp only [go_sem, hg, hw, Bool.not_true, g8, hme, hlw, hs, hdr, htkl] <;> rfl) ?_ (fun m hm Xm => ?_)
      · exact fun j hj => by omega
      refine Exec.reg ?_
      refine Run.op (by simp only [go_sem, hg, hw, Bool.not_true, g8, hme, hlw, hs, hdr, htkl] <;> rfl) (by simp only [go_sem] <;> rfl) ?_
      refine Run.nil ?_
      refine Exec.cndS (by simp only [go_sem, hg, hw, Bool.not_true, g8, hme, hlw, hs, hdr, htkl] <;> rfl) (fun hb117 => ?_) (fun hb117 => ?_)
      · skip
        have hlt2 : m < k := by have := of_decide_eq_true hb117; omega
        have hs2 := rd_get (w := w) (i := m) (by omega)
        refine Exec.skipS ?_
        refine Exec.blk ?_
        refine Exec.reg ?_
        refine Run.op (by simp only [go_sem, hg, hw, Bool.not_true, g8, hme, hlw, hs, hdr, htkl, hs2, List.getElem?_take, if_pos hlt2]; (try simp (disch := omega) only [if_pos]); (try simp only [go_sem, hg, hw, Bool.not_true, g8, hme, hlw, hs, hdr, htkl, hs2, List.getElem?_take, if_pos hlt2])<;> rfl) (by simp only [go_sem] <;> rfl) ?_
        refine Run.op (by simp only [go_sem, hg, hw, Bool.not_true, g8, hme, hlw, hs, hdr, htkl, hs2, List.getElem?_take, if_pos hlt2] <;> rfl) (by simp only [go_sem] <;> rfl) ?_
        iterate 2 (refine Run.op (by simp only [go_sem] <;> rfl) (by simp only [go_sem] <;> rfl) ?_)
        refine Run.nil ?_
        refine Exec.reg ?_
        refine Run.op (by simp only [go_sem] <;> rfl) (by simp only [go_sem] <;> rfl) ?_
        refine Run.op (by simp only [go_sem, hg, hw, Bool.not_true, g8, hme, hlw, hs, hdr, htkl, hs2, List.getElem?_take, if_pos hlt2] <;> rfl) (by simp only [go_sem] <;> rfl) ?_
        refine Run.op (by simp only [go_sem] <;> rfl) (by simp only [go_sem] <;> rfl) ?_
        iterate 3 (refine Run.op (by simp only [go_sem, hg, hw, Bool.not_true, g8, hme, hlw, hs, hdr, htkl, hs2, List.getElem?_take, if_pos hlt2] <;> rfl) (by simp only [go_sem] <;> rfl) ?_)
        refine Run.gop (by simp only [go_sem] <;> rfl) (by simp only [go_sem] <;> rfl) (by simp only [go_sem] <;> rfl) ?_
        refine Run.gop (by simp only [go_sem] <;> rfl) (by simp only [go_sem, hg, hw, Bool.not_true, g8, hme, hlw, hs, hdr, htkl, hs2, List.getElem?_take, if_pos hlt2] <;> rfl) (by simp only [go_sem] <;> rfl) ?_
        refine Run.gop (by simp only [go_sem] <;> rfl) (by simp only [go_sem] <;> rfl) (by simp only [go_sem] <;> rfl) ?_
        iterate 2 (refine Run.gop (by simp only [go_sem] <;> rfl) (by simp only [go_sem, hg, hw, Bool.not_true, g8, hme, hlw, hs, hdr, htkl, hs2, List.getElem?_take, if_pos hlt2] <;> rfl) (by simp only [go_sem] <;> rfl) ?_)
        refine Run.op (by simp only [go_sem, hg, hw, Bool.not_true, g8, hme, hlw, hs, hdr, htkl, hs2, List.getElem?_take, if_pos hlt2] <;> rfl) (by simp only [go_sem] <;> rfl) ?_
        refine Run.nil ?_
        refine Exec.cnd (by simp only [go_sem, hg, hw, Bool.not_true, g8, hme, hlw, hs, hdr, htkl, hs2, List.getElem?_take, if_pos hlt2] <;> rfl) (fun hb131 => ?_) (fun hb131 => ?_)
        · skip
          refine Exec.reg ?_
          refine Run.cal (c_law_alive) (by simp only [go_sem]) (by simp only [go_sem, hg, hw, Bool.not_true, g8, hme, hlw, hs, hdr, htkl, hs2, List.getElem?_take, if_pos hlt2] <;> rfl) (by exact trivial) (fr0) (by simp only [go_sem, hg, hw, Bool.not_true, g8, hme, hlw, hs, hdr, htkl, hs2, List.getElem?_take, if_pos hlt2] <;> rfl) ?_
          refine Run.op (by simp only [go_sem] <;> rfl) (by simp only [go_sem] <;> rfl) ?_
          refine Run.nil ?_
          refine BlkK.ret ?_
          refine ForK.ret ?_
          refine Blk1K.ret ?_
          refine BlkK.ret ?_
          refine ForK.ret ?_
          refine BlkK.ret ?_
          exact Ends.fin [] (rs := [.tmp 8]) rfl (by simp only [go_sem, hg, hw, Bool.not_true, g8, hme, hlw, hs, hdr, htkl, hs2, List.getElem?_take, if_pos hlt2] <;> rfl) (by simp only [go_sem, hg, hw, Bool.not_true, g8, hme, hlw, hs, hdr, htkl, hs2, List.getElem?_take, if_pos hlt2] <;> first | rfl | ((repeat' (first | with_reducible_and_instances rfl | refine st_eq ?_ ?_ ?_ | refine ret_eq ?_ | refine tup_eq ?_ | refine tm_eq ?_ ?_ | refine arr_eq ?_ | refine cells_eq ?_ | refine val_eq ?_ | refine ls_eq ?_ ?_ | refine own_eq ?_ ?_ | refine sl_eq ?_ | refine b_eq ?_ | (refine i_eq ?_; omega))); done))
        have hne : ¬ ((rd w m).day = (rd w k).day ∧ (rd w m).house = (rd w k).house) := by simpa using hb131
        refine BlkK.nrm ?_
        refine Exec.reg1 ?_
        refine Run.op (by simp only [go_sem, hg, hw, Bool.not_true, g8, hme, hlw, hs, hdr, htkl, hs2, List.getElem?_take, if_pos hlt2]; (try simp (disch := omega) only [IntWalk.i64_in, IntWalk.u64_in, if_neg, if_pos])<;> rfl) (by simp only [go_sem] <;> rfl) ?_
        refine Run.op (by simp only [go_sem] <;> rfl) (by simp only [go_sem] <;> rfl) ?_
        refine Run.nil ?_
        refine ForK.nxt ?_ ?_ ?_
        · omega
        · exact Ghost.kp [1, 2, 3, 4, 9, 10, 11, 12, 19, 104, 105, 106, 114, 115, 116] [4, 11, 19] (by simp only [go_sem, hg, hw, Bool.not_true, g8, hme, hlw, hs, hdr, htkl, hs2, List.getElem?_take, if_pos hlt2]; first | ((repeat' (first | with_reducible_and_instances rfl | refine st_eq ?_ ?_ ?_ | refine ret_eq ?_ | refine tup_eq ?_ | refine tm_eq ?_ ?_ | refine arr_eq ?_ | refine cells_eq ?_ | refine val_eq ?_ | refine ls_eq ?_ ?_ | refine own_eq ?_ ?_ | refine sl_eq ?_ | refine b_eq ?_ | (refine i_eq ?_; omega))); done) | rfl)
        · intro j hj
          by_cases e : j = m
          · subst e; exact hne
          · exact Xm j (by omega)
      have hmk : k = m := by have := of_decide_eq_false hb117; omega
      subst hmk
      refine Exec.exitS ?_
      refine ForK.ext ?_
      refine Blk1K.hit ?_
      refine BlkK.nrm ?_
      refine Exec.reg1 ?_
      refine Run.op (by simp only [go_sem, hg, hw, Bool.not_true, g8, hme, hlw, hs, hdr, htkl]; (try simp (disch := omega) only [IntWalk.i64_in, IntWalk.u64_in, if_neg, if_pos])<;> rfl) (by simp only [go_sem] <;> rfl) ?_
      refine Run.op (by simp only [go_sem] <;> rfl) (by simp only [go_sem] <;> rfl) ?_
      refine Run.nil ?_
      refine ForK.nxt ?_ ?_ ?_
      · omega
      · exact Ghost.kp [1, 2, 3, 4, 9, 10, 11, 12, 104, 105, 106] [4, 11] (by simp only [go_sem, hg, hw, Bool.not_true, g8, hme, hlw, hs, hdr, htkl]; first | ((repeat' (first | with_reducible_and_instances rfl | refine st_eq ?_ ?_ ?_ | refine ret_eq ?_ | refine tup_eq ?_ | refine tm_eq ?_ ?_ | refine arr_eq ?_ | refine cells_eq ?_ | refine val_eq ?_ | refine ls_eq ?_ ?_ | refine own_eq ?_ ?_ | refine sl_eq ?_ | refine b_eq ?_ | (refine i_eq ?_; omega))); done) | rfl)
      · intro i j hi hj
        by_cases e : i = k
        · subst e; exact Xm j hj
        · exact hX i j (by omega) hj
    have hke : k = w.readings.length := by have := ge_of_dec hb107; omega
    subst hke
    have hdd : DD w := by
      intro i j hi hj hij hh hd
      rcases Nat.lt_or_ge i j with h | h
      · exact hX j i hj h ⟨hd, hh⟩
      · exact hX i j hi (by omega) ⟨hd.symm, hh.symm⟩
    have hrot := turn_rot w tN
    have hddT : DD (turnW w tN) := hrot.symm.dd hdd
    have htl : (turnW w tN).readings.length = w.readings.length := turn_len _ _ _
    have hxp := hrot.expl hddT
    have hsh := hrot.shows house day
    obtain ⟨lk, hlk⟩ : ∃ l, (explainR (turnW w tN)).1 = l := ⟨_, rfl⟩
    rw [hlk, hlw] at hxp
    refine Exec.exitS ?_
    refine ForK.ext ?_
    refine BlkK.hit ?_
    refine Exec.reg ?_
    refine Run.op (by simp only [go_sem] <;> rfl) (by simp only [go_sem] <;> rfl) ?_
    iterate 2 (refine Run.op (by simp only [go_sem, hg, hw, Bool.not_true, g8, hme, hlw] <;> rfl) (by simp only [go_sem] <;> rfl) ?_)
    refine Run.op (by simp only [go_sem] <;> rfl) (by simp only [go_sem] <;> rfl) ?_
    refine Run.nil ?_
    refine Exec.reg ?_
    refine Run.op (by simp only [go_sem, hg, hw, Bool.not_true, g8, hme, hlw] <;> rfl) (by simp only [go_sem] <;> rfl) ?_
    iterate 2 (refine Run.op (by simp only [go_sem] <;> rfl) (by simp only [go_sem] <;> rfl) ?_)
    refine Run.nil ?_
    refine Exec.reg ?_
    iterate 2 (refine Run.op (by simp only [go_sem] <;> rfl) (by simp only [go_sem] <;> rfl) ?_)
    refine Run.nil ?_
    refine Exec.assocS ?_
    refine Exec.reg ?_
    refine Run.nilC 23 1 1000 46 3 (by simp only [go_sem] <;> rfl) (by simp only [go_sem] <;> rfl) (by simp only [go_sem] <;> rfl) (by omega) (by omega) (by simp only [go_sem] <;> rfl) ?_
    iterate 2 (refine Run.op (by simp only [go_sem] <;> rfl) (by simp only [go_sem] <;> rfl) ?_)
    refine Run.nil ?_
    refine Exec.blk ?_
    refine Exec.forA [1, 2, 3, 4, 9, 10, 11, 12, 22, 23, 140, 141] [4, 11, 23, 1000] (w.readings.length) (fun k => [.slot 141 (.int k), .obj 23 (.cells [.d (.sl 2 (w.rates.map encSpan)), .own 1000 0 (turnL w tN k).length (turnL w tN k).length]), .obj 1000 (.arr 46 3 ((turnL w tN k).map encReading))]) (fun _ => True) (fun k => by simp only [go_sem] <;> rfl) (by simp only [go_sem, hg, hw, Bool.not_true, g8, hme, hlw, turn_zero] <;> rfl) ?_ (fun k hk hX => ?_)
    · trivial
    refine Exec.reg ?_
    refine Run.op (by simp only [go_sem, hg, hw, Bool.not_true, g8, hme, hlw] <;> rfl) (by simp only [go_sem] <;> rfl) ?_
    refine Run.nil ?_
    refine Exec.cndS (by simp only [go_sem, hg, hw, Bool.not_true, g8, hme, hlw] <;> rfl) (fun hb142 => ?_) (fun hb142 => ?_)
    · skip
      have hlt := lt_of_dec hb142
      have hzr : ¬ ((w.readings.length : Nat) : Int) = 0 := by omega
      have f1 : ((k : Int) + (tN : Int)).tmod (w.readings.length : Int) = (((k + tN) % w.readings.length : Nat) : Int) := by rw [tmod_nn]; exact tmod_n _ _
      have hs := rd_get (w := w) (i := (k + tN) % w.readings.length) (Nat.mod_lt _ (by omega))
      have hsu := turn_succ w tN k
      have hqe := turn_len w tN k
      refine Exec.skipS ?_
      refine Exec.blk ?_
      refine Exec.reg ?_
      iterate 2 (refine Run.op (by simp only [go_sem] <;> rfl) (by simp only [go_sem] <;> rfl) ?_)
      refine Run.nil ?_
      refine Exec.opk1 18 ?_
      refine OpenK.op (by simp only [go_sem] <;> rfl) (by simp only [go_sem] <;> rfl) (by simp only [go_sem] <;> rfl) ?_
      refine OpenK.op (by simp only [go_sem, hg, hw, Bool.not_true, g8, hme, hlw, f1, hzr, hs] <;> rfl) (by simp only [go_sem] <;> rfl) (by simp only [go_sem] <;> rfl) ?_
      refine OpenK.op (by simp only [go_sem] <;> rfl) (by simp only [go_sem] <;> rfl) (by simp only [go_sem] <;> rfl) ?_
      refine OpenK.op (by simp only [go_sem, hg, hw, Bool.not_true, g8, hme, hlw, f1, hzr, hs] <;> rfl) (by simp only [go_sem] <;> rfl) (by simp only [go_sem] <;> rfl) ?_
      iterate 2 (refine OpenK.op (by simp only [go_sem] <;> rfl) (by simp only [go_sem] <;> rfl) (by simp only [go_sem] <;> rfl) ?_)
      iterate 2 (refine OpenK.op (by simp only [go_sem, hg, hw, Bool.not_true, g8, hme, hlw, f1, hzr, hs]; (try simp (disch := omega) only [IntWalk.i64_in, IntWalk.u64_in, if_neg, if_pos])<;> rfl) (by simp only [go_sem] <;> rfl) (by simp only [go_sem] <;> rfl) ?_)
      refine OpenK.op (by simp only [go_sem] <;> rfl) (by simp only [go_sem] <;> rfl) (by simp only [go_sem] <;> rfl) ?_
      refine OpenK.op (by simp only [go_sem, hg, hw, Bool.not_true, g8, hme, hlw, f1, hzr, hs]; (try simp (disch := omega) only [IntWalk.i64_in, IntWalk.u64_in, if_neg, if_pos])<;> rfl) (by simp only [go_sem] <;> rfl) (by simp only [go_sem] <;> rfl) ?_
      refine OpenK.op (by simp only [go_sem, hg, hw, Bool.not_true, g8, hme, hlw, f1, hzr, hs]; (try simp (disch := omega) only [if_pos]); (try simp only [go_sem, hg, hw, Bool.not_true, g8, hme, hlw, f1, hzr, hs])<;> rfl) (by simp only [go_sem] <;> rfl) (by simp only [go_sem] <;> rfl) ?_
      iterate 2 (refine OpenK.op (by simp only [go_sem, hg, hw, Bool.not_true, g8, hme, hlw, f1, hzr, hs] <;> rfl) (by simp only [go_sem] <;> rfl) (by simp only [go_sem] <;> rfl) ?_)
      refine OpenK.op (by simp only [go_sem, hg, hw, Bool.not_true, g8, hme, hlw, f1, hzr, hs]; (try simp (disch := omega) only [if_pos]); (try simp only [go_sem, hg, hw, Bool.not_true, g8, hme, hlw, f1, hzr, hs]) <;> first | (refine ite_run ⟨by (try simp only [List.length_append, List.length_drop, List.length_take, List.length_map, List.length_cons, List.length_nil, List.length_replicate, List.length_set, List.length_range, Nat.zero_add]); omega, by (try simp only [List.length_append, List.length_drop, List.length_take, List.length_map, List.length_cons, List.length_nil, List.length_replicate, List.length_set, List.length_range, Nat.zero_add]); omega, by repeat (first | exact al_nil | assumption | refine al_app ?_ ?_ | refine al_drop ?_ | refine al_take ?_ | exact al_map (fun _ => rfl) | exact al_rep rfl | refine al_cons rfl ?_)⟩ ?_; simp only [go_sem, hg, hw, Bool.not_true, g8, hme, hlw, f1, hzr, hs] <;> rfl) | (refine ite_run ⟨by (try simp only [List.length_append, List.length_drop, List.length_take, List.length_map, List.length_cons, List.length_nil, List.length_replicate, List.length_set, List.length_range, Nat.zero_add]); omega, by repeat (first | exact al_nil | assumption | refine al_app ?_ ?_ | refine al_drop ?_ | refine al_take ?_ | exact al_map (fun _ => rfl) | exact al_rep rfl | refine al_cons rfl ?_)⟩ ?_; simp only [go_sem, hg, hw, Bool.not_true, g8, hme, hlw, f1, hzr, hs] <;> rfl) | rfl) (by simp only [go_sem] <;> rfl) (by simp only [go_sem] <;> rfl) ?_
      iterate 2 (refine OpenK.op (by simp only [go_sem] <;> rfl) (by simp only [go_sem] <;> rfl) (by simp only [go_sem] <;> rfl) ?_)
      refine OpenK.nil (OpenE.fin (by decide +kernel) (by decide +kernel) ?_)
      refine BlkK.nrm ?_
      refine Exec.reg1 ?_
      refine Run.op (by simp only [go_sem, hg, hw, Bool.not_true, g8, hme, hlw, f1, hzr, hs]; (try simp (disch := omega) only [IntWalk.i64_in, IntWalk.u64_in, if_neg, if_pos])<;> rfl) (by simp only [go_sem] <;> rfl) ?_
      refine Run.op (by simp only [go_sem] <;> rfl) (by simp only [go_sem] <;> rfl) ?_
      refine Run.nil ?_
      refine ForK.nxt ?_ ?_ ?_
      · omega
      · exact Ghost.kp [1, 2, 3, 4, 9, 10, 11, 12, 22, 23, 140, 141] [4, 11, 23, 1000] (by simp only [go_sem, hg, hw, Bool.not_true, g8, hme, hlw, f1, hzr, hs]; first | ((repeat' (first | with_reducible_and_instances rfl | refine st_eq ?_ ?_ ?_ | refine ret_eq ?_ | refine tup_eq ?_ | refine tm_eq ?_ ?_ | refine arr_eq ?_ | refine cells_eq ?_ | refine val_eq ?_ | refine ls_eq ?_ ?_ | refine own_eq ?_ ?_ | refine sl_eq ?_ | refine b_eq ?_ | (refine i_eq ?_; omega))); (all_goals (simp [hsu, encReading]))) | rfl)
      · trivial
    have hke : k = w.readings.length := by have := ge_of_dec hb142; omega
    subst hke
    have htk2 : List.take (turnL w tN w.readings.length).length ((turnL w tN w.readings.length).map encReading) = (turnW w tN).readings.map encReading := List.take_of_length_le (Nat.le_of_eq (List.length_map _))
    refine Exec.exitS ?_
    refine ForK.ext ?_
    refine BlkK.hit ?_
    refine Exec.reg ?_
    refine Run.frz 1000 (by simp only [go_sem, htk2] <;> rfl) ?_
    refine Run.op (by simp only [go_sem, hg, hw, Bool.not_true, g8, hme, hlw, hlk, hxp.1, hxp.2.1, hsh] <;> rfl) (by simp only [go_sem] <;> rfl) ?_
    refine Run.cal (c_card_Explain (turnW w tN) h1 (by rw [htl]; omega) (fun _ => h20_of (by rw [htl]; omega))) (by simp only [go_sem]) (by simp only [go_sem, hg, hw, Bool.not_true, g8, hme, hlw, hlk, hxp.1, hxp.2.1, hsh] <;> rfl) (by exact ⟨by first | exact WkR.pure rfl | exact WkR.nil _ | exact WkR.int (by first | omega | (simp; done) | (simp; omega)), trivial⟩) (fr0) (by simp only [go_sem, hg, hw, Bool.not_true, g8, hme, hlw, hlk, hxp.1, hxp.2.1, hsh] <;> rfl) ?_
    refine Run.op (by simp only [go_sem] <;> rfl) (by simp only [go_sem] <;> rfl) ?_
    iterate 2 (refine Run.op (by simp only [go_sem, hg, hw, Bool.not_true, g8, hme, hlw, hlk, hxp.1, hxp.2.1, hsh] <;> rfl) (by simp only [go_sem] <;> rfl) ?_)
    iterate 2 (refine Run.op (by simp only [go_sem] <;> rfl) (by simp only [go_sem] <;> rfl) ?_)
    refine Run.nil ?_
    refine Exec.reg ?_
    refine Run.op (by simp only [go_sem, hg, hw, Bool.not_true, g8, hme, hlw, hlk, hxp.1, hxp.2.1, hsh] <;> rfl) (by simp only [go_sem] <;> rfl) ?_
    iterate 2 (refine Run.op (by simp only [go_sem] <;> rfl) (by simp only [go_sem] <;> rfl) ?_)
    refine Run.cal (c_card_Shows (turnW w tN) house day h1 (by rw [htl]; omega) (fun _ => h20_of (by rw [htl]; omega))) (by simp only [go_sem]) (by simp only [go_sem, hg, hw, Bool.not_true, g8, hme, hlw, hlk, hxp.1, hxp.2.1, hsh] <;> rfl) (by exact ⟨by first | exact WkR.pure rfl | exact WkR.nil _ | exact WkR.int (by first | omega | (simp; done) | (simp; omega)), by first | exact WkR.pure rfl | exact WkR.nil _ | exact WkR.int (by first | omega | (simp; done) | (simp; omega)), by first | exact WkR.pure rfl | exact WkR.nil _ | exact WkR.int (by first | omega | (simp; done) | (simp; omega)), trivial⟩) (fr0) (by simp only [go_sem, hg, hw, Bool.not_true, g8, hme, hlw, hlk, hxp.1, hxp.2.1, hsh] <;> rfl) ?_
    refine Run.op (by simp only [go_sem] <;> rfl) (by simp only [go_sem] <;> rfl) ?_
    iterate 2 (refine Run.op (by simp only [go_sem, hg, hw, Bool.not_true, g8, hme, hlw, hlk, hxp.1, hxp.2.1, hsh] <;> rfl) (by simp only [go_sem] <;> rfl) ?_)
    iterate 3 (refine Run.op (by simp only [go_sem] <;> rfl) (by simp only [go_sem] <;> rfl) ?_)
    refine Run.nil ?_
    refine Exec.assocS ?_
    refine Exec.reg ?_
    iterate 2 (refine Run.op (by simp only [go_sem] <;> rfl) (by simp only [go_sem] <;> rfl) ?_)
    iterate 2 (refine Run.op (by simp only [go_sem, hg, hw, Bool.not_true, g8, hme, hlw, hlk, hxp.1, hxp.2.1, hsh] <;> rfl) (by simp only [go_sem] <;> rfl) ?_)
    refine Run.yes (by simp only [go_sem] <;> rfl) (by simp only [go_sem] <;> rfl) (by simp only [go_sem] <;> rfl) ?_
    refine Run.yes (by simp only [go_sem] <;> rfl) (by simp only [go_sem, hg, hw, Bool.not_true, g8, hme, hlw, hlk, hxp.1, hxp.2.1, hsh] <;> rfl) (by simp only [go_sem] <;> rfl) ?_
    refine Run.yes (by simp only [go_sem] <;> rfl) (by simp only [go_sem] <;> rfl) (by simp only [go_sem] <;> rfl) ?_
    iterate 2 (refine Run.yes (by simp only [go_sem] <;> rfl) (by simp only [go_sem, hg, hw, Bool.not_true, g8, hme, hlw, hlk, hxp.1, hxp.2.1, hsh] <;> rfl) (by simp only [go_sem] <;> rfl) ?_)
    iterate 2 (refine Run.op (by simp only [go_sem, hg, hw, Bool.not_true, g8, hme, hlw, hlk, hxp.1, hxp.2.1, hsh] <;> rfl) (by simp only [go_sem] <;> rfl) ?_)
    iterate 3 (refine Run.yes (by simp only [go_sem] <;> rfl) (by simp only [go_sem, hg, hw, Bool.not_true, g8, hme, hlw, hlk, hxp.1, hxp.2.1, hsh] <;> rfl) (by simp only [go_sem] <;> rfl) ?_)
    iterate 2 (refine Run.op (by simp only [go_sem, hg, hw, Bool.not_true, g8, hme, hlw, hlk, hxp.1, hxp.2.1, hsh] <;> rfl) (by simp only [go_sem] <;> rfl) ?_)
    iterate 2 (refine Run.yes (by simp only [go_sem] <;> rfl) (by simp only [go_sem] <;> rfl) (by simp only [go_sem] <;> rfl) ?_)
    refine Run.yes (by simp only [go_sem] <;> rfl) (by simp only [go_sem, hg, hw, Bool.not_true, g8, hme, hlw, hlk, hxp.1, hxp.2.1, hsh] <;> rfl) (by simp only [go_sem] <;> rfl) ?_
    refine Run.op (by simp only [go_sem, hg, hw, Bool.not_true, g8, hme, hlw, hlk, hxp.1, hxp.2.1, hsh] <;> rfl) (by simp only [go_sem] <;> rfl) ?_
    refine Run.nil ?_
    refine Exec.cndS (by simp only [go_sem, hg, hw, Bool.not_true, g8, hme, hlw, hlk, hxp.1, hxp.2.1, hsh] <;> rfl) (fun hb191 => ?_) (fun hb191 => ?_)
    · exact absurd hb191 (by simp)
    refine Exec.skipS ?_
    refine Exec.assocS ?_
    refine Exec.reg ?_
    refine Run.op (by simp only [go_sem] <;> rfl) (by simp only [go_sem] <;> rfl) ?_
    refine Run.op (by simp only [go_sem, hg, hw, Bool.not_true, g8, hme, hlw, hlk, hxp.1, hxp.2.1, hsh] <;> rfl) (by simp only [go_sem] <;> rfl) ?_
    refine Run.op (by simp only [go_sem] <;> rfl) (by simp only [go_sem] <;> rfl) ?_
    refine Run.nil ?_
    refine Exec.blk ?_
    refine Exec.forA [3, 9, 22, 192, 193, 194] [] (lk.length) (fun k => [.slot 194 (.int k)]) (fun _ => True) (fun k => by simp only [go_sem] <;> rfl) (by simp only [go_sem, hg, hw, Bool.not_true, g8, hme, hlw, hlk, hxp.1, hxp.2.1, hsh] <;> rfl) ?_ (fun k hk hX => ?_)
    · trivial
    refine Exec.reg ?_
    refine Run.op (by simp only [go_sem, hg, hw, Bool.not_true, g8, hme, hlw, hlk, hxp.1, hxp.2.1, hsh] <;> rfl) (by simp only [go_sem] <;> rfl) ?_
    refine Run.nil ?_
    refine Exec.cndS (by simp only [go_sem, hg, hw, Bool.not_true, g8, hme, hlw, hlk, hxp.1, hxp.2.1, hsh] <;> rfl) (fun hb195 => ?_) (fun hb195 => ?_)
    · skip
      have hlt : k < lk.length := by rw [hxp.2.1]; exact lt_of_dec hb195
      obtain ⟨x, hx⟩ : ∃ x, lk[k]? = some x := ⟨_, List.getElem?_eq_getElem hlt⟩
      obtain ⟨hxa, hren⟩ := hxp.2.2 x (List.mem_of_getElem? hx)
      obtain ⟨aN, bN, cN, hxe, han, hbn⟩ := all_in hxa
      rw [htl] at han hbn
      obtain ⟨kd, hkd⟩ : ∃ k, x.kind = k := ⟨_, rfl⟩
      rw [hkd] at hxe hbn
      subst hxe
      have q1 : decide ((aN : Int) < 0) = false := decide_eq_false (by omega)
      have q2 : decide ((aN : Int) ≥ (w.readings.length : Int)) = false := decide_eq_false (by omega)
      have q4 : decide ((bN : Int) < 0) = false := decide_eq_false (by omega)
      have hzr : ¬ ((w.readings.length : Nat) : Int) = 0 := by omega
      have fa : ((aN : Int) + (tN : Int)).tmod (w.readings.length : Int) = (((aN + tN) % w.readings.length : Nat) : Int) := by rw [tmod_nn]; exact tmod_n _ _
      refine Exec.skipS ?_
      refine Exec.blk ?_
      refine Exec.reg ?_
      refine Run.op (by simp only [go_sem, hg, hw, Bool.not_true, g8, hme, hlw, hlk, hxp.1, hxp.2.1, hsh, hx, q1, q2, q4, hzr, fa]; (try simp (disch := omega) only [if_pos]); (try simp only [go_sem, hg, hw, Bool.not_true, g8, hme, hlw, hlk, hxp.1, hxp.2.1, hsh, hx, q1, q2, q4, hzr, fa])<;> rfl) (by simp only [go_sem] <;> rfl) ?_
      refine Run.op (by simp only [go_sem, hg, hw, Bool.not_true, g8, hme, hlw, hlk, hxp.1, hxp.2.1, hsh, hx, q1, q2, q4, hzr, fa] <;> rfl) (by simp only [go_sem] <;> rfl) ?_
      iterate 2 (refine Run.op (by simp only [go_sem] <;> rfl) (by simp only [go_sem] <;> rfl) ?_)
      refine Run.nil ?_
      refine Exec.assocS ?_
      by_cases hk0 : kd = 0
      · skip
        subst hk0
        have hbn := hbn rfl
        have q3 : decide ((bN : Int) ≥ (w.readings.length : Int)) = false := decide_eq_false (by omega)
        have fb : ((bN : Int) + (tN : Int)).tmod (w.readings.length : Int) = (((bN + tN) % w.readings.length : Nat) : Int) := by rw [tmod_nn]; exact tmod_n _ _
        have hmem : (⟨0, ((min ((aN + tN) % w.readings.length) ((bN + tN) % w.readings.length) : Nat) : Int), ((max ((aN + tN) % w.readings.length) ((bN + tN) % w.readings.length) : Nat) : Int), (cN : Int)⟩ : Repair) ∈ lw := hren
        refine Exec.reg ?_
        refine Run.op (by simp only [go_sem] <;> rfl) (by simp only [go_sem] <;> rfl) ?_
        iterate 3 (refine Run.op (by simp only [go_sem, hg, hw, Bool.not_true, g8, hme, hlw, hlk, hxp.1, hxp.2.1, hsh, hx, q1, q2, q4, hzr, fa, q3, fb, min_nn, max_nn] <;> rfl) (by simp only [go_sem] <;> rfl) ?_)
        refine Run.yes (by simp only [go_sem] <;> rfl) (by simp only [go_sem] <;> rfl) (by simp only [go_sem] <;> rfl) ?_
        refine Run.yes (by simp only [go_sem] <;> rfl) (by simp only [go_sem, hg, hw, Bool.not_true, g8, hme, hlw, hlk, hxp.1, hxp.2.1, hsh, hx, q1, q2, q4, hzr, fa, q3, fb, min_nn, max_nn] <;> rfl) (by simp only [go_sem] <;> rfl) ?_
        refine Run.yes (by simp only [go_sem] <;> rfl) (by simp only [go_sem] <;> rfl) (by simp only [go_sem] <;> rfl) ?_
        refine Run.yes (by simp only [go_sem] <;> rfl) (by simp only [go_sem, hg, hw, Bool.not_true, g8, hme, hlw, hlk, hxp.1, hxp.2.1, hsh, hx, q1, q2, q4, hzr, fa, q3, fb, min_nn, max_nn] <;> rfl) (by simp only [go_sem] <;> rfl) ?_
        iterate 2 (refine Run.op (by simp only [go_sem, hg, hw, Bool.not_true, g8, hme, hlw, hlk, hxp.1, hxp.2.1, hsh, hx, q1, q2, q4, hzr, fa, q3, fb, min_nn, max_nn] <;> rfl) (by simp only [go_sem] <;> rfl) ?_)
        refine Run.yes (by simp only [go_sem] <;> rfl) (by simp only [go_sem] <;> rfl) (by simp only [go_sem] <;> rfl) ?_
        iterate 2 (refine Run.yes (by simp only [go_sem] <;> rfl) (by simp only [go_sem, hg, hw, Bool.not_true, g8, hme, hlw, hlk, hxp.1, hxp.2.1, hsh, hx, q1, q2, q4, hzr, fa, q3, fb, min_nn, max_nn] <;> rfl) (by simp only [go_sem] <;> rfl) ?_)
        iterate 2 (refine Run.op (by simp only [go_sem, hg, hw, Bool.not_true, g8, hme, hlw, hlk, hxp.1, hxp.2.1, hsh, hx, q1, q2, q4, hzr, fa, q3, fb, min_nn, max_nn] <;> rfl) (by simp only [go_sem] <;> rfl) ?_)
        refine Run.yes (by simp only [go_sem] <;> rfl) (by simp only [go_sem] <;> rfl) (by simp only [go_sem] <;> rfl) ?_
        iterate 3 (refine Run.yes (by simp only [go_sem] <;> rfl) (by simp only [go_sem, hg, hw, Bool.not_true, g8, hme, hlw, hlk, hxp.1, hxp.2.1, hsh, hx, q1, q2, q4, hzr, fa, q3, fb, min_nn, max_nn] <;> rfl) (by simp only [go_sem] <;> rfl) ?_)
        refine Run.yes (by simp only [go_sem] <;> rfl) (by simp only [go_sem] <;> rfl) (by simp only [go_sem] <;> rfl) ?_
        refine Run.yes (by simp only [go_sem] <;> rfl) (by simp only [go_sem, hg, hw, Bool.not_true, g8, hme, hlw, hlk, hxp.1, hxp.2.1, hsh, hx, q1, q2, q4, hzr, fa, q3, fb, min_nn, max_nn] <;> rfl) (by simp only [go_sem] <;> rfl) ?_
        refine Run.yes (by simp only [go_sem] <;> rfl) (by simp only [go_sem] <;> rfl) (by simp only [go_sem] <;> rfl) ?_
        iterate 2 (refine Run.yes (by simp only [go_sem] <;> rfl) (by simp only [go_sem, hg, hw, Bool.not_true, g8, hme, hlw, hlk, hxp.1, hxp.2.1, hsh, hx, q1, q2, q4, hzr, fa, q3, fb, min_nn, max_nn] <;> rfl) (by simp only [go_sem] <;> rfl) ?_)
        refine Run.op (by simp only [go_sem, hg, hw, Bool.not_true, g8, hme, hlw, hlk, hxp.1, hxp.2.1, hsh, hx, q1, q2, q4, hzr, fa, q3, fb, min_nn, max_nn] <;> rfl) (by simp only [go_sem] <;> rfl) ?_
        refine Run.nil ?_
        refine Exec.cndS (by simp only [go_sem, hg, hw, Bool.not_true, g8, hme, hlw, hlk, hxp.1, hxp.2.1, hsh, hx, q1, q2, q4, hzr, fa, q3, fb, min_nn, max_nn] <;> rfl) (fun hb222 => ?_) (fun hb222 => ?_)
        · exact absurd hb222 (by simp)
        refine Exec.skipS ?_
        refine Exec.reg ?_
        refine Run.op (by simp only [go_sem] <;> rfl) (by simp only [go_sem] <;> rfl) ?_
        refine Run.op (by simp only [go_sem, hg, hw, Bool.not_true, g8, hme, hlw, hlk, hxp.1, hxp.2.1, hsh, hx, q1, q2, q4, hzr, fa, q3, fb, min_nn, max_nn] <;> rfl) (by simp only [go_sem] <;> rfl) ?_
        refine Run.op (by simp only [go_sem] <;> rfl) (by simp only [go_sem] <;> rfl) ?_
        iterate 2 (refine Run.op (by simp only [go_sem, hg, hw, Bool.not_true, g8, hme, hlw, hlk, hxp.1, hxp.2.1, hsh, hx, q1, q2, q4, hzr, fa, q3, fb, min_nn, max_nn]; (try simp (disch := omega) only [IntWalk.i64_in, IntWalk.u64_in, if_neg, if_pos])<;> rfl) (by simp only [go_sem] <;> rfl) ?_)
        refine Run.op (by simp only [go_sem] <;> rfl) (by simp only [go_sem] <;> rfl) ?_
        refine Run.op (by simp only [go_sem, hg, hw, Bool.not_true, g8, hme, hlw, hlk, hxp.1, hxp.2.1, hsh, hx, q1, q2, q4, hzr, fa, q3, fb, min_nn, max_nn]; (try simp (disch := omega) only [IntWalk.i64_in, IntWalk.u64_in, if_neg, if_pos])<;> rfl) (by simp only [go_sem] <;> rfl) ?_
        iterate 2 (refine Run.op (by simp only [go_sem] <;> rfl) (by simp only [go_sem] <;> rfl) ?_)
        refine Run.nil ?_
        refine Exec.assocS ?_
        refine Exec.reg ?_
        refine Run.op (by simp only [go_sem] <;> rfl) (by simp only [go_sem] <;> rfl) ?_
        iterate 2 (refine Run.op (by simp only [go_sem, hg, hw, Bool.not_true, g8, hme, hlw, hlk, hxp.1, hxp.2.1, hsh, hx, q1, q2, q4, hzr, fa, q3, fb, min_nn, max_nn] <;> rfl) (by simp only [go_sem] <;> rfl) ?_)
        refine Run.nil ?_
        refine Exec.cndS (by simp only [go_sem, hg, hw, Bool.not_true, g8, hme, hlw, hlk, hxp.1, hxp.2.1, hsh, hx, q1, q2, q4, hzr, fa, q3, fb, min_nn, max_nn] <;> rfl) (fun hb233 => ?_) (fun hb233 => ?_)
        · skip
          refine Exec.assocS ?_
          refine Exec.reg ?_
          refine Run.op (by simp only [go_sem] <;> rfl) (by simp only [go_sem] <;> rfl) ?_
          refine Run.op (by simp only [go_sem, hg, hw, Bool.not_true, g8, hme, hlw, hlk, hxp.1, hxp.2.1, hsh, hx, q1, q2, q4, hzr, fa, q3, fb, min_nn, max_nn] <;> rfl) (by simp only [go_sem] <;> rfl) ?_
          refine Run.op (by simp only [go_sem] <;> rfl) (by simp only [go_sem] <;> rfl) ?_
          iterate 2 (refine Run.op (by simp only [go_sem, hg, hw, Bool.not_true, g8, hme, hlw, hlk, hxp.1, hxp.2.1, hsh, hx, q1, q2, q4, hzr, fa, q3, fb, min_nn, max_nn]; (try simp (disch := omega) only [IntWalk.i64_in, IntWalk.u64_in, if_neg, if_pos])<;> rfl) (by simp only [go_sem] <;> rfl) ?_)
          refine Run.op (by simp only [go_sem] <;> rfl) (by simp only [go_sem] <;> rfl) ?_
          refine Run.op (by simp only [go_sem, hg, hw, Bool.not_true, g8, hme, hlw, hlk, hxp.1, hxp.2.1, hsh, hx, q1, q2, q4, hzr, fa, q3, fb, min_nn, max_nn]; (try simp (disch := omega) only [IntWalk.i64_in, IntWalk.u64_in, if_neg, if_pos])<;> rfl) (by simp only [go_sem] <;> rfl) ?_
          iterate 2 (refine Run.op (by simp only [go_sem] <;> rfl) (by simp only [go_sem] <;> rfl) ?_)
          refine Run.nil ?_
          refine Exec.reg ?_
          refine Run.op (by simp only [go_sem] <;> rfl) (by simp only [go_sem] <;> rfl) ?_
          refine Run.op (by simp only [go_sem, hg, hw, Bool.not_true, g8, hme, hlw, hlk, hxp.1, hxp.2.1, hsh, hx, q1, q2, q4, hzr, fa, q3, fb, min_nn, max_nn] <;> rfl) (by simp only [go_sem] <;> rfl) ?_
          refine Run.op (by simp only [go_sem] <;> rfl) (by simp only [go_sem] <;> rfl) ?_
          iterate 2 (refine Run.op (by simp only [go_sem, hg, hw, Bool.not_true, g8, hme, hlw, hlk, hxp.1, hxp.2.1, hsh, hx, q1, q2, q4, hzr, fa, q3, fb, min_nn, max_nn] <;> rfl) (by simp only [go_sem] <;> rfl) ?_)
          refine Run.op (by simp only [go_sem] <;> rfl) (by simp only [go_sem] <;> rfl) ?_
          refine Run.op (by simp only [go_sem, hg, hw, Bool.not_true, g8, hme, hlw, hlk, hxp.1, hxp.2.1, hsh, hx, q1, q2, q4, hzr, fa, q3, fb, min_nn, max_nn] <;> rfl) (by simp only [go_sem] <;> rfl) ?_
          refine Run.op (by simp only [go_sem] <;> rfl) (by simp only [go_sem] <;> rfl) ?_
          iterate 2 (refine Run.op (by simp only [go_sem, hg, hw, Bool.not_true, g8, hme, hlw, hlk, hxp.1, hxp.2.1, hsh, hx, q1, q2, q4, hzr, fa, q3, fb, min_nn, max_nn] <;> rfl) (by simp only [go_sem] <;> rfl) ?_)
          iterate 4 (refine Run.op (by simp only [go_sem] <;> rfl) (by simp only [go_sem] <;> rfl) ?_)
          refine Run.nil ?_
          refine Exec.reg ?_
          refine Run.op (by simp only [go_sem] <;> rfl) (by simp only [go_sem] <;> rfl) ?_
          refine Run.nil ?_
          refine Exec.assocS ?_
          refine Exec.reg ?_
          refine Run.op (by simp only [go_sem] <;> rfl) (by simp only [go_sem] <;> rfl) ?_
          refine Run.op (by simp only [go_sem, hg, hw, Bool.not_true, g8, hme, hlw, hlk, hxp.1, hxp.2.1, hsh, hx, q1, q2, q4, hzr, fa, q3, fb, min_nn, max_nn] <;> rfl) (by simp only [go_sem] <;> rfl) ?_
          refine Run.op (by simp only [go_sem] <;> rfl) (by simp only [go_sem] <;> rfl) ?_
          refine Run.nil ?_
          refine Exec.blk ?_
          refine Exec.forA [3, 9, 22, 30, 31, 192, 193, 194, 254, 255, 256] [4, 11, 13, 61, 64, 66, 67, 23, 27, 30] (lw.length) (fun m => [.slot 256 (.int m), .slot 31 (.bool ((lw.take m).any (eqR (⟨0, ((min ((aN + tN) % w.readings.length) ((bN + tN) % w.readings.length) : Nat) : Int), ((max ((aN + tN) % w.readings.length) ((bN + tN) % w.readings.length) : Nat) : Int), (cN : Int)⟩ : Repair))))]) (fun _ => True) (fun m => by simp only [go_sem] <;> rfl) (by simp only [go_sem, hg, hw, Bool.not_true, g8, hme, hlw, hlk, hxp.1, hxp.2.1, hsh, hx, q1, q2, q4, hzr, fa, q3, fb, min_nn, max_nn, List.take_zero, List.any_nil, Int.natCast_zero] <;> rfl) ?_ (fun m hm Xm => ?_)
          · trivial
          refine Exec.reg ?_
          refine Run.op (by simp only [go_sem, hg, hw, Bool.not_true, g8, hme, hlw, hlk, hxp.1, hxp.2.1, hsh, hx, q1, q2, q4, hzr, fa, q3, fb, min_nn, max_nn] <;> rfl) (by simp only [go_sem] <;> rfl) ?_
          refine Run.nil ?_
          refine Exec.cndS (by simp only [go_sem, hg, hw, Bool.not_true, g8, hme, hlw, hlk, hxp.1, hxp.2.1, hsh, hx, q1, q2, q4, hzr, fa, q3, fb, min_nn, max_nn] <;> rfl) (fun hb257 => ?_) (fun hb257 => ?_)
          · skip
            have hlt3 := lt_of_dec hb257
            obtain ⟨y, hy⟩ : ∃ y, lw[m]? = some y := ⟨_, List.getElem?_eq_getElem hlt3⟩
            have hny := any_takeE (p := eqR (⟨0, ((min ((aN + tN) % w.readings.length) ((bN + tN) % w.readings.length) : Nat) : Int), ((max ((aN + tN) % w.readings.length) ((bN + tN) % w.readings.length) : Nat) : Int), (cN : Int)⟩ : Repair)) hy
            refine Exec.skipS ?_
            refine Exec.blk ?_
            refine Exec.reg ?_
            refine Run.op (by simp only [go_sem, hg, hw, Bool.not_true, g8, hme, hlw, hlk, hxp.1, hxp.2.1, hsh, hx, q1, q2, q4, hzr, fa, q3, fb, min_nn, max_nn, hy, hny]; (try simp (disch := omega) only [if_pos]); (try simp only [go_sem, hg, hw, Bool.not_true, g8, hme, hlw, hlk, hxp.1, hxp.2.1, hsh, hx, q1, q2, q4, hzr, fa, q3, fb, min_nn, max_nn, hy, hny])<;> rfl) (by simp only [go_sem] <;> rfl) ?_
            refine Run.op (by simp only [go_sem, hg, hw, Bool.not_true, g8, hme, hlw, hlk, hxp.1, hxp.2.1, hsh, hx, q1, q2, q4, hzr, fa, q3, fb, min_nn, max_nn, hy, hny] <;> rfl) (by simp only [go_sem] <;> rfl) ?_
            iterate 2 (refine Run.op (by simp only [go_sem] <;> rfl) (by simp only [go_sem] <;> rfl) ?_)
            refine Run.nil ?_
            refine Exec.reg1 ?_
            refine Run.op (by simp only [go_sem] <;> rfl) (by simp only [go_sem] <;> rfl) ?_
            refine Run.op (by simp only [go_sem, hg, hw, Bool.not_true, g8, hme, hlw, hlk, hxp.1, hxp.2.1, hsh, hx, q1, q2, q4, hzr, fa, q3, fb, min_nn, max_nn, hy, hny] <;> rfl) (by simp only [go_sem] <;> rfl) ?_
            iterate 3 (refine Run.gop (by simp only [go_sem] <;> rfl) (by simp only [go_sem, hg, hw, Bool.not_true, g8, hme, hlw, hlk, hxp.1, hxp.2.1, hsh, hx, q1, q2, q4, hzr, fa, q3, fb, min_nn, max_nn, hy, hny] <;> rfl) (by simp only [go_sem] <;> rfl) ?_)
            refine Run.op (by simp only [go_sem, hg, hw, Bool.not_true, g8, hme, hlw, hlk, hxp.1, hxp.2.1, hsh, hx, q1, q2, q4, hzr, fa, q3, fb, min_nn, max_nn, hy, hny] <;> rfl) (by simp only [go_sem] <;> rfl) ?_
            refine Run.op (by simp only [go_sem] <;> rfl) (by simp only [go_sem] <;> rfl) ?_
            refine Run.nil ?_
            refine BlkK.nrm ?_
            refine Exec.reg1 ?_
            refine Run.op (by simp only [go_sem, hg, hw, Bool.not_true, g8, hme, hlw, hlk, hxp.1, hxp.2.1, hsh, hx, q1, q2, q4, hzr, fa, q3, fb, min_nn, max_nn, hy, hny]; (try simp (disch := omega) only [IntWalk.i64_in, IntWalk.u64_in, if_neg, if_pos])<;> rfl) (by simp only [go_sem] <;> rfl) ?_
            refine Run.op (by simp only [go_sem] <;> rfl) (by simp only [go_sem] <;> rfl) ?_
            refine Run.nil ?_
            refine ForK.nxt ?_ ?_ ?_
            · omega
            · exact Ghost.kp [3, 9, 22, 30, 31, 192, 193, 194, 254, 255, 256] [4, 11, 13, 61, 64, 66, 67, 23, 27, 30] (by simp only [go_sem, hg, hw, Bool.not_true, g8, hme, hlw, hlk, hxp.1, hxp.2.1, hsh, hx, q1, q2, q4, hzr, fa, q3, fb, min_nn, max_nn, hy, hny]; first | ((repeat' (first | with_reducible_and_instances rfl | refine st_eq ?_ ?_ ?_ | refine ret_eq ?_ | refine tup_eq ?_ | refine tm_eq ?_ ?_ | refine arr_eq ?_ | refine cells_eq ?_ | refine val_eq ?_ | refine ls_eq ?_ ?_ | refine own_eq ?_ ?_ | refine sl_eq ?_ | refine b_eq ?_ | (refine i_eq ?_; omega))); (all_goals (simp [eqR]))) | rfl)
            · trivial
          have hme2 : m = lw.length := by have := ge_of_dec hb257; omega
          subst hme2
          have hfin := any_eqR hmem
          have hfin2 := hfin
          rw [List.take_length] at hfin2
          refine Exec.exitS ?_
          refine ForK.ext ?_
          refine BlkK.hit ?_
          refine Exec.reg ?_
          refine Run.op (by simp only [go_sem] <;> rfl) (by simp only [go_sem] <;> rfl) ?_
          refine Run.op (by simp only [go_sem, hg, hw, Bool.not_true, g8, hme, hlw, hlk, hxp.1, hxp.2.1, hsh, hx, q1, q2, q4, hzr, fa, q3, fb, min_nn, max_nn, hfin, hfin2, Bool.not_true] <;> rfl) (by simp only [go_sem] <;> rfl) ?_
          refine Run.nil ?_
          refine Exec.cnd (by simp only [go_sem, hg, hw, Bool.not_true, g8, hme, hlw, hlk, hxp.1, hxp.2.1, hsh, hx, q1, q2, q4, hzr, fa, q3, fb, min_nn, max_nn, hfin, hfin2, Bool.not_true] <;> rfl) (fun hb268 => ?_) (fun hb268 => ?_)
          · exact absurd hb268 (by simp)
          refine BlkK.nrm ?_
          refine Exec.reg1 ?_
          refine Run.op (by simp only [go_sem, hg, hw, Bool.not_true, g8, hme, hlw, hlk, hxp.1, hxp.2.1, hsh, hx, q1, q2, q4, hzr, fa, q3, fb, min_nn, max_nn, hfin, hfin2, Bool.not_true]; (try simp (disch := omega) only [IntWalk.i64_in, IntWalk.u64_in, if_neg, if_pos])<;> rfl) (by simp only [go_sem] <;> rfl) ?_
          refine Run.op (by simp only [go_sem] <;> rfl) (by simp only [go_sem] <;> rfl) ?_
          refine Run.nil ?_
          refine ForK.nxt ?_ ?_ ?_
          · omega
          · exact Ghost.kp [3, 9, 22, 192, 193, 194] [] (by simp only [go_sem, hg, hw, Bool.not_true, g8, hme, hlw, hlk, hxp.1, hxp.2.1, hsh, hx, q1, q2, q4, hzr, fa, q3, fb, min_nn, max_nn, hfin, hfin2, Bool.not_true]; first | ((repeat' (first | with_reducible_and_instances rfl | refine st_eq ?_ ?_ ?_ | refine ret_eq ?_ | refine tup_eq ?_ | refine tm_eq ?_ ?_ | refine arr_eq ?_ | refine cells_eq ?_ | refine val_eq ?_ | refine ls_eq ?_ ?_ | refine own_eq ?_ ?_ | refine sl_eq ?_ | refine b_eq ?_ | (refine i_eq ?_; omega))); done) | rfl)
          · trivial
        · exact absurd hb233 (by simp)
      have q0 : (kd == 0) = false := by simpa using hk0
      have hmem : (⟨kd, (((aN + tN) % w.readings.length : Nat) : Int), (bN : Int), (cN : Int)⟩ : Repair) ∈ lw := by
        have e : renR (fun i => (i + tN) % w.readings.length) ⟨kd, (aN : Int), (bN : Int), (cN : Int)⟩ = (⟨kd, (((aN + tN) % w.readings.length : Nat) : Int), (bN : Int), (cN : Int)⟩ : Repair) := by unfold renR; rw [if_neg hk0]; rfl
        rw [← e]; exact hren
      refine Exec.reg ?_
      refine Run.op (by simp only [go_sem] <;> rfl) (by simp only [go_sem] <;> rfl) ?_
      iterate 3 (refine Run.op (by simp only [go_sem, hg, hw, Bool.not_true, g8, hme, hlw, hlk, hxp.1, hxp.2.1, hsh, hx, q1, q2, q4, hzr, fa, q0] <;> rfl) (by simp only [go_sem] <;> rfl) ?_)
      refine Run.yes (by simp only [go_sem] <;> rfl) (by simp only [go_sem] <;> rfl) (by simp only [go_sem] <;> rfl) ?_
      refine Run.yes (by simp only [go_sem] <;> rfl) (by simp only [go_sem, hg, hw, Bool.not_true, g8, hme, hlw, hlk, hxp.1, hxp.2.1, hsh, hx, q1, q2, q4, hzr, fa, q0] <;> rfl) (by simp only [go_sem] <;> rfl) ?_
      refine Run.yes (by simp only [go_sem] <;> rfl) (by simp only [go_sem] <;> rfl) (by simp only [go_sem] <;> rfl) ?_
      refine Run.yes (by simp only [go_sem] <;> rfl) (by simp only [go_sem, hg, hw, Bool.not_true, g8, hme, hlw, hlk, hxp.1, hxp.2.1, hsh, hx, q1, q2, q4, hzr, fa, q0] <;> rfl) (by simp only [go_sem] <;> rfl) ?_
      iterate 2 (refine Run.op (by simp only [go_sem, hg, hw, Bool.not_true, g8, hme, hlw, hlk, hxp.1, hxp.2.1, hsh, hx, q1, q2, q4, hzr, fa, q0] <;> rfl) (by simp only [go_sem] <;> rfl) ?_)
      refine Run.yes (by simp only [go_sem] <;> rfl) (by simp only [go_sem] <;> rfl) (by simp only [go_sem] <;> rfl) ?_
      iterate 2 (refine Run.yes (by simp only [go_sem] <;> rfl) (by simp only [go_sem, hg, hw, Bool.not_true, g8, hme, hlw, hlk, hxp.1, hxp.2.1, hsh, hx, q1, q2, q4, hzr, fa, q0] <;> rfl) (by simp only [go_sem] <;> rfl) ?_)
      iterate 2 (refine Run.op (by simp only [go_sem, hg, hw, Bool.not_true, g8, hme, hlw, hlk, hxp.1, hxp.2.1, hsh, hx, q1, q2, q4, hzr, fa, q0] <;> rfl) (by simp only [go_sem] <;> rfl) ?_)
      refine Run.yes (by simp only [go_sem] <;> rfl) (by simp only [go_sem] <;> rfl) (by simp only [go_sem] <;> rfl) ?_
      iterate 3 (refine Run.yes (by simp only [go_sem] <;> rfl) (by simp only [go_sem, hg, hw, Bool.not_true, g8, hme, hlw, hlk, hxp.1, hxp.2.1, hsh, hx, q1, q2, q4, hzr, fa, q0] <;> rfl) (by simp only [go_sem] <;> rfl) ?_)
      iterate 4 (refine Run.skp (by simp only [go_sem] <;> rfl) (by simp only [go_sem] <;> rfl) ?_)
      refine Run.yes (by simp only [go_sem] <;> rfl) (by simp only [go_sem, hg, hw, Bool.not_true, g8, hme, hlw, hlk, hxp.1, hxp.2.1, hsh, hx, q1, q2, q4, hzr, fa, q0] <;> rfl) (by simp only [go_sem] <;> rfl) ?_
      refine Run.op (by simp only [go_sem, hg, hw, Bool.not_true, g8, hme, hlw, hlk, hxp.1, hxp.2.1, hsh, hx, q1, q2, q4, hzr, fa, q0] <;> rfl) (by simp only [go_sem] <;> rfl) ?_
      refine Run.nil ?_
      refine Exec.cndS (by simp only [go_sem, hg, hw, Bool.not_true, g8, hme, hlw, hlk, hxp.1, hxp.2.1, hsh, hx, q1, q2, q4, hzr, fa, q0] <;> rfl) (fun hb222 => ?_) (fun hb222 => ?_)
      · exact absurd hb222 (by simp)
      refine Exec.skipS ?_
      refine Exec.reg ?_
      refine Run.op (by simp only [go_sem] <;> rfl) (by simp only [go_sem] <;> rfl) ?_
      refine Run.op (by simp only [go_sem, hg, hw, Bool.not_true, g8, hme, hlw, hlk, hxp.1, hxp.2.1, hsh, hx, q1, q2, q4, hzr, fa, q0] <;> rfl) (by simp only [go_sem] <;> rfl) ?_
      refine Run.op (by simp only [go_sem] <;> rfl) (by simp only [go_sem] <;> rfl) ?_
      iterate 2 (refine Run.op (by simp only [go_sem, hg, hw, Bool.not_true, g8, hme, hlw, hlk, hxp.1, hxp.2.1, hsh, hx, q1, q2, q4, hzr, fa, q0]; (try simp (disch := omega) only [IntWalk.i64_in, IntWalk.u64_in, if_neg, if_pos])<;> rfl) (by simp only [go_sem] <;> rfl) ?_)
      refine Run.op (by simp only [go_sem] <;> rfl) (by simp only [go_sem] <;> rfl) ?_
      refine Run.op (by simp only [go_sem, hg, hw, Bool.not_true, g8, hme, hlw, hlk, hxp.1, hxp.2.1, hsh, hx, q1, q2, q4, hzr, fa, q0]; (try simp (disch := omega) only [IntWalk.i64_in, IntWalk.u64_in, if_neg, if_pos])<;> rfl) (by simp only [go_sem] <;> rfl) ?_
      iterate 2 (refine Run.op (by simp only [go_sem] <;> rfl) (by simp only [go_sem] <;> rfl) ?_)
      refine Run.nil ?_
      refine Exec.assocS ?_
      refine Exec.reg ?_
      refine Run.op (by simp only [go_sem] <;> rfl) (by simp only [go_sem] <;> rfl) ?_
      iterate 2 (refine Run.op (by simp only [go_sem, hg, hw, Bool.not_true, g8, hme, hlw, hlk, hxp.1, hxp.2.1, hsh, hx, q1, q2, q4, hzr, fa, q0] <;> rfl) (by simp only [go_sem] <;> rfl) ?_)
      refine Run.nil ?_
      refine Exec.cndS (by simp only [go_sem, hg, hw, Bool.not_true, g8, hme, hlw, hlk, hxp.1, hxp.2.1, hsh, hx, q1, q2, q4, hzr, fa, q0] <;> rfl) (fun hb233 => ?_) (fun hb233 => ?_)
      · exact absurd hb233 (by simp)
      refine Exec.skipS ?_
      refine Exec.reg ?_
      refine Run.op (by simp only [go_sem] <;> rfl) (by simp only [go_sem] <;> rfl) ?_
      refine Run.nil ?_
      refine Exec.assocS ?_
      refine Exec.reg ?_
      refine Run.op (by simp only [go_sem] <;> rfl) (by simp only [go_sem] <;> rfl) ?_
      refine Run.op (by simp only [go_sem, hg, hw, Bool.not_true, g8, hme, hlw, hlk, hxp.1, hxp.2.1, hsh, hx, q1, q2, q4, hzr, fa, q0] <;> rfl) (by simp only [go_sem] <;> rfl) ?_
      refine Run.op (by simp only [go_sem] <;> rfl) (by simp only [go_sem] <;> rfl) ?_
      refine Run.nil ?_
      refine Exec.blk ?_
      refine Exec.forA [3, 9, 22, 30, 31, 192, 193, 194, 254, 255, 256] [4, 11, 13, 61, 64, 66, 67, 23, 27, 30] (lw.length) (fun m => [.slot 256 (.int m), .slot 31 (.bool ((lw.take m).any (eqR (⟨kd, (((aN + tN) % w.readings.length : Nat) : Int), (bN : Int), (cN : Int)⟩ : Repair))))]) (fun _ => True) (fun m => by simp only [go_sem] <;> rfl) (by simp only [go_sem, hg, hw, Bool.not_true, g8, hme, hlw, hlk, hxp.1, hxp.2.1, hsh, hx, q1, q2, q4, hzr, fa, q0, List.take_zero, List.any_nil, Int.natCast_zero] <;> rfl) ?_ (fun m hm Xm => ?_)
      · trivial
      refine Exec.reg ?_
      refine Run.op (by simp only [go_sem, hg, hw, Bool.not_true, g8, hme, hlw, hlk, hxp.1, hxp.2.1, hsh, hx, q1, q2, q4, hzr, fa, q0] <;> rfl) (by simp only [go_sem] <;> rfl) ?_
      refine Run.nil ?_
      refine Exec.cndS (by simp only [go_sem, hg, hw, Bool.not_true, g8, hme, hlw, hlk, hxp.1, hxp.2.1, hsh, hx, q1, q2, q4, hzr, fa, q0] <;> rfl) (fun hb257 => ?_) (fun hb257 => ?_)
      · skip
        have hlt3 := lt_of_dec hb257
        obtain ⟨y, hy⟩ : ∃ y, lw[m]? = some y := ⟨_, List.getElem?_eq_getElem hlt3⟩
        have hny := any_takeE (p := eqR (⟨kd, (((aN + tN) % w.readings.length : Nat) : Int), (bN : Int), (cN : Int)⟩ : Repair)) hy
        refine Exec.skipS ?_
        refine Exec.blk ?_
        refine Exec.reg ?_
        refine Run.op (by simp only [go_sem, hg, hw, Bool.not_true, g8, hme, hlw, hlk, hxp.1, hxp.2.1, hsh, hx, q1, q2, q4, hzr, fa, q0, hy, hny]; (try simp (disch := omega) only [if_pos]); (try simp only [go_sem, hg, hw, Bool.not_true, g8, hme, hlw, hlk, hxp.1, hxp.2.1, hsh, hx, q1, q2, q4, hzr, fa, q0, hy, hny])<;> rfl) (by simp only [go_sem] <;> rfl) ?_
        refine Run.op (by simp only [go_sem, hg, hw, Bool.not_true, g8, hme, hlw, hlk, hxp.1, hxp.2.1, hsh, hx, q1, q2, q4, hzr, fa, q0, hy, hny] <;> rfl) (by simp only [go_sem] <;> rfl) ?_
        iterate 2 (refine Run.op (by simp only [go_sem] <;> rfl) (by simp only [go_sem] <;> rfl) ?_)
        refine Run.nil ?_
        refine Exec.reg1 ?_
        refine Run.op (by simp only [go_sem] <;> rfl) (by simp only [go_sem] <;> rfl) ?_
        refine Run.op (by simp only [go_sem, hg, hw, Bool.not_true, g8, hme, hlw, hlk, hxp.1, hxp.2.1, hsh, hx, q1, q2, q4, hzr, fa, q0, hy, hny] <;> rfl) (by simp only [go_sem] <;> rfl) ?_
        iterate 3 (refine Run.gop (by simp only [go_sem] <;> rfl) (by simp only [go_sem, hg, hw, Bool.not_true, g8, hme, hlw, hlk, hxp.1, hxp.2.1, hsh, hx, q1, q2, q4, hzr, fa, q0, hy, hny] <;> rfl) (by simp only [go_sem] <;> rfl) ?_)
        refine Run.op (by simp only [go_sem, hg, hw, Bool.not_true, g8, hme, hlw, hlk, hxp.1, hxp.2.1, hsh, hx, q1, q2, q4, hzr, fa, q0, hy, hny] <;> rfl) (by simp only [go_sem] <;> rfl) ?_
        refine Run.op (by simp only [go_sem] <;> rfl) (by simp only [go_sem] <;> rfl) ?_
        refine Run.nil ?_
        refine BlkK.nrm ?_
        refine Exec.reg1 ?_
        refine Run.op (by simp only [go_sem, hg, hw, Bool.not_true, g8, hme, hlw, hlk, hxp.1, hxp.2.1, hsh, hx, q1, q2, q4, hzr, fa, q0, hy, hny]; (try simp (disch := omega) only [IntWalk.i64_in, IntWalk.u64_in, if_neg, if_pos])<;> rfl) (by simp only [go_sem] <;> rfl) ?_
        refine Run.op (by simp only [go_sem] <;> rfl) (by simp only [go_sem] <;> rfl) ?_
        refine Run.nil ?_
        refine ForK.nxt ?_ ?_ ?_
        · omega
        · exact Ghost.kp [3, 9, 22, 30, 31, 192, 193, 194, 254, 255, 256] [4, 11, 13, 61, 64, 66, 67, 23, 27, 30] (by simp only [go_sem, hg, hw, Bool.not_true, g8, hme, hlw, hlk, hxp.1, hxp.2.1, hsh, hx, q1, q2, q4, hzr, fa, q0, hy, hny]; first | ((repeat' (first | with_reducible_and_instances rfl | refine st_eq ?_ ?_ ?_ | refine ret_eq ?_ | refine tup_eq ?_ | refine tm_eq ?_ ?_ | refine arr_eq ?_ | refine cells_eq ?_ | refine val_eq ?_ | refine ls_eq ?_ ?_ | refine own_eq ?_ ?_ | refine sl_eq ?_ | refine b_eq ?_ | (refine i_eq ?_; omega))); (all_goals (simp [eqR]))) | rfl)
        · trivial
      have hme2 : m = lw.length := by have := ge_of_dec hb257; omega
      subst hme2
      have hfin := any_eqR hmem
      have hfin2 := hfin
      rw [List.take_length] at hfin2
      refine Exec.exitS ?_
      refine ForK.ext ?_
      refine BlkK.hit ?_
      refine Exec.reg ?_
      refine Run.op (by simp only [go_sem] <;> rfl) (by simp only [go_sem] <;> rfl) ?_
      refine Run.op (by simp only [go_sem, hg, hw, Bool.not_true, g8, hme, hlw, hlk, hxp.1, hxp.2.1, hsh, hx, q1, q2, q4, hzr, fa, q0, hfin, hfin2, Bool.not_true] <;> rfl) (by simp only [go_sem] <;> rfl) ?_
      refine Run.nil ?_
      refine Exec.cnd (by simp only [go_sem, hg, hw, Bool.not_true, g8, hme, hlw, hlk, hxp.1, hxp.2.1, hsh, hx, q1, q2, q4, hzr, fa, q0, hfin, hfin2, Bool.not_true] <;> rfl) (fun hb268 => ?_) (fun hb268 => ?_)
      · exact absurd hb268 (by simp)
      refine BlkK.nrm ?_
      refine Exec.reg1 ?_
      refine Run.op (by simp only [go_sem, hg, hw, Bool.not_true, g8, hme, hlw, hlk, hxp.1, hxp.2.1, hsh, hx, q1, q2, q4, hzr, fa, q0, hfin, hfin2, Bool.not_true]; (try simp (disch := omega) only [IntWalk.i64_in, IntWalk.u64_in, if_neg, if_pos])<;> rfl) (by simp only [go_sem] <;> rfl) ?_
      refine Run.op (by simp only [go_sem] <;> rfl) (by simp only [go_sem] <;> rfl) ?_
      refine Run.nil ?_
      refine ForK.nxt ?_ ?_ ?_
      · omega
      · exact Ghost.kp [3, 9, 22, 192, 193, 194] [] (by simp only [go_sem, hg, hw, Bool.not_true, g8, hme, hlw, hlk, hxp.1, hxp.2.1, hsh, hx, q1, q2, q4, hzr, fa, q0, hfin, hfin2, Bool.not_true]; first | ((repeat' (first | with_reducible_and_instances rfl | refine st_eq ?_ ?_ ?_ | refine ret_eq ?_ | refine tup_eq ?_ | refine tm_eq ?_ ?_ | refine arr_eq ?_ | refine cells_eq ?_ | refine val_eq ?_ | refine ls_eq ?_ ?_ | refine own_eq ?_ ?_ | refine sl_eq ?_ | refine b_eq ?_ | (refine i_eq ?_; omega))); done) | rfl)
      · trivial
    refine Exec.exitS ?_
    refine ForK.ext ?_
    refine BlkK.hit ?_
    refine Exec.reg ?_
    refine Run.cal (c_law_alive) (by simp only [go_sem]) (by simp only [go_sem, hg, hw, Bool.not_true, g8, hme, hlw, hlk, hxp.1, hxp.2.1, hsh] <;> rfl) (by exact trivial) (fr0) (by simp only [go_sem, hg, hw, Bool.not_true, g8, hme, hlw, hlk, hxp.1, hxp.2.1, hsh] <;> rfl) ?_
    refine Run.op (by simp only [go_sem] <;> rfl) (by simp only [go_sem] <;> rfl) ?_
    refine Run.nil ?_
    exact Ends.fin [] (rs := [.tmp 8]) rfl (by simp only [go_sem, hg, hw, Bool.not_true, g8, hme, hlw, hlk, hxp.1, hxp.2.1, hsh] <;> rfl) (by simp only [go_sem, hg, hw, Bool.not_true, g8, hme, hlw, hlk, hxp.1, hxp.2.1, hsh] <;> first | rfl | ((repeat' (first | with_reducible_and_instances rfl | refine st_eq ?_ ?_ ?_ | refine ret_eq ?_ | refine tup_eq ?_ | refine tm_eq ?_ ?_ | refine arr_eq ?_ | refine cells_eq ?_ | refine val_eq ?_ | refine ls_eq ?_ ?_ | refine own_eq ?_ ?_ | refine sl_eq ?_ | refine b_eq ?_ | (refine i_eq ?_; omega))); done))

end Go.Mw

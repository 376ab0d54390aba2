/- The statements about the card. -/
import Derived.Test.YtfmdonllhchdpaaB10
import Derived.Test.YtfmdonllhchdpaaB3
import Derived.Test.YtfmdonllhchdpaaB4
set_option linter.unusedSimpArgs false
set_option linter.unusedVariables false
set_option linter.unusedSectionVars false
set_option linter.deprecated false
namespace Go.Mw
open Go.Proofs
theorem great_no {w : Walk} {n : Int} (h : greatB w n = false) : (w.rates.length ≤ 14 ∧ w.readings.length ≤ 32) ∧ ((w.readings.length : Int) ≤ n ∨ 24 < w.readings.length) := by
  unfold greatB at h
  simp only [Bool.or_eq_false_iff, Bool.and_eq_false_iff, decide_eq_false_iff_not] at h
  omega
theorem h20_great {w : Walk} {n : Int} (h : greatB w n = false) (hn : n ≤ 30) : walkB w = true → ∀ h, (ofS w h).length ≤ 39 := fun hw => by
  have h1 := great_no h
  have h2 := walk_len hw
  exact h20_of (by omega)
theorem len_all {w : Walk} (hw : walkB w = true) : (allS w).length ≤ 1000 := by
  have hn := (walk_len hw).2.2
  have b1 := len_swN hn w.readings.length
  have b2 := len_cpN w w.readings.length
  have b3 := len_ltN w w.readings.length
  unfold allS
  rw [List.length_append, List.length_append]
  omega
end Go.Mw
namespace Go.Mw
open Go.RowKit Go.ChangeShapes Go.WideShapes

section
variable {H : Type} {enc : TypeId × Value → H} {P : Program} {w : World} {base : Nat} {spare : Nat → Bool} {held : Bool} {v : Value} {d : DataW H} {ps : List MemPlace} {t : TypeId}
theorem trodAll_five {t0 t1 t2 t3 t4 : TypeId} {args : Array Value} {ds : List (DataW H)} (h : DataW.TrodAll enc P w base spare held [t0, t1, t2, t3, t4] args.toList ds ps) :
    ∃ v0 v1 v2 v3 v4 d0 d1 d2 d3 d4 p0 p1 p2 p3 p4, args = #[v0, v1, v2, v3, v4] ∧ ds = [d0, d1, d2, d3, d4] ∧ ps = p0 ++ p1 ++ p2 ++ p3 ++ p4 ∧ DataW.Trod enc P w base spare held t0 v0 d0 p0 ∧ DataW.Trod enc P w base spare held t1 v1 d1 p1 ∧
      DataW.Trod enc P w base spare held t2 v2 d2 p2 ∧ DataW.Trod enc P w base spare held t3 v3 d3 p3 ∧ DataW.Trod enc P w base spare held t4 v4 d4 p4 := by
  obtain ⟨v0, vs0, d0, ds0, p0, q0, hargs, rfl, rfl, h0, h⟩ := trodAll_cons h
  obtain ⟨v1, vs1, d1, ds1, p1, q1, rfl, rfl, rfl, h1, h⟩ := trodAll_cons h
  obtain ⟨v2, vs2, d2, ds2, p2, q2, rfl, rfl, rfl, h2, h⟩ := trodAll_cons h
  obtain ⟨v3, vs3, d3, ds3, p3, q3, rfl, rfl, rfl, h3, h⟩ := trodAll_cons h
  obtain ⟨v4, vs4, d4, ds4, p4, q4, rfl, rfl, rfl, h4, h⟩ := trodAll_cons h
  obtain ⟨rfl, rfl, rfl⟩ := trodAll_nil h
  exact ⟨v0, v1, v2, v3, v4, d0, d1, d2, d3, d4, p0, p1, p2, p3, p4, by cases args; simp_all, rfl, by simp, h0, h1, h2, h3, h4⟩
theorem int_read {k : IntKind} {b0 : Nat} {r : Reach} (ht : P.underlying t = some (.int k)) (hv : Value.okWide P w r b0 t v) (h : DataW.Trod enc P w base spare held t v d ps) :
    ∃ n : Int, (Lit.int k n).wf = true ∧ RepV (fun b _ => b < w.heap.size) noVal (look []) w (.leaf (.d (.raw (.int k n)))) v := by
  obtain ⟨n, rfl, _, _, hw⟩ := open_int ht hv h
  exact ⟨n, hw, _, rfl, .raw _ rfl⟩
theorem u8_read {b0 : Nat} {r : Reach} (ht : P.underlying t = some (.int .u8)) (hv : Value.okWide P w r b0 t v) (h : DataW.Trod enc P w base spare held t v d ps) :
    ∃ n : Nat, n ≤ 255 ∧ RepV (fun b _ => b < w.heap.size) noVal (look []) w (.leaf (.d (.raw (.int .u8 (n : Int))))) v := by
  obtain ⟨n, hw, hr⟩ := int_read ht hv h
  have h2 : 0 ≤ n ∧ n ≤ 255 := by
    simp only [Lit.wf, Bool.and_eq_true, decide_eq_true_eq] at hw
    have e1 : IntKind.u8.min = 0 := by decide
    have e2 : IntKind.u8.max = 255 := by decide
    omega
  refine ⟨n.toNat, by omega, ?_⟩
  rw [show ((n.toNat : Nat) : Int) = n by omega]
  exact hr
/-- A slice of plain cells, as an argument. -/
theorem sl_read {e : TypeId} {ks : List LK} (ht : P.underlying t = some (.slice e)) (hk : flatK P e = some ks) (hc : P.cellsOf e = ks.length) (h0 : 0 < ks.length) {b0 : Nat} {r : Reach} (hv : Value.okWide P w r b0 t v) (h : DataW.Trod enc P w base spare held t v d ps) :
    ∃ rows : List (List Value), (∀ r ∈ rows, All2 LK.has ks r) ∧ RepV (fun b _ => b < w.heap.size) noVal (look []) w (.leaf (.d (.sl ks.length (rows.map (·.map .raw))))) v := by
  obtain ⟨fuel, hf⟩ := h
  obtain ⟨u, rows, e1, hr, hd⟩ := slice_read ht hk hc h0 hf
  have hvu : v = u := by
    unfold Value.okWide at hv
    rw [ht] at hv
    simp only [Cell.okWide, ht] at hv
    cases v <;> first | (simp only [Value.cells] at e1; exact (List.cons.inj e1).1) | (simp [Cell.ok, ht] at hv)
  subst hvu
  exact ⟨rows, hr, _, rfl, hd⟩
end
end Go.Mw
namespace Go.Mw
open Go.RowKit Go.ChangeShapes Go.WideShapes

section
variable {H : Type} {enc : TypeId × Value → H} {P : Program} {w : World} {base : Nat} {spare : Nat → Bool} {held : Bool} {v : Value} {d : DataW H} {ps : List MemPlace} {t : TypeId}
theorem sl_len {e : TypeId} {k : Nat} {es : List (List D)} {S : Settled} {ι : Nat → Value} {Q : Nat → Option AO} (ht : P.underlying t = some (.slice e)) {b0 : Nat} {r : Reach} (hv : Value.okWide P w r b0 t v) (h : DataW.Trod enc P w base spare held t v d ps)
    (hr : RepV S ι Q w (.leaf (.d (.sl k es))) v) : es.length ≤ 9223372036854775807 := by
  obtain ⟨fuel, hf⟩ := h
  obtain ⟨l, e1, hd⟩ := hr
  cases e1
  have hd : RepD S w (.sl k es) v := hd
  cases hd with
  | nil => simp
  | sl _ _ b off c vals hc =>
    rcases DataW.trod_slice ht hf with ⟨h0, _⟩ | ⟨a, len, cap, elems, rest, n, _, h0, _, _, hl, hm, _⟩
    · have h1 : [Value.slice (some ⟨b, off, none⟩) es.length c] = [Value.slice none 0 0] := h0
      cases h1
    · have h1 : [Value.slice (some ⟨b, off, none⟩) es.length c] = [Value.slice (some a) len cap] := h0
      injection h1 with h2
      injection h2 with _ h3 _
      have hmx : maxLen = 9223372036854775807 := by decide
      omega
end
end Go.Mw
namespace Go.Mw
open Go.Proofs Go.RowKit Go.ChangeShapes Go.WideShapes

@[go_sem] def encU16 (n : Nat) : List D := [.raw (.int .u16 (n : Int))]
theorem read_u16 (r : List Value) (h : All2 LK.has [.int .u16] r) : ∃ n : Nat, n ≤ 65535 ∧ r.map D.raw = encU16 n := by
  obtain ⟨a, r, rfl, ⟨n, hn, hw⟩, h⟩ := all2_inv h
  have := all2_nil h
  subst hn this
  have h2 : 0 ≤ n ∧ n ≤ 65535 := by
    simp only [Lit.wf, Bool.and_eq_true, decide_eq_true_eq] at hw
    have e1 : IntKind.u16.min = 0 := by decide
    have e2 : IntKind.u16.max = 65535 := by decide
    omega
  refine ⟨n.toNat, by omega, ?_⟩
  show [D.raw (.int .u16 n)] = [D.raw (.int .u16 ((n.toNat : Nat) : Int))]
  rw [show ((n.toNat : Nat) : Int) = n by omega]
theorem rows_u16 : ∀ {rows : List (List Value)}, (∀ r ∈ rows, All2 LK.has [.int .u16] r) → ∃ l : List Nat, (∀ n ∈ l, n ≤ 65535) ∧ rows.map (·.map D.raw) = l.map encU16
  | [], _ => ⟨[], by simp, rfl⟩
  | r :: rows, h => by
    obtain ⟨n, hn, hr⟩ := read_u16 r (h r (by simp))
    obtain ⟨l, hl, hl2⟩ := rows_u16 (rows := rows) fun q hq => h q (List.mem_cons_of_mem _ hq)
    refine ⟨n :: l, fun m hm => ?_, by rw [List.map_cons, List.map_cons, hr, hl2]⟩
    rcases List.mem_cons.1 hm with rfl | hm
    · exact hn
    · exact hl m hm
section
variable {H : Type} {enc : TypeId × Value → H} {W : World} {v : Value} {d : DataW H} {ps : List MemPlace}
set_option maxRecDepth 20000 in
theorem spans_read {b0 : Nat} {r : Reach} (hv : Value.okWide Try.prog W r b0 22 v) (h : DataW.Trod enc Try.prog W 0 (fun _ => true) true 22 v d ps) :
    ∃ l : List Span, RepV (fun b _ => b < W.heap.size) noVal (look []) W (.leaf (.d (.sl 2 (l.map encSpan)))) v := by
  obtain ⟨rows, hr, hd⟩ := sl_read (P := Try.prog) (e := 32) (ks := [.int .i64, .int .i64]) (by kernel_rfl) (by kernel_rfl) (by kernel_rfl) (by decide) hv h
  obtain ⟨l, hl⟩ := rows_enc read_span hr
  rw [hl] at hd
  exact ⟨l, hd⟩
set_option maxRecDepth 20000 in
theorem u16s_read {b0 : Nat} {r : Reach} (hv : Value.okWide Try.prog W r b0 53 v) (h : DataW.Trod enc Try.prog W 0 (fun _ => true) true 53 v d ps) :
    ∃ l : List Nat, (∀ n ∈ l, n ≤ 65535) ∧ RepV (fun b _ => b < W.heap.size) noVal (look []) W (.leaf (.d (.sl 1 (l.map encU16)))) v := by
  obtain ⟨rows, hr, hd⟩ := sl_read (P := Try.prog) (e := 88) (ks := [.int .u16]) (by kernel_rfl) (by kernel_rfl) (by kernel_rfl) (by decide) hv h
  obtain ⟨l, hl, hl2⟩ := rows_u16 hr
  rw [hl2] at hd
  exact ⟨l, hl, hd⟩
end
end Go.Mw
namespace Go.Mw

def tkL (s : Span) (n : Int) : Int := if n < 0 then s.hi * n else s.lo * n
def tkH (s : Span) (n : Int) : Int := if n < 0 then s.lo * n else s.hi * n
def rtOk (s : Span) : Prop := 0 ≤ s.lo ∧ s.lo ≤ s.hi
theorem tk_neg (s : Span) (n : Int) : tkL s (-n) = - tkH s n := by
  unfold tkL tkH
  rcases Int.lt_trichotomy n 0 with h | h | h
  · rw [if_neg (by omega), if_pos h, Int.mul_neg]
  · subst h; simp
  · rw [if_pos (by omega), if_neg (by omega), Int.mul_neg]
theorem tk_neg2 (s : Span) (n : Int) : tkH s (-n) = - tkL s n := by
  have := tk_neg s (-n)
  rw [Int.neg_neg] at this
  omega
theorem tk_le {s : Span} (hs : rtOk s) (n : Int) : tkL s n ≤ tkH s n := by
  unfold tkL tkH
  obtain ⟨h1, h2⟩ := hs
  split
  · have := Int.mul_le_mul_of_nonpos_right h2 (show n ≤ 0 by omega); omega
  · have := Int.mul_le_mul_of_nonneg_right h2 (show 0 ≤ n by omega); omega
theorem tkL_sub {s : Span} (hs : rtOk s) (a b : Int) : tkL s a + tkL s b ≤ tkL s (a + b) := by
  obtain ⟨h1, h2⟩ := hs
  have key : ∀ n : Int, n ≤ 0 → s.hi * n ≤ s.lo * n := fun n hn => Int.mul_le_mul_of_nonpos_right h2 hn
  have key2 : ∀ n : Int, 0 ≤ n → s.lo * n ≤ s.hi * n := fun n hn => Int.mul_le_mul_of_nonneg_right h2 hn
  have e1 := Int.mul_add s.lo a b
  have e2 := Int.mul_add s.hi a b
  unfold tkL
  by_cases ha : a < 0 <;> by_cases hb : b < 0 <;> by_cases hab : a + b < 0
  · rw [if_pos ha, if_pos hb, if_pos hab]; omega
  · omega
  · rw [if_pos ha, if_neg hb, if_pos hab]; have := key2 b (by omega); omega
  · rw [if_pos ha, if_neg hb, if_neg hab]; have := key a (by omega); omega
  · rw [if_neg ha, if_pos hb, if_pos hab]; have := key2 a (by omega); omega
  · rw [if_neg ha, if_pos hb, if_neg hab]; have := key b (by omega); omega
  · omega
  · rw [if_neg ha, if_neg hb, if_neg hab]; omega
theorem tkH_sub {s : Span} (hs : rtOk s) (a b : Int) : tkH s (a + b) ≤ tkH s a + tkH s b := by
  have h := tkL_sub hs (-a) (-b)
  have e : -a + -b = -(a + b) := by omega
  rw [e, tk_neg, tk_neg, tk_neg] at h
  omega
theorem tk_step {s : Span} (hs : rtOk s) (n : Int) : (tkL s n + s.lo ≤ tkL s (n + 1) ∧ tkL s (n + 1) ≤ tkL s n + s.hi) ∧ (tkH s n + s.lo ≤ tkH s (n + 1) ∧ tkH s (n + 1) ≤ tkH s n + s.hi) := by
  obtain ⟨h1, h2⟩ := hs
  have e1 : s.lo * (n + 1) = s.lo * n + s.lo := by rw [Int.mul_add, Int.mul_one]
  have e2 : s.hi * (n + 1) = s.hi * n + s.hi := by rw [Int.mul_add, Int.mul_one]
  unfold tkL tkH
  by_cases ha : n < 0 <;> by_cases hb : n + 1 < 0
  · rw [if_pos ha, if_pos hb, if_pos ha, if_pos hb]; omega
  · have hn : n = -1 := by omega
    subst hn
    rw [if_pos ha, if_neg hb, if_pos ha, if_neg hb]
    simp only [show (-1 : Int) + 1 = 0 by decide, Int.mul_zero, Int.mul_neg, Int.mul_one] at *
    omega
  · omega
  · rw [if_neg ha, if_neg hb, if_neg ha, if_neg hb]; omega

/-- Do two readings of a house fit? -/
def fitP (s : Span) (a b : Reading) : Prop := tkL s (b.day - a.day) ≤ b.shows - a.shows ∧ b.shows - a.shows ≤ tkH s (b.day - a.day)
theorem fit_symm {s : Span} {a b : Reading} (h : fitP s a b) : fitP s b a := by
  unfold fitP at *
  have e : a.day - b.day = -(b.day - a.day) := by omega
  rw [e, tk_neg, tk_neg2]
  omega
theorem fit_refl (s : Span) (a : Reading) : fitP s a a := by
  unfold fitP tkL tkH
  simp
theorem fit_trans {s : Span} {a b c : Reading} (hab : a.day ≤ b.day) (hbc : b.day ≤ c.day) (h1 : fitP s a b) (h2 : fitP s b c) : fitP s a c := by
  unfold fitP tkL tkH at *
  have e : c.day - a.day = (b.day - a.day) + (c.day - b.day) := by omega
  rw [if_neg (by omega), if_neg (by omega)] at h1 h2
  rw [if_neg (by omega), if_neg (by omega), e, Int.mul_add, Int.mul_add]
  omega
theorem two_fit {s : Span} {a b : Reading} (h : a.day ≤ b.day) : twoB s a b = true ↔ fitP s a b := by
  unfold twoB fitP tkL tkH
  rw [if_neg (by omega), if_neg (by omega)]
  simp
theorem bad_none {w : Walk} {s : Span} : ∀ {l : List Nat}, badL w s l = none ↔ ∀ k a b, l[k]? = some a → l[k + 1]? = some b → twoB s (rd w a) (rd w b) = true
  | [] => by simp [badL]
  | [x] => by simp [badL]
  | x :: y :: r => by
    unfold badL
    constructor
    · intro h k a b ha hb
      split at h
      · rename_i ht
        cases k with
        | zero => simp at ha hb; subst ha hb; exact ht
        | succ k => exact (bad_none.1 h) k a b (by simpa using ha) (by simpa using hb)
      · cases h
    · intro h
      rw [if_pos (h 0 x y rfl rfl)]
      exact bad_none.2 fun k a b ha hb => h (k + 1) a b (by simpa using ha) (by simpa using hb)
theorem asc_ofS' (w : Walk) (h : Int) (i j a b : Nat) (hij : i ≤ j) (ha : (ofS w h)[i]? = some a) (hb : (ofS w h)[j]? = some b) : (rd w a).day ≤ (rd w b).day := by
  rcases Nat.lt_or_eq_of_le hij with h1 | rfl
  · exact asc_ofS w h i j a b h1 ha hb
  · rw [ha] at hb; cases hb; exact Int.le_refl _
theorem bad_iff {w : Walk} {h : Nat} : badS w h = none ↔ ∀ x y, x < w.readings.length → y < w.readings.length → (rd w x).house = h → (rd w y).house = h → fitP (rt w h) (rd w x) (rd w y) := by
  unfold badS
  rw [bad_none]
  constructor
  · intro hb
    have hc : ∀ (k i a b : Nat), (ofS w (h : Int))[i]? = some a → (ofS w (h : Int))[i + k]? = some b → fitP (rt w h) (rd w a) (rd w b) := by
      intro k
      induction k with
      | zero =>
        intro i a b ha hb2
        rw [Nat.add_zero, ha] at hb2
        cases hb2; exact fit_refl _ _
      | succ k ih =>
        intro i a b ha hb2
        have hlt := (List.getElem?_eq_some_iff.1 hb2).1
        obtain ⟨c, hcg⟩ : ∃ c, (ofS w (h : Int))[i + k]? = some c := ⟨_, List.getElem?_eq_getElem (by omega)⟩
        have h1 := ih i a c ha hcg
        have h2 := hb (i + k) c b hcg (by rw [show i + k + 1 = i + (k + 1) by omega]; exact hb2)
        rw [two_fit (asc_ofS w h (i + k) (i + (k + 1)) c b (by omega) hcg hb2)] at h2
        exact fit_trans (asc_ofS' w h i (i + k) a c (by omega) ha hcg) (asc_ofS w h (i + k) (i + (k + 1)) c b (by omega) hcg hb2) h1 h2
    intro x y hx hy hxh hyh
    obtain ⟨i, hi⟩ := List.getElem?_of_mem (mem_ofS.2 ⟨hx, hxh⟩)
    obtain ⟨j, hj⟩ := List.getElem?_of_mem (mem_ofS.2 ⟨hy, hyh⟩)
    rcases Nat.le_total i j with hij | hij
    · exact hc (j - i) i x y hi (by rw [show i + (j - i) = j by omega]; exact hj)
    · exact fit_symm (hc (i - j) j y x hj (by rw [show j + (i - j) = i by omega]; exact hi))
  · intro hp k a b ha hb
    have h1 := mem_ofS.1 (List.mem_of_getElem? ha)
    have h2 := mem_ofS.1 (List.mem_of_getElem? hb)
    rw [two_fit (asc_ofS w h k (k + 1) a b (by omega) ha hb)]
    exact hp a b h1.1 h2.1 h1.2 h2.2
theorem rtOk_of {w : Walk} (hw : walkB w = true) {h : Nat} (hh : h < w.rates.length) : rtOk (rt w h) := by
  have := rate_ok hw hh
  exact ⟨this.1, this.2.1⟩
theorem fits_pairs {w : Walk} : fitsS w = true ↔ ∀ (h : Nat) x y, h < w.rates.length → x < w.readings.length → y < w.readings.length → (rd w x).house = h → (rd w y).house = h → fitP (rt w h) (rd w x) (rd w y) := by
  rw [fits_iff]
  constructor
  · intro hf h x y hh hx hy hxh hyh
    exact bad_iff.1 (hf h hh) x y hx hy hxh hyh
  · intro hf h hh
    exact bad_iff.2 fun x y hx hy hxh hyh => hf h x y hh hx hy hxh hyh

/-- What one reading says of another day. -/
theorem xSpan_eq (w : Walk) (s : Span) (day : Int) (i : Nat) : xSpan w s day i = ⟨(rd w i).shows + tkL s (day - (rd w i).day), (rd w i).shows + tkH s (day - (rd w i).day)⟩ := by
  unfold xSpan tkL tkH
  split <;> rfl
theorem shF_le {w : Walk} {s : Span} {day : Int} {l : List Nat} : ∀ {k : Nat}, 0 < k → k ≤ l.length → ∀ n, (shF w s day l k).lo ≤ n ↔ ∀ j i, j < k → l[j]? = some i → (xSpan w s day i).lo ≤ n := by
  intro k hk hkl n
  induction k with
  | zero => omega
  | succ k ih =>
    obtain ⟨i, hi⟩ : ∃ i, l[k]? = some i := ⟨_, List.getElem?_eq_getElem (by omega)⟩
    rw [shF_succ hi]
    by_cases h0 : k = 0
    · subst h0
      rw [if_pos rfl]
      simp only [Int.max_self]
      constructor
      · intro h j i' hj hi'
        have : j = 0 := by omega
        subst this
        rw [hi] at hi'; cases hi'; exact h
      · intro h; exact h 0 i (by omega) hi
    · rw [if_neg h0]
      simp only [Int.max_le]
      rw [ih (by omega) (by omega)]
      constructor
      · rintro ⟨h1, h2⟩ j i' hj hi'
        by_cases hjk : j < k
        · exact h1 j i' hjk hi'
        · have : j = k := by omega
          subst this
          rw [hi] at hi'; cases hi'; exact h2
      · intro h
        exact ⟨fun j i' hj hi' => h j i' (by omega) hi', h k i (by omega) hi⟩
theorem shF_ge {w : Walk} {s : Span} {day : Int} {l : List Nat} : ∀ {k : Nat}, 0 < k → k ≤ l.length → ∀ n, n ≤ (shF w s day l k).hi ↔ ∀ j i, j < k → l[j]? = some i → n ≤ (xSpan w s day i).hi := by
  intro k hk hkl n
  induction k with
  | zero => omega
  | succ k ih =>
    obtain ⟨i, hi⟩ : ∃ i, l[k]? = some i := ⟨_, List.getElem?_eq_getElem (by omega)⟩
    rw [shF_succ hi]
    by_cases h0 : k = 0
    · subst h0
      rw [if_pos rfl]
      simp only [Int.min_self]
      constructor
      · intro h j i' hj hi'
        have : j = 0 := by omega
        subst this
        rw [hi] at hi'; cases hi'; exact h
      · intro h; exact h 0 i (by omega) hi
    · rw [if_neg h0]
      simp only [Int.le_min]
      rw [ih (by omega) (by omega)]
      constructor
      · rintro ⟨h1, h2⟩ j i' hj hi'
        by_cases hjk : j < k
        · exact h1 j i' hjk hi'
        · have : j = k := by omega
          subst this
          rw [hi] at hi'; cases hi'; exact h2
      · intro h
        exact ⟨fun j i' hj hi' => h j i' (by omega) hi', h k i (by omega) hi⟩
/-- When there is something to show. -/
theorem shows_ok {w : Walk} {house day : Int} (h : (showsR w house day).2 = 0) : walkB w = true ∧ (0 ≤ house ∧ house < w.rates.length) ∧ (0 ≤ day ∧ day ≤ 131072) ∧ ofS w house ≠ [] ∧ badS w house.toNat = none ∧
    (showsR w house day).1 = shF w (rt w house.toNat) day (ofS w house) (ofS w house).length := by
  unfold showsR at h ⊢
  split at h
  · simp at h
  · rename_i h1
    rw [if_neg h1]
    split at h
    · simp at h
    · rename_i h2
      rw [if_neg h2]
      split at h
      · simp at h
      · rename_i h3
        rw [if_neg h3]
        split at h
        · simp at h
        · rename_i h4
          rw [if_neg h4]
          have h2' : ¬ inB house 0 ((w.rates.length : Int) - 1) = false ∧ ¬ inB day 0 131072 = false := ⟨fun e => h2 (.inl e), fun e => h2 (.inr e)⟩
          have a1 := inB_iff.1 (by simpa using h2'.1 : inB house 0 ((w.rates.length : Int) - 1) = true)
          have a2 := inB_iff.1 (by simpa using h2'.2 : inB day 0 131072 = true)
          exact ⟨by simpa using h1, ⟨a1.1, by omega⟩, a2, h3, by cases hb : badS w house.toNat <;> simp_all, rfl⟩
/-- What can be shown: just what fits each reading of the house. -/
theorem shows_iff {w : Walk} {house day : Int} (h : (showsR w house day).2 = 0) (n : Int) : ((showsR w house day).1.lo ≤ n ↔ ∀ i, i < w.readings.length → (rd w i).house = house → (rd w i).shows + tkL (rt w house.toNat) (day - (rd w i).day) ≤ n) ∧
    (n ≤ (showsR w house day).1.hi ↔ ∀ i, i < w.readings.length → (rd w i).house = house → n ≤ (rd w i).shows + tkH (rt w house.toNat) (day - (rd w i).day)) := by
  obtain ⟨_, _, _, hne, _, e⟩ := shows_ok h
  have hl := List.length_pos_iff.2 hne
  rw [e, shF_le hl (Nat.le_refl _), shF_ge hl (Nat.le_refl _)]
  simp only [xSpan_eq]
  constructor
  · constructor
    · intro h1 i hi hh
      obtain ⟨j, hj⟩ := List.getElem?_of_mem (mem_ofS.2 ⟨hi, hh⟩)
      exact h1 j i (List.getElem?_eq_some_iff.1 hj).1 hj
    · intro h1 j i _ hi
      have := mem_ofS.1 (List.mem_of_getElem? hi)
      exact h1 i this.1 this.2
  · constructor
    · intro h1 i hi hh
      obtain ⟨j, hj⟩ := List.getElem?_of_mem (mem_ofS.2 ⟨hi, hh⟩)
      exact h1 j i (List.getElem?_eq_some_iff.1 hj).1 hj
    · intro h1 j i _ hi
      have := mem_ofS.1 (List.mem_of_getElem? hi)
      exact h1 i this.1 this.2
end Go.Mw
namespace Go.Mw

theorem shows_pair {w : Walk} {house day : Int} (h : (showsR w house day).2 = 0) : ∀ i j, i < w.readings.length → j < w.readings.length → (rd w i).house = house → (rd w j).house = house → fitP (rt w house.toNat) (rd w i) (rd w j) := by
  obtain ⟨hw, hh, _, _, hb, _⟩ := shows_ok h
  intro i j hi hj hih hjh
  exact bad_iff.1 hb i j hi hj (by omega) (by omega)
theorem shows_rt {w : Walk} {house day : Int} (h : (showsR w house day).2 = 0) : rtOk (rt w house.toNat) := by
  obtain ⟨hw, hh, _⟩ := shows_ok h
  exact rtOk_of hw (by omega)
theorem shows_le {w : Walk} {house day : Int} (h : (showsR w house day).2 = 0) : (showsR w house day).1.lo ≤ (showsR w house day).1.hi := by
  have hs := shows_rt h
  rw [(shows_iff h _).2]
  intro j hj hjh
  rw [(shows_iff h _).1]
  intro i hi hih
  have hp := (shows_pair h i j hi hj hih hjh).1
  have e1 := tkH_sub hs ((rd w i).day - day) (day - (rd w j).day)
  have e2 := tk_neg2 (rt w house.toNat) (day - (rd w i).day)
  have e3 := tk_neg2 (rt w house.toNat) ((rd w j).day - (rd w i).day)
  rw [show -(day - (rd w i).day) = (rd w i).day - day by omega] at e2
  rw [show -((rd w j).day - (rd w i).day) = (rd w i).day - day + (day - (rd w j).day) by omega] at e3
  omega
theorem days_step {w : Walk} {house day : Int} (h : (showsR w house day).2 = 0) (h' : (showsR w house (day + 1)).2 = 0) :
    ((showsR w house day).1.lo + (rt w house.toNat).lo ≤ (showsR w house (day + 1)).1.lo ∧ (showsR w house (day + 1)).1.lo ≤ (showsR w house day).1.lo + (rt w house.toNat).hi) ∧
    ((showsR w house day).1.hi + (rt w house.toNat).lo ≤ (showsR w house (day + 1)).1.hi ∧ (showsR w house (day + 1)).1.hi ≤ (showsR w house day).1.hi + (rt w house.toNat).hi) := by
  have hs := shows_rt h
  have st : ∀ i, _ := fun i => tk_step hs (day - (rd w i).day)
  have en : ∀ i, day + 1 - (rd w i).day = day - (rd w i).day + 1 := fun i => by omega
  have l0 := ((shows_iff h _).1.1 (Int.le_refl _))
  have l1 := ((shows_iff h' _).1.1 (Int.le_refl _))
  have u0 := ((shows_iff h _).2.1 (Int.le_refl _))
  have u1 := ((shows_iff h' _).2.1 (Int.le_refl _))
  refine ⟨⟨?_, ?_⟩, ?_, ?_⟩
  · have : (showsR w house day).1.lo ≤ (showsR w house (day + 1)).1.lo - (rt w house.toNat).lo := (shows_iff h _).1.2 fun i hi hh => by
      have := l1 i hi hh; have := (st i).1; rw [en i] at *; omega
    omega
  · exact (shows_iff h' _).1.2 fun i hi hh => by have := l0 i hi hh; have := (st i).1; rw [en i]; omega
  · exact (shows_iff h' _).2.2 fun i hi hh => by have := u0 i hi hh; have := (st i).2; rw [en i]; omega
  · have : (showsR w house (day + 1)).1.hi - (rt w house.toNat).hi ≤ (showsR w house day).1.hi := (shows_iff h _).2.2 fun i hi hh => by
      have := u1 i hi hh; have := (st i).2; rw [en i] at *; omega
    omega

theorem rd_mem {w : Walk} {i : Nat} (h : i < w.readings.length) : rd w i ∈ w.readings := List.mem_of_getElem? (rd_get h)
theorem mem_rd {w : Walk} {r : Reading} (h : r ∈ w.readings) : ∃ i, i < w.readings.length ∧ rd w i = r := by
  obtain ⟨i, hi⟩ := List.getElem?_of_mem h
  have hl := (List.getElem?_eq_some_iff.1 hi).1
  rw [rd_get hl] at hi
  exact ⟨i, hl, Option.some.inj hi⟩
theorem fits_mem {w : Walk} : fitsS w = true ↔ ∀ (h : Nat), h < w.rates.length → ∀ r ∈ w.readings, ∀ q ∈ w.readings, r.house = h → q.house = h → fitP (rt w h) r q := by
  rw [fits_pairs]
  constructor
  · intro hf h hh r hr q hq hrh hqh
    obtain ⟨i, hi, rfl⟩ := mem_rd hr
    obtain ⟨j, hj, rfl⟩ := mem_rd hq
    exact hf h i j hh hi hj hrh hqh
  · intro hf h x y hh hx hy hxh hyh
    exact hf h hh _ (rd_mem hx) _ (rd_mem hy) hxh hyh
/-- The readings of one house, and one more. -/
def oneH (w : Walk) (house : Int) : List Reading := w.readings.filter fun r => decide (r.house = house)
def oneW (w : Walk) (house day n : Int) : Walk := ⟨w.rates, oneH w house ++ [⟨house, day, n⟩]⟩
theorem mem_oneH {w : Walk} {house : Int} {r : Reading} : r ∈ oneH w house ↔ r ∈ w.readings ∧ r.house = house := by
  unfold oneH; simp
theorem one_walk {w : Walk} {house day n : Int} (h : (showsR w house day).2 = 0) (hl : w.readings.length ≤ 23) (hn : 0 ≤ n ∧ n ≤ 1073741824) : walkB (oneW w house day n) = true := by
  obtain ⟨hw, hh, hd, _⟩ := shows_ok h
  have hle : (oneH w house).length ≤ w.readings.length := List.length_filter_le _ _
  refine walk_mk hw (by simp; omega) fun r hr => ?_
  rcases List.mem_append.1 hr with hr | hr
  · exact readB_mem hw (mem_oneH.1 hr).1
  · rw [List.mem_singleton.1 hr]
    exact readB_iff.2 ⟨⟨by simp only; omega, by simp only; omega⟩, hd, hn⟩
theorem one_fits {w : Walk} {house day n : Int} (h : (showsR w house day).2 = 0) : fitsS (oneW w house day n) = true ↔ (showsR w house day).1.lo ≤ n ∧ n ≤ (showsR w house day).1.hi := by
  obtain ⟨hw, hh, hd, _⟩ := shows_ok h
  rw [fits_mem, (shows_iff h n).1, (shows_iff h n).2]
  have hrt : rt (oneW w house day n) house.toNat = rt w house.toNat := rfl
  have hhN : ((house.toNat : Nat) : Int) = house := by omega
  constructor
  · intro hf
    have key : ∀ i, i < w.readings.length → (rd w i).house = house → fitP (rt w house.toNat) (rd w i) ⟨house, day, n⟩ := fun i hi hih =>
      hf house.toNat (by show house.toNat < w.rates.length; omega) (rd w i) (List.mem_append.2 (.inl (mem_oneH.2 ⟨rd_mem hi, hih⟩))) ⟨house, day, n⟩ (List.mem_append.2 (.inr (by simp))) (by omega) (by simp only; omega)
    constructor
    · intro i hi hih
      have := (key i hi hih).1
      simp only at this; omega
    · intro i hi hih
      have := (key i hi hih).2
      simp only at this; omega
  · rintro ⟨h1, h2⟩ k hk r hr q hq hrk hqk
    have hall : ∀ r, r ∈ (oneW w house day n).readings → r.house = house := fun r hr => by
      rcases List.mem_append.1 hr with hr | hr
      · exact (mem_oneH.1 hr).2
      · rw [List.mem_singleton.1 hr]
    have hkh : k = house.toNat := by have := hall r hr; omega
    subst hkh
    have new : ∀ r, r ∈ oneH w house → fitP (rt w house.toNat) r ⟨house, day, n⟩ := fun r hr => by
      obtain ⟨hm, hrh⟩ := mem_oneH.1 hr
      obtain ⟨i, hi, rfl⟩ := mem_rd hm
      have a1 := h1 i hi hrh
      have a2 := h2 i hi hrh
      unfold fitP
      simp only
      omega
    show fitP (rt w house.toNat) r q
    rcases List.mem_append.1 hr with hr | hr
    · rcases List.mem_append.1 hq with hq | hq
      · obtain ⟨hm, hrh⟩ := mem_oneH.1 hr
        obtain ⟨hm2, hqh⟩ := mem_oneH.1 hq
        obtain ⟨i, hi, rfl⟩ := mem_rd hm
        obtain ⟨j, hj, rfl⟩ := mem_rd hm2
        exact shows_pair h i j hi hj hrh hqh
      · rw [List.mem_singleton.1 hq]; exact new r hr
    · rw [List.mem_singleton.1 hr]
      rcases List.mem_append.1 hq with hq | hq
      · exact fit_symm (new q hq)
      · rw [List.mem_singleton.1 hq]; exact fit_refl _ _
theorem shows_err {w : Walk} {house day : Int} (h : ¬ (showsR w house day).2 = 0) : (showsR w house day).1 = ⟨0, 0⟩ ∧ ((showsR w house day).2 == 1) = !walkB w := by
  unfold showsR at h ⊢
  by_cases h1 : walkB w = false
  · rw [if_pos h1] at h ⊢; rw [h1]; exact ⟨rfl, rfl⟩
  · rw [if_neg h1] at h ⊢
    have h2 : walkB w = true := by simpa using h1
    rw [h2]
    split
    · exact ⟨rfl, rfl⟩
    · split
      · exact ⟨rfl, rfl⟩
      · split
        · exact ⟨rfl, rfl⟩
        · rename_i a b c
          rw [if_neg a, if_neg b, if_neg c] at h
          exact absurd rfl h
theorem shows_bnd {w : Walk} {house day : Int} (h : (showsR w house day).2 = 0) : -100000000000 ≤ (showsR w house day).1.lo ∧ (showsR w house day).1.hi ≤ 100000000000 := by
  obtain ⟨hw, hh, hd, hne, _⟩ := shows_ok h
  obtain ⟨i, hi⟩ : ∃ i, (ofS w house)[0]? = some i := ⟨_, List.getElem?_eq_getElem (List.length_pos_iff.2 hne)⟩
  have hm := mem_ofS.1 (List.mem_of_getElem? hi)
  have hr := read_ok hw hm.1
  have hrt := rate_ok hw (show house.toNat < w.rates.length by omega)
  have l := (shows_iff h _).1.1 (Int.le_refl _) i hm.1 hm.2
  have u := (shows_iff h _).2.1 (Int.le_refl _) i hm.1 hm.2
  have key : ∀ (r : Int), 0 ≤ r → r ≤ 100000 → -13200000000 ≤ r * (day - (rd w i).day) ∧ r * (day - (rd w i).day) ≤ 13200000000 := fun r h1 h2 => by
    have h3 : (r * (day - (rd w i).day)).natAbs ≤ 100000 * 132000 := by rw [Int.natAbs_mul]; exact Nat.mul_le_mul (by omega) (by omega)
    omega
  have k1 := key (rt w house.toNat).lo (by omega) (by omega)
  have k2 := key (rt w house.toNat).hi (by omega) (by omega)
  unfold tkL at l
  unfold tkH at u
  constructor
  · split at l <;> omega
  · split at u <;> omega
theorem misfit_is {m : Walk} (hm : walkB m = true) : (misfitR m).2.2 = if fitsS m = true then 4 else 0 := by
  have h := misfits_fits m
  unfold misfitR
  rw [if_pos hm, ← h]
  cases misfitsS m <;> rfl
def oneK (w : Walk) (house : Int) (k : Nat) : List Reading := (w.readings.take k).filter fun r => decide (r.house = house)
theorem oneK_zero (w : Walk) (house : Int) : oneK w house 0 = [] := by unfold oneK; simp
theorem oneK_succ {w : Walk} {house : Int} {k : Nat} (h : k < w.readings.length) : oneK w house (k + 1) = oneK w house k ++ if (rd w k).house = house then [rd w k] else [] := by
  unfold oneK
  rw [take_succ' (rd_get h), List.filter_append]
  congr 1
  simp only [List.filter_cons, List.filter_nil, decide_eq_true_eq]
theorem oneK_end (w : Walk) (house : Int) : oneK w house w.readings.length = oneH w house := by unfold oneK oneH; rw [List.take_length]
theorem oneK_len (w : Walk) (house : Int) (k : Nat) : (oneK w house k).length ≤ k := Nat.le_trans (List.length_filter_le _ _) (by simp; exact Nat.min_le_left _ _)
def q3 (w : Walk) (house day : Int) : List Int := [(showsR w house day).1.lo, (showsR w house day).1.hi, (showsR w house day).1.lo + ((showsR w house day).1.hi - (showsR w house day).1.lo).tdiv 2]
def q2 (w : Walk) (house day : Int) : List Int := [(showsR w house day).1.lo - 1, (showsR w house day).1.hi + 1]
theorem tdiv2 {a : Int} (h : 0 ≤ a) : 0 ≤ a.tdiv 2 ∧ a.tdiv 2 ≤ a := by
  rw [Int.tdiv_eq_ediv_of_nonneg h]
  omega
theorem q3_in {w : Walk} {house day : Int} (h : (showsR w house day).2 = 0) : ∀ x ∈ q3 w house day, (showsR w house day).1.lo ≤ x ∧ x ≤ (showsR w house day).1.hi := by
  have hle := shows_le h
  have ht := tdiv2 (a := (showsR w house day).1.hi - (showsR w house day).1.lo) (by omega)
  intro x hx
  unfold q3 at hx
  simp only [List.mem_cons, List.not_mem_nil, or_false] at hx
  rcases hx with rfl | rfl | rfl <;> omega
theorem q2_out {w : Walk} {house day : Int} (h : (showsR w house day).2 = 0) : ∀ x ∈ q2 w house day, ¬ ((showsR w house day).1.lo ≤ x ∧ x ≤ (showsR w house day).1.hi) := by
  intro x hx
  unfold q2 at hx
  simp only [List.mem_cons, List.not_mem_nil, or_false] at hx
  rcases hx with rfl | rfl <;> omega
end Go.Mw
namespace Go.Mw

/-- What a meter showed, day by day, if each day took no less and no more than its rate allows. -/
def TruthOk (s : Span) (f : Int → Int) : Prop := ∀ d, 0 ≤ d → s.lo ≤ f (d + 1) - f d ∧ f (d + 1) - f d ≤ s.hi
theorem truth_up {s : Span} {f : Int → Int} (hf : TruthOk s f) (a : Int) (ha : 0 ≤ a) : ∀ n : Nat, s.lo * n ≤ f (a + n) - f a ∧ f (a + n) - f a ≤ s.hi * n
  | 0 => by simp
  | n + 1 => by
    have ih := truth_up hf a ha n
    have h := hf (a + n) (by omega)
    have e : a + ((n + 1 : Nat) : Int) = a + n + 1 := by omega
    have e1 : s.lo * ((n + 1 : Nat) : Int) = s.lo * n + s.lo := by rw [Int.natCast_add, Int.mul_add]; simp
    have e2 : s.hi * ((n + 1 : Nat) : Int) = s.hi * n + s.hi := by rw [Int.natCast_add, Int.mul_add]; simp
    rw [e, e1, e2]
    omega
theorem truth_fit {s : Span} {f : Int → Int} (hf : TruthOk s f) {a b : Reading} (ha : 0 ≤ a.day ∧ a.shows = f a.day) (hb : 0 ≤ b.day ∧ b.shows = f b.day) : fitP s a b := by
  have key : ∀ {a b : Reading}, (0 ≤ a.day ∧ a.shows = f a.day) → (0 ≤ b.day ∧ b.shows = f b.day) → a.day ≤ b.day → fitP s a b := by
    intro a b ha hb hab
    obtain ⟨n, hn⟩ : ∃ n : Nat, b.day = a.day + n := ⟨(b.day - a.day).toNat, by omega⟩
    have h := truth_up hf a.day ha.1 n
    unfold fitP tkL tkH
    rw [hb.2, ha.2, hn, if_neg (by omega), if_neg (by omega), show a.day + (n : Int) - a.day = n by omega]
    exact h
  rcases Int.le_total a.day b.day with h | h
  · exact key ha hb h
  · exact fit_symm (key hb ha h)
end Go.Mw
namespace Go.Mw
theorem tmod_n (a b : Nat) : ((a : Int)).tmod (b : Int) = ((a % b : Nat) : Int) := (Int.ofNat_tmod a b).symm
def byG (by0 : List Nat) (i : Nat) : Nat := by0[i % by0.length]?.getD 0
theorem byG_get {by0 : List Nat} (h : 0 < by0.length) (i : Nat) : by0[i % by0.length]? = some (byG by0 i) := by
  have := Nat.mod_lt i h
  unfold byG
  rw [List.getElem?_eq_getElem this]; rfl
theorem byG_le {by0 : List Nat} (hb : ∀ n ∈ by0, n ≤ 65535) (i : Nat) : byG by0 i ≤ 65535 := by
  unfold byG
  cases h : by0[i % by0.length]? with
  | none => simp
  | some n => exact hb n (List.mem_of_getElem? h)
/-- What a house took on a day. -/
def tookS (s : Span) (house day : Nat) (by0 : List Nat) : Int := s.lo + ((byG by0 (house + day) + day : Nat) : Int).tmod (s.hi - s.lo + 1)
theorem took_in {s : Span} (hs : 0 ≤ s.lo ∧ s.lo ≤ s.hi) (house day : Nat) (by0 : List Nat) : s.lo ≤ tookS s house day by0 ∧ tookS s house day by0 ≤ s.hi := by
  unfold tookS
  have h1 : 0 ≤ ((byG by0 (house + day) + day : Nat) : Int).tmod (s.hi - s.lo + 1) := Int.tmod_nonneg _ (by omega)
  have h2 : ((byG by0 (house + day) + day : Nat) : Int).tmod (s.hi - s.lo + 1) < s.hi - s.lo + 1 := Int.tmod_lt_of_pos _ (by omega)
  omega
/-- What a meter showed day by day. -/
def shwF (s : Span) (house : Nat) (by0 : List Nat) : Nat → Int
  | 0 => ((byG by0 house % 500 : Nat) : Int)
  | d + 1 => shwF s house by0 d + tookS s house d by0
theorem shw_bnd {s : Span} (hs : 0 ≤ s.lo ∧ s.lo ≤ s.hi ∧ s.hi ≤ 100000) (house : Nat) (by0 : List Nat) : ∀ d, 0 ≤ shwF s house by0 d ∧ shwF s house by0 d ≤ 500 + 100000 * (d : Int)
  | 0 => by
    unfold shwF
    have := Nat.mod_lt (byG by0 house) (show 0 < 500 by omega)
    omega
  | d + 1 => by
    have ih := shw_bnd hs house by0 d
    have := took_in ⟨hs.1, hs.2.1⟩ house d by0
    unfold shwF
    omega
def rowI (s : Span) (house : Nat) (by0 : List Nat) (n : Nat) : List Int := (List.range n).map (shwF s house by0)
theorem rowI_succ (s : Span) (house : Nat) (by0 : List Nat) (n : Nat) : rowI s house by0 (n + 1) = rowI s house by0 n ++ [shwF s house by0 n] := by unfold rowI; rw [List.range_succ, List.map_append]; rfl
theorem rowI_len (s : Span) (house : Nat) (by0 : List Nat) (n : Nat) : (rowI s house by0 n).length = n := by unfold rowI; simp
theorem rowI_get {s : Span} {house : Nat} {by0 : List Nat} {n d : Nat} (h : d < n) : (rowI s house by0 n)[d]? = some (shwF s house by0 d) := by unfold rowI; simp [h]
def rtL (rates : List Span) (i : Nat) : Span := rates[i]?.getD ⟨0, 0⟩
theorem rtL_get {rates : List Span} {i : Nat} (h : i < rates.length) : rates[i]? = some (rtL rates i) := by unfold rtL; rw [List.getElem?_eq_getElem h]; rfl
def dayK (by0 : List Nat) : Nat → Nat
  | 0 => 10
  | k + 1 => dayK by0 k + (3 + byG by0 k % 16)
theorem dayK_le (by0 : List Nat) : ∀ k, dayK by0 k ≤ 10 + 18 * k
  | 0 => Nat.le_refl _
  | k + 1 => by
    have := dayK_le by0 k
    have := Nat.mod_lt (byG by0 k) (show 0 < 16 by omega)
    unfold dayK; omega
def addR (rates : List Span) (by0 : List Nat) (k day : Nat) (l : List Reading) (i : Nat) : List Reading := if l.length < 24 ∧ 0 < byG by0 (i + k) % 8 then l ++ [⟨i, day, shwF (rtL rates i) i by0 day⟩] else l
def rowR (rates : List Span) (by0 : List Nat) (k day : Nat) (l : List Reading) : Nat → List Reading
  | 0 => l
  | i + 1 => addR rates by0 k day (rowR rates by0 k day l i) i
def allR (rates : List Span) (by0 : List Nat) : Nat → List Reading
  | 0 => []
  | k + 1 => rowR rates by0 k (dayK by0 k) (allR rates by0 k) rates.length
theorem addR_len {rates : List Span} {by0 : List Nat} {k day i : Nat} {l : List Reading} (h : l.length ≤ 24) : (addR rates by0 k day l i).length ≤ 24 := by
  unfold addR
  split
  · simp; omega
  · exact h
theorem rowR_len {rates : List Span} {by0 : List Nat} {k day : Nat} {l : List Reading} (h : l.length ≤ 24) : ∀ i, (rowR rates by0 k day l i).length ≤ 24
  | 0 => h
  | i + 1 => addR_len (rowR_len h i)
theorem allR_len (rates : List Span) (by0 : List Nat) : ∀ k, (allR rates by0 k).length ≤ 24
  | 0 => by simp [allR]
  | k + 1 => rowR_len (allR_len rates by0 k) _
end Go.Mw
namespace Go.Mw

/-- Rates that can be. -/
def RatesOk (rates : List Span) : Prop := (1 ≤ rates.length ∧ rates.length ≤ 8) ∧ ∀ i, i < rates.length → 0 ≤ (rtL rates i).lo ∧ (rtL rates i).lo ≤ (rtL rates i).hi ∧ (rtL rates i).hi ≤ 100000
theorem rates_ok {rates : List Span} (h : walkB ⟨rates, []⟩ = true) : RatesOk rates := by
  have h1 := walk_len h
  exact ⟨⟨h1.1, h1.2.1⟩, fun i hi => rate_ok (w := ⟨rates, []⟩) h hi⟩
def TrueIn (rates : List Span) (by0 : List Nat) (r : Reading) : Prop := ∃ i d : Nat, i < rates.length ∧ d ≤ 80 ∧ r = ⟨i, d, shwF (rtL rates i) i by0 d⟩
theorem all_true {rates : List Span} {by0 : List Nat} : ∀ k, k ≤ 4 → ∀ r ∈ allR rates by0 k, TrueIn rates by0 r
  | 0, _, r, hr => by simp [allR] at hr
  | k + 1, hk, r, hr => by
    have key : ∀ n, n ≤ rates.length → ∀ r ∈ rowR rates by0 k (dayK by0 k) (allR rates by0 k) n, TrueIn rates by0 r := by
      intro n
      induction n with
      | zero => intro _ r hr; exact all_true k (by omega) r hr
      | succ n ih =>
        intro hn r hr
        have e : rowR rates by0 k (dayK by0 k) (allR rates by0 k) (n + 1) = addR rates by0 k (dayK by0 k) (rowR rates by0 k (dayK by0 k) (allR rates by0 k) n) n := rfl
        rw [e] at hr
        unfold addR at hr
        split at hr
        · rcases List.mem_append.1 hr with hr | hr
          · exact ih (by omega) r hr
          · rw [List.mem_singleton.1 hr]
            exact ⟨n, dayK by0 k, by omega, by have := dayK_le by0 k; omega, rfl⟩
        · exact ih (by omega) r hr
    exact key _ (Nat.le_refl _) r hr
def truF (s : Span) (house : Nat) (by0 : List Nat) (d : Int) : Int := shwF s house by0 d.toNat
theorem tru_ok {s : Span} (hs : 0 ≤ s.lo ∧ s.lo ≤ s.hi) (house : Nat) (by0 : List Nat) : TruthOk s (truF s house by0) := by
  intro d hd
  have h := took_in hs house d.toNat by0
  have e : truF s house by0 (d + 1) = truF s house by0 d + tookS s house d.toNat by0 := by
    unfold truF
    rw [show (d + 1).toNat = d.toNat + 1 by omega]; rfl
  omega
theorem true_pair {rates : List Span} {by0 : List Nat} (hr : RatesOk rates) {a b : Reading} {h : Nat} (hh : h < rates.length) (ha : TrueIn rates by0 a) (hb : TrueIn rates by0 b) (hah : a.house = h) (hbh : b.house = h) : fitP (rtL rates h) a b := by
  obtain ⟨i, d, hi, hd, rfl⟩ := ha
  obtain ⟨j, e, hj, he, rfl⟩ := hb
  simp only at hah hbh
  have : i = h := by omega
  subst this
  have : j = i := by omega
  subst this
  have hs := hr.2 j hj
  exact truth_fit (tru_ok ⟨hs.1, hs.2.1⟩ j by0) ⟨by simp only; omega, by simp only [truF, Int.toNat_natCast]⟩ ⟨by simp only; omega, by simp only [truF, Int.toNat_natCast]⟩
section
variable {rates : List Span} {by0 : List Nat} {l : List Reading}
theorem true_walk (hw : walkB ⟨rates, []⟩ = true) (hl : l.length ≤ 24) (ht : ∀ r ∈ l, TrueIn rates by0 r) : walkB ⟨rates, l⟩ = true := by
  have hr := rates_ok hw
  refine walk_mk hw hl fun r hrl => ?_
  obtain ⟨i, d, hi, hd, rfl⟩ := ht r hrl
  have hb := shw_bnd (hr.2 i hi) i by0 d
  exact readB_iff.2 ⟨⟨by simp only; omega, by simp only; omega⟩, ⟨by simp only; omega, by simp only; omega⟩, by simp only; omega, by simp only; omega⟩
theorem true_fits (hw : walkB ⟨rates, []⟩ = true) (ht : ∀ r ∈ l, TrueIn rates by0 r) : fitsS ⟨rates, l⟩ = true := by
  rw [fits_mem]
  intro h hh r hr q hq hrh hqh
  exact true_pair (rates_ok hw) hh (ht r hr) (ht q hq) hrh hqh
theorem true_shows (hw : walkB ⟨rates, []⟩ = true) (hl : l.length ≤ 24) (ht : ∀ r ∈ l, TrueIn rates by0 r) {i d : Nat} (hi : i < rates.length) (hd : d ≤ 80) (hex : ∃ r ∈ l, r.house = (i : Int)) : (showsR ⟨rates, l⟩ i d).2 = 0 := by
  have h1 := true_walk hw hl ht
  have h2 := true_fits hw ht
  obtain ⟨r, hr, hrh⟩ := hex
  obtain ⟨x, hx, rfl⟩ := mem_rd (w := ⟨rates, l⟩) hr
  have hne : ¬ ofS ⟨rates, l⟩ (i : Int) = [] := fun e => by
    have := mem_ofS.2 ⟨hx, hrh⟩
    rw [e] at this; cases this
  have hb : badS ⟨rates, l⟩ i = none := fits_iff.1 h2 i hi
  unfold showsR
  rw [if_neg (by simp [h1]), if_neg, if_neg hne, if_neg]
  · rw [Int.toNat_natCast, hb]; simp
  · rintro (h | h)
    · rw [inB_not] at h; simp only at h; omega
    · rw [inB_not] at h; omega
theorem true_none (hw : walkB ⟨rates, []⟩ = true) (hl : l.length ≤ 24) (ht : ∀ r ∈ l, TrueIn rates by0 r) {i d : Nat} (hi : i < rates.length) (hd : d ≤ 80) (hex : ¬ ∃ r ∈ l, r.house = (i : Int)) : showsR ⟨rates, l⟩ i d = (⟨0, 0⟩, 4) := by
  have h1 := true_walk hw hl ht
  have hn : ofS ⟨rates, l⟩ (i : Int) = [] := by
    cases ho : ofS ⟨rates, l⟩ (i : Int) with
    | nil => rfl
    | cons x r =>
      have := mem_ofS.1 (show x ∈ ofS ⟨rates, l⟩ (i : Int) by rw [ho]; simp)
      exact absurd ⟨_, rd_mem this.1, this.2⟩ hex
  unfold showsR
  rw [if_neg (by simp [h1]), if_neg, if_pos hn]
  rintro (h | h)
  · rw [inB_not] at h; simp only at h; omega
  · rw [inB_not] at h; omega
theorem true_in (hw : walkB ⟨rates, []⟩ = true) (ht : ∀ r ∈ l, TrueIn rates by0 r) {i d : Nat} (hi : i < rates.length) (h : (showsR ⟨rates, l⟩ i d).2 = 0) (hd : d ≤ 80) :
    (showsR ⟨rates, l⟩ i d).1.lo ≤ shwF (rtL rates i) i by0 d ∧ shwF (rtL rates i) i by0 d ≤ (showsR ⟨rates, l⟩ i d).1.hi := by
  have hme : TrueIn rates by0 ⟨i, d, shwF (rtL rates i) i by0 d⟩ := ⟨i, d, hi, hd, rfl⟩
  constructor
  · rw [(shows_iff h _).1]
    intro j hj hjh
    have hp := true_pair (rates_ok hw) hi (ht _ (rd_mem hj)) hme hjh rfl
    have := hp.1
    simp only at this
    rw [Int.toNat_natCast]
    show (rd ⟨rates, l⟩ j).shows + tkL (rtL rates i) _ ≤ _
    omega
  · rw [(shows_iff h _).2]
    intro j hj hjh
    have hp := true_pair (rates_ok hw) hi (ht _ (rd_mem hj)) hme hjh rfl
    have := hp.2
    simp only at this
    rw [Int.toNat_natCast]
    show _ ≤ (rd ⟨rates, l⟩ j).shows + tkH (rtL rates i) _
    omega
/-- With one reading more no span is wider. -/
theorem true_more {q : Reading} {i d : Nat} (h : (showsR ⟨rates, l⟩ i d).2 = 0) (h' : (showsR ⟨rates, l ++ [q]⟩ i d).2 = 0) : (showsR ⟨rates, l⟩ i d).1.lo ≤ (showsR ⟨rates, l ++ [q]⟩ i d).1.lo ∧ (showsR ⟨rates, l ++ [q]⟩ i d).1.hi ≤ (showsR ⟨rates, l⟩ i d).1.hi := by
  have hrd : ∀ j, j < l.length → rd ⟨rates, l ++ [q]⟩ j = rd ⟨rates, l⟩ j := fun j hj => by unfold rd; simp only; rw [List.getElem?_append_left hj]
  have a := (shows_iff h' _).1.1 (Int.le_refl _)
  have b := (shows_iff h' _).2.1 (Int.le_refl _)
  constructor
  · rw [(shows_iff h _).1]
    intro j hj hjh
    have hj : j < l.length := hj
    have := a j (by simp; omega) (by rw [hrd j hj]; exact hjh)
    rw [hrd j hj] at this
    exact this
  · rw [(shows_iff h _).2]
    intro j hj hjh
    have hj : j < l.length := hj
    have := b j (by simp; omega) (by rw [hrd j hj]; exact hjh)
    rw [hrd j hj] at this
    exact this
/-- On its own day a reading is what is shown. -/
theorem true_own {i z : Nat} {v : Int} (h : (showsR ⟨rates, l ++ [⟨i, z, v⟩]⟩ i z).2 = 0) (hin : (showsR ⟨rates, l ++ [⟨i, z, v⟩]⟩ i z).1.lo ≤ v ∧ v ≤ (showsR ⟨rates, l ++ [⟨i, z, v⟩]⟩ i z).1.hi) : (showsR ⟨rates, l ++ [⟨i, z, v⟩]⟩ i z).1 = ⟨v, v⟩ := by
  have hrd : rd ⟨rates, l ++ [⟨i, z, v⟩]⟩ l.length = ⟨i, z, v⟩ := by unfold rd; simp
  have a := (shows_iff h _).1.1 (Int.le_refl _) l.length (by simp) (by rw [hrd])
  have b := (shows_iff h _).2.1 (Int.le_refl _) l.length (by simp) (by rw [hrd])
  rw [hrd] at a b
  simp only [Int.sub_self] at a b
  have e1 : tkL (rt ⟨rates, l ++ [⟨i, z, v⟩]⟩ (i : Int).toNat) 0 = 0 := by unfold tkL; simp
  have e2 : tkH (rt ⟨rates, l ++ [⟨i, z, v⟩]⟩ (i : Int).toNat) 0 = 0 := by unfold tkH; simp
  rw [e1] at a
  rw [e2] at b
  have h1 : (showsR ⟨rates, l ++ [⟨i, z, v⟩]⟩ i z).1.lo = v := by omega
  have h2 : (showsR ⟨rates, l ++ [⟨i, z, v⟩]⟩ i z).1.hi = v := by omega
  calc (showsR ⟨rates, l ++ [⟨i, z, v⟩]⟩ i z).1 = ⟨(showsR ⟨rates, l ++ [⟨i, z, v⟩]⟩ i z).1.lo, (showsR ⟨rates, l ++ [⟨i, z, v⟩]⟩ i z).1.hi⟩ := rfl
    _ = ⟨v, v⟩ := by rw [h1, h2]
end
end Go.Mw
namespace Go.Mw
open Go.Proofs
set_option maxRecDepth 20000 in
set_option maxHeartbeats 4000000 in
/-- meterworks/meterworkslaw12.took -/
theorem c_law_took (s : Span) (house day : Nat) (by0 : List Nat) (hs : 0 ≤ s.lo ∧ s.lo ≤ s.hi ∧ s.hi ≤ 100000) (hd : house ≤ 1000 ∧ day ≤ 1000) (h0 : 0 < by0.length) (hl : by0.length ≤ 9223372036854775807) (hb : ∀ n ∈ by0, n ≤ 65535) : Contract Try.prog 48 [spanV s, .int house, .int day, .leaf (.d (.sl 1 (by0.map encU16)))] (.int (tookS s house day by0)) [] := by
  have e1 : ((house : Nat) : Int) + ((day : Nat) : Int) = ((house + day : Nat) : Int) := by omega
  have e2 := tmod_n (house + day) by0.length
  have g := byG_get h0 (house + day)
  have gb := byG_le hb (house + day)
  have t1 : (((house + day) % by0.length : Nat) : Int).toNat = (house + day) % by0.length := Int.toNat_natCast _
  have e3 : ((byG by0 (house + day) : Nat) : Int) + ((day : Nat) : Int) = ((byG by0 (house + day) + day : Nat) : Int) := by omega
  have e4 : s.lo + ((byG by0 (house + day) + day : Nat) : Int).tmod (s.hi - s.lo + 1) = tookS s house day by0 := rfl
  have e5 := took_in ⟨hs.1, hs.2.1⟩ house day by0
  have lm := Nat.mod_lt (house + day) h0
  have hz : ¬ ((by0.length : Nat) : Int) = 0 := by omega
  have hz2 : ¬ s.hi - s.lo + 1 = 0 := by omega
  refine con_of follows_mixed Try.func48 rfl (by simp only [List.length_cons, List.length_nil, Try.ntmps48]; omega) (by kernel_rfl) rfl ?_
  refine Exec.reg ?_
  iterate 2 (refine Run.op (by simp only [go_sem, e1, e2, g, t1, e3, e4, hz, hz2] <;> rfl) (by simp only [go_sem] <;> rfl) ?_)
  refine Run.nil ?_
  refine Exec.opk 25 ?_
  refine OpenK.op (by simp only [go_sem, e1, e2, g, t1, e3, e4, hz, hz2] <;> rfl) (by simp only [go_sem] <;> rfl) (by simp only [go_sem] <;> rfl) ?_
  refine OpenK.op (by simp only [go_sem, e1, e2, g, t1, e3, e4, hz, hz2] <;> rfl) (by simp only [go_sem] <;> rfl) (by simp only [go_sem] <;> rfl) ?_
  refine OpenK.op (by simp only [go_sem, e1, e2, g, t1, e3, e4, hz, hz2] <;> rfl) (by simp only [go_sem] <;> rfl) (by simp only [go_sem] <;> rfl) ?_
  refine OpenK.op (by simp only [go_sem, e1, e2, g, t1, e3, e4, hz, hz2] <;> rfl) (by simp only [go_sem] <;> rfl) (by simp only [go_sem] <;> rfl) ?_
  refine OpenK.op (by simp only [go_sem, e1, e2, g, t1, e3, e4, hz, hz2] <;> rfl) (by simp only [go_sem] <;> rfl) (by simp only [go_sem] <;> rfl) ?_
  refine OpenK.op (by simp only [go_sem, e1, e2, g, t1, e3, e4, hz, hz2]; (try simp (disch := omega) only [IntWalk.i64_in, IntWalk.u64_in, if_neg, if_pos])<;> rfl) (by simp only [go_sem] <;> rfl) (by simp only [go_sem] <;> rfl) ?_
  refine OpenK.op (by simp only [go_sem, e1, e2, g, t1, e3, e4, hz, hz2] <;> rfl) (by simp only [go_sem] <;> rfl) (by simp only [go_sem] <;> rfl) ?_
  refine OpenK.op (by simp only [go_sem, e1, e2, g, t1, e3, e4, hz, hz2] <;> rfl) (by simp only [go_sem] <;> rfl) (by simp only [go_sem] <;> rfl) ?_
  refine OpenK.op (by simp only [go_sem, e1, e2, g, t1, e3, e4, hz, hz2]; (try simp (disch := omega) only [IntWalk.i64_in, IntWalk.u64_in, if_neg, if_pos])<;> rfl) (by simp only [go_sem] <;> rfl) (by simp only [go_sem] <;> rfl) ?_
  refine OpenK.op (by simp only [go_sem, e1, e2, g, t1, e3, e4, hz, hz2]; (try simp (disch := omega) only [if_pos]); (try simp only [go_sem, e1, e2, g, t1, e3, e4, hz, hz2])<;> rfl) (by simp only [go_sem] <;> rfl) (by simp only [go_sem] <;> rfl) ?_
  refine OpenK.op (by simp only [go_sem, e1, e2, g, t1, e3, e4, hz, hz2] <;> rfl) (by simp only [go_sem] <;> rfl) (by simp only [go_sem] <;> rfl) ?_
  refine OpenK.op (by simp only [go_sem, e1, e2, g, t1, e3, e4, hz, hz2]; (try simp (disch := omega) only [IntWalk.i64_in, IntWalk.u64_in, if_neg, if_pos])<;> rfl) (by simp only [go_sem] <;> rfl) (by simp only [go_sem] <;> rfl) ?_
  refine OpenK.op (by simp only [go_sem, e1, e2, g, t1, e3, e4, hz, hz2] <;> rfl) (by simp only [go_sem] <;> rfl) (by simp only [go_sem] <;> rfl) ?_
  refine OpenK.op (by simp only [go_sem, e1, e2, g, t1, e3, e4, hz, hz2]; (try simp (disch := omega) only [IntWalk.i64_in, IntWalk.u64_in, if_neg, if_pos])<;> rfl) (by simp only [go_sem] <;> rfl) (by simp only [go_sem] <;> rfl) ?_
  refine OpenK.op (by simp only [go_sem, e1, e2, g, t1, e3, e4, hz, hz2] <;> rfl) (by simp only [go_sem] <;> rfl) (by simp only [go_sem] <;> rfl) ?_
  refine OpenK.op (by simp only [go_sem, e1, e2, g, t1, e3, e4, hz, hz2] <;> rfl) (by simp only [go_sem] <;> rfl) (by simp only [go_sem] <;> rfl) ?_
  refine OpenK.op (by simp only [go_sem, e1, e2, g, t1, e3, e4, hz, hz2] <;> rfl) (by simp only [go_sem] <;> rfl) (by simp only [go_sem] <;> rfl) ?_
  refine OpenK.op (by simp only [go_sem, e1, e2, g, t1, e3, e4, hz, hz2] <;> rfl) (by simp only [go_sem] <;> rfl) (by simp only [go_sem] <;> rfl) ?_
  refine OpenK.op (by simp only [go_sem, e1, e2, g, t1, e3, e4, hz, hz2]; (try simp (disch := omega) only [IntWalk.i64_in, IntWalk.u64_in, if_neg, if_pos])<;> rfl) (by simp only [go_sem] <;> rfl) (by simp only [go_sem] <;> rfl) ?_
  refine OpenK.op (by simp only [go_sem, e1, e2, g, t1, e3, e4, hz, hz2]; (try simp (disch := omega) only [IntWalk.i64_in, IntWalk.u64_in, if_neg, if_pos])<;> rfl) (by simp only [go_sem] <;> rfl) (by simp only [go_sem] <;> rfl) ?_
  refine OpenK.op (by simp only [go_sem, e1, e2, g, t1, e3, e4, hz, hz2]; (try simp (disch := omega) only [IntWalk.i64_in, IntWalk.u64_in, if_neg, if_pos])<;> rfl) (by simp only [go_sem] <;> rfl) (by simp only [go_sem] <;> rfl) ?_
  refine OpenK.op (by simp only [go_sem, e1, e2, g, t1, e3, e4, hz, hz2]; (try simp (disch := omega) only [IntWalk.i64_in, IntWalk.u64_in, if_neg, if_pos])<;> rfl) (by simp only [go_sem] <;> rfl) (by simp only [go_sem] <;> rfl) ?_
  refine OpenK.op (by simp only [go_sem, e1, e2, g, t1, e3, e4, hz, hz2] <;> rfl) (by simp only [go_sem] <;> rfl) (by simp only [go_sem] <;> rfl) ?_
  refine OpenK.nil (OpenE.finT (by kernel_rfl) (by kernel_rfl) (by kernel_rfl) ?_)
  exact Ends.fin [] (rs := [.tmp 8]) rfl (by simp only [go_sem, e1, e2, g, t1, e3, e4, hz, hz2] <;> rfl) (by simp only [go_sem, e1, e2, g, t1, e3, e4, hz, hz2] <;> first | rfl | ((repeat' (first | with_reducible_and_instances rfl | refine st_eq ?_ ?_ ?_ | refine ret_eq ?_ | refine tup_eq ?_ | refine tm_eq ?_ ?_ | refine arr_eq ?_ | refine cells_eq ?_ | refine val_eq ?_ | refine ls_eq ?_ ?_ | refine own_eq ?_ ?_ | refine sl_eq ?_ | refine b_eq ?_ | (refine i_eq ?_; omega))); done))

theorem WkR.walk0 {r : Nat → Nat} {ns : List Nat} (x : D) : WkR r ns (.val true [.d x, .d (.raw (.slice none 0 0))]) (.val true [.d x, .d (.sl 3 [])]) := by
  refine ⟨rfl, fun S ι H w v hr => ?_⟩
  obtain ⟨vs, rfl, ha⟩ := hr
  match vs, ha with
  | [a, b], ⟨h1, h2, _⟩ =>
    have hb := raw_eq h2
    subst hb
    exact ⟨_, rfl, h1, RepD.nil 3 none 0, trivial⟩
def shnD (rates : List Span) (by0 : List Nat) (n : Nat) : List (List D) := (List.range n).map fun i => [.sl 1 ((rowI (rtL rates i) i by0 81).map encInt)]
theorem shnD_succ (rates : List Span) (by0 : List Nat) (n : Nat) : shnD rates by0 (n + 1) = shnD rates by0 n ++ [[.sl 1 ((rowI (rtL rates n) n by0 81).map encInt)]] := by unfold shnD; rw [List.range_succ, List.map_append]; rfl
theorem shnD_len (rates : List Span) (by0 : List Nat) (n : Nat) : (shnD rates by0 n).length = n := by unfold shnD; simp
theorem shnD_get {rates : List Span} {by0 : List Nat} {n i : Nat} (h : i < n) : (shnD rates by0 n)[i]? = some [.sl 1 ((rowI (rtL rates i) i by0 81).map encInt)] := by unfold shnD; simp [h]
set_option maxRecDepth 20000 in
set_option maxHeartbeats 16000000 in
/-- meterworks/meterworkslaw12.round -/
theorem c_law_round (rates : List Span) (by0 : List Nat) (hrl : rates.length ≤ 8) (hr : ∀ i, i < rates.length → 0 ≤ (rtL rates i).lo ∧ (rtL rates i).lo ≤ (rtL rates i).hi ∧ (rtL rates i).hi ≤ 100000) (h0 : 0 < by0.length) (hl : by0.length ≤ 9223372036854775807) (hb : ∀ n ∈ by0, n ≤ 65535) : Contract Try.prog 28 [.leaf (.d (.sl 2 (rates.map encSpan))), .leaf (.d (.sl 1 (by0.map encU16)))] (.tup [(true, [.d (.sl 2 (rates.map encSpan)), .d (.sl 3 ((allR rates by0 4).map encReading))]), (false, [.d (.sl 1 (shnD rates by0 rates.length))])]) [] := by
  have hz : ¬ ((by0.length : Nat) : Int) = 0 := by omega
  refine con_of follows_mixed Try.func28 rfl (by simp only [List.length_cons, List.length_nil, Try.ntmps28]; omega) (by kernel_rfl) rfl ?_
  refine Exec.reg ?_
  iterate 2 (refine Run.op (by simp only [go_sem] <;> rfl) (by simp only [go_sem] <;> rfl) ?_)
  refine Run.nil ?_
  refine Exec.reg ?_
  iterate 3 (refine Run.op (by simp only [go_sem] <;> rfl) (by simp only [go_sem] <;> rfl) ?_)
  refine Run.nil ?_
  refine Exec.assocS ?_
  refine Exec.reg ?_
  refine Run.nilo 5 2000 58 1 (by simp only [go_sem] <;> rfl) (by simp only [go_sem] <;> rfl) (by omega) (by omega) (by simp only [go_sem] <;> rfl) ?_
  refine Run.op (by simp only [go_sem] <;> rfl) (by simp only [go_sem] <;> rfl) ?_
  refine Run.op (by simp only [go_sem, hz] <;> rfl) (by simp only [go_sem] <;> rfl) ?_
  refine Run.op (by simp only [go_sem] <;> rfl) (by simp only [go_sem] <;> rfl) ?_
  refine Run.nil ?_
  refine Exec.blk ?_
  refine Exec.forA [0, 1, 4, 5, 16, 17, 18] [4, 2000] (rates.length) (fun k => [.slot 18 (.int k), .slot 5 (.leaf (.own 2000 0 (shnD rates by0 k).length (shnD rates by0 k).length)), .obj 2000 (.arr 58 1 (shnD rates by0 k))]) (fun _ => True) (fun k => by simp only [go_sem] <;> rfl) (by simp only [go_sem, hz] <;> rfl) ?_ (fun k hk hX => ?_)
  · trivial
  refine Exec.reg ?_
  refine Run.op (by simp only [go_sem, hz] <;> rfl) (by simp only [go_sem] <;> rfl) ?_
  refine Run.nil ?_
  refine Exec.cndS (by simp only [go_sem, hz] <;> rfl) (fun hb19 => ?_) (fun hb19 => ?_)
  · skip
    have hlt := lt_of_dec hb19
    have hs := rtL_get hlt
    have hrk := hr k hlt
    have f1 := tmod_n k by0.length
    have g1 := byG_get h0 k
    have gb := byG_le hb k
    have t1 : ((k % by0.length : Nat) : Int).toNat = k % by0.length := Int.toNat_natCast _
    have lm := Nat.mod_lt k h0
    have f2 : ((byG by0 k : Nat) : Int).tmod 500 = ((byG by0 k % 500 : Nat) : Int) := tmod_n _ 500
    have e0 : shwF (rtL rates k) k by0 0 = ((byG by0 k % 500 : Nat) : Int) := rfl
    have hsl := shnD_len rates by0 k
    refine Exec.skipS ?_
    refine Exec.blk ?_
    refine Exec.reg ?_
    refine Run.op (by simp only [go_sem] <;> rfl) (by simp only [go_sem] <;> rfl) ?_
    refine Run.op (by simp only [go_sem, hz, hs, f1, g1, t1, f2]; (try simp (disch := omega) only [if_pos]); (try simp only [go_sem, hz, hs, f1, g1, t1, f2])<;> rfl) (by simp only [go_sem] <;> rfl) ?_
    refine Run.op (by simp only [go_sem, hz, hs, f1, g1, t1, f2] <;> rfl) (by simp only [go_sem] <;> rfl) ?_
    iterate 3 (refine Run.op (by simp only [go_sem] <;> rfl) (by simp only [go_sem] <;> rfl) ?_)
    refine Run.nil ?_
    refine Exec.reg ?_
    iterate 3 (refine Run.op (by simp only [go_sem] <;> rfl) (by simp only [go_sem] <;> rfl) ?_)
    refine Run.op (by simp only [go_sem, hz, hs, f1, g1, t1, f2] <;> rfl) (by simp only [go_sem] <;> rfl) ?_
    refine Run.op (by simp only [go_sem, hz, hs, f1, g1, t1, f2]; (try simp (disch := omega) only [IntWalk.i64_in, IntWalk.u64_in, if_neg, if_pos])<;> rfl) (by simp only [go_sem] <;> rfl) ?_
    refine Run.op (by simp only [go_sem, hz, hs, f1, g1, t1, f2]; (try simp (disch := omega) only [if_pos]); (try simp only [go_sem, hz, hs, f1, g1, t1, f2])<;> rfl) (by simp only [go_sem] <;> rfl) ?_
    refine Run.op (by simp only [go_sem, hz, hs, f1, g1, t1, f2] <;> rfl) (by simp only [go_sem] <;> rfl) ?_
    iterate 2 (refine Run.op (by simp only [go_sem, hz, hs, f1, g1, t1, f2]; (try simp (disch := omega) only [IntWalk.i64_in, IntWalk.u64_in, if_neg, if_pos])<;> rfl) (by simp only [go_sem] <;> rfl) ?_)
    refine Run.op (by simp only [go_sem] <;> rfl) (by simp only [go_sem] <;> rfl) ?_
    refine Run.nil ?_
    refine Exec.reg ?_
    refine Run.op (by simp only [go_sem] <;> rfl) (by simp only [go_sem] <;> rfl) ?_
    refine Run.nil ?_
    refine Exec.assocS ?_
    refine Exec.reg ?_
    refine Run.nilo 9 1000 3 1 (by simp only [go_sem] <;> rfl) (by simp only [go_sem] <;> rfl) (by omega) (by omega) (by simp only [go_sem] <;> rfl) ?_
    refine Run.op (by simp only [go_sem] <;> rfl) (by simp only [go_sem] <;> rfl) ?_
    refine Run.nil ?_
    refine Exec.blk ?_
    refine Exec.forA [0, 1, 4, 5, 6, 7, 8, 9, 16, 17, 18, 32] [4, 7, 1000, 2000] (81) (fun d => [.slot 32 (.int d), .slot 8 (.int (shwF (rtL rates k) k by0 d)), .slot 9 (.leaf (.own 1000 0 (rowI (rtL rates k) k by0 d).length (rowI (rtL rates k) k by0 d).length)), .obj 1000 (.arr 3 1 ((rowI (rtL rates k) k by0 d).map encInt))]) (fun _ => True) (fun d => by simp only [go_sem] <;> rfl) (by simp only [go_sem, hz, hs, f1, g1, t1, f2, e0] <;> rfl) ?_ (fun d hd Xd => ?_)
    · trivial
    refine Exec.reg ?_
    refine Run.op (by simp only [go_sem, hz, hs, f1, g1, t1, f2] <;> rfl) (by simp only [go_sem] <;> rfl) ?_
    refine Run.nil ?_
    refine Exec.cndS (by simp only [go_sem, hz, hs, f1, g1, t1, f2] <;> rfl) (fun hb33 => ?_) (fun hb33 => ?_)
    · skip
      have hd81 : d < 81 := by have := of_decide_eq_true hb33; omega
      have sb := shw_bnd hrk k by0 d
      have tk := took_in ⟨hrk.1, hrk.2.1⟩ k d by0
      have rl := rowI_len (rtL rates k) k by0 d
      have rs := rowI_succ (rtL rates k) k by0 d
      have es : shwF (rtL rates k) k by0 d + tookS (rtL rates k) k d by0 = shwF (rtL rates k) k by0 (d + 1) := rfl
      refine Exec.skipS ?_
      refine Exec.blk ?_
      refine Exec.reg ?_
      iterate 2 (refine Run.op (by simp only [go_sem] <;> rfl) (by simp only [go_sem] <;> rfl) ?_)
      refine Run.nil ?_
      refine Exec.reg ?_
      iterate 2 (refine Run.op (by simp only [go_sem] <;> rfl) (by simp only [go_sem] <;> rfl) ?_)
      refine Run.op (by simp only [go_sem, hz, hs, f1, g1, t1, f2, es] <;> rfl) (by simp only [go_sem] <;> rfl) ?_
      refine Run.op (by simp only [go_sem, hz, hs, f1, g1, t1, f2, es]; (try simp (disch := omega) only [if_pos]); (try simp only [go_sem, hz, hs, f1, g1, t1, f2, es]) <;> first | (refine ite_run ⟨by (try simp only [List.length_append, List.length_drop, List.length_take, List.length_map, List.length_cons, List.length_nil, List.length_replicate, List.length_set, List.length_range, Nat.zero_add]); omega, by (try simp only [List.length_append, List.length_drop, List.length_take, List.length_map, List.length_cons, List.length_nil, List.length_replicate, List.length_set, List.length_range, Nat.zero_add]); omega, by repeat (first | exact al_nil | assumption | refine al_app ?_ ?_ | refine al_drop ?_ | refine al_take ?_ | exact al_map (fun _ => rfl) | exact al_rep rfl | refine al_cons rfl ?_)⟩ ?_; simp only [go_sem, hz, hs, f1, g1, t1, f2, es] <;> rfl) | (refine ite_run ⟨by (try simp only [List.length_append, List.length_drop, List.length_take, List.length_map, List.length_cons, List.length_nil, List.length_replicate, List.length_set, List.length_range, Nat.zero_add]); omega, by repeat (first | exact al_nil | assumption | refine al_app ?_ ?_ | refine al_drop ?_ | refine al_take ?_ | exact al_map (fun _ => rfl) | exact al_rep rfl | refine al_cons rfl ?_)⟩ ?_; simp only [go_sem, hz, hs, f1, g1, t1, f2, es] <;> rfl) | rfl) (by simp only [go_sem] <;> rfl) ?_
      refine Run.op (by simp only [go_sem] <;> rfl) (by simp only [go_sem] <;> rfl) ?_
      refine Run.nil ?_
      refine Exec.reg1 ?_
      refine Run.op (by simp only [go_sem] <;> rfl) (by simp only [go_sem] <;> rfl) ?_
      refine Run.op (by simp only [go_sem, hz, hs, f1, g1, t1, f2, es] <;> rfl) (by simp only [go_sem] <;> rfl) ?_
      iterate 3 (refine Run.op (by simp only [go_sem] <;> rfl) (by simp only [go_sem] <;> rfl) ?_)
      refine Run.cal (c_law_took (rtL rates k) k d by0 hrk (by omega) h0 hl hb) (by simp only [go_sem]) (by simp only [go_sem, hz, hs, f1, g1, t1, f2, es] <;> rfl) (by exact ⟨by first | exact WkR.pure rfl | exact WkR.nil _ | exact WkR.int (by first | omega | (simp; done) | (simp; omega)), by first | exact WkR.pure rfl | exact WkR.nil _ | exact WkR.int (by first | omega | (simp; done) | (simp; omega)), by first | exact WkR.pure rfl | exact WkR.nil _ | exact WkR.int (by first | omega | (simp; done) | (simp; omega)), by first | exact WkR.pure rfl | exact WkR.nil _ | exact WkR.int (by first | omega | (simp; done) | (simp; omega)), trivial⟩) (fr0) (by simp only [go_sem, hz, hs, f1, g1, t1, f2, es] <;> rfl) ?_
      refine Run.op (by simp only [go_sem, hz, hs, f1, g1, t1, f2, es]; (try simp (disch := omega) only [IntWalk.i64_in, IntWalk.u64_in, if_neg, if_pos])<;> rfl) (by simp only [go_sem] <;> rfl) ?_
      refine Run.op (by simp only [go_sem] <;> rfl) (by simp only [go_sem] <;> rfl) ?_
      refine Run.nil ?_
      refine BlkK.nrm ?_
      refine Exec.reg1 ?_
      refine Run.op (by simp only [go_sem, hz, hs, f1, g1, t1, f2, es]; (try simp (disch := omega) only [IntWalk.i64_in, IntWalk.u64_in, if_neg, if_pos])<;> rfl) (by simp only [go_sem] <;> rfl) ?_
      refine Run.op (by simp only [go_sem] <;> rfl) (by simp only [go_sem] <;> rfl) ?_
      refine Run.nil ?_
      refine ForK.nxt ?_ ?_ ?_
      · omega
      · exact Ghost.kp [0, 1, 4, 5, 6, 7, 8, 9, 16, 17, 18, 32] [4, 7, 1000, 2000] (by simp only [go_sem, hz, hs, f1, g1, t1, f2, es]; first | ((repeat' (first | with_reducible_and_instances rfl | refine st_eq ?_ ?_ ?_ | refine ret_eq ?_ | refine tup_eq ?_ | refine tm_eq ?_ ?_ | refine arr_eq ?_ | refine cells_eq ?_ | refine val_eq ?_ | refine ls_eq ?_ ?_ | refine own_eq ?_ ?_ | refine sl_eq ?_ | refine b_eq ?_ | (refine i_eq ?_; omega))); (all_goals (simp [rs, encInt]))) | rfl)
      · trivial
    have hd81 : d = 81 := by have := of_decide_eq_false hb33; omega
    subst hd81
    have sn := shnD_succ rates by0 k
    have rl := rowI_len (rtL rates k) k by0 81
    have rtk : List.take (rowI (rtL rates k) k by0 81).length (List.map encInt (rowI (rtL rates k) k by0 81)) = List.map encInt (rowI (rtL rates k) k by0 81) := List.take_of_length_le (by simp)
    rw [rl] at rtk
    refine Exec.exitS ?_
    refine ForK.ext ?_
    refine BlkK.hit ?_
    refine Exec.reg1 ?_
    refine Run.frz 1000 (by simp only [go_sem] <;> rfl) ?_
    iterate 2 (refine Run.op (by simp only [go_sem] <;> rfl) (by simp only [go_sem] <;> rfl) ?_)
    refine Run.op (by simp only [go_sem, hz, hs, f1, g1, t1, f2, rl, rtk] <;> rfl) (by simp only [go_sem] <;> rfl) ?_
    refine Run.op (by simp only [go_sem, hz, hs, f1, g1, t1, f2, rl, rtk]; (try simp (disch := omega) only [if_pos]); (try simp only [go_sem, hz, hs, f1, g1, t1, f2, rl, rtk]) <;> first | (refine ite_run ⟨by (try simp only [List.length_append, List.length_drop, List.length_take, List.length_map, List.length_cons, List.length_nil, List.length_replicate, List.length_set, List.length_range, Nat.zero_add]); omega, by (try simp only [List.length_append, List.length_drop, List.length_take, List.length_map, List.length_cons, List.length_nil, List.length_replicate, List.length_set, List.length_range, Nat.zero_add]); omega, by repeat (first | exact al_nil | assumption | refine al_app ?_ ?_ | refine al_drop ?_ | refine al_take ?_ | exact al_map (fun _ => rfl) | exact al_rep rfl | refine al_cons rfl ?_)⟩ ?_; simp only [go_sem, hz, hs, f1, g1, t1, f2, rl, rtk] <;> rfl) | (refine ite_run ⟨by (try simp only [List.length_append, List.length_drop, List.length_take, List.length_map, List.length_cons, List.length_nil, List.length_replicate, List.length_set, List.length_range, Nat.zero_add]); omega, by repeat (first | exact al_nil | assumption | refine al_app ?_ ?_ | refine al_drop ?_ | refine al_take ?_ | exact al_map (fun _ => rfl) | exact al_rep rfl | refine al_cons rfl ?_)⟩ ?_; simp only [go_sem, hz, hs, f1, g1, t1, f2, rl, rtk] <;> rfl) | rfl) (by simp only [go_sem] <;> rfl) ?_
    refine Run.op (by simp only [go_sem] <;> rfl) (by simp only [go_sem] <;> rfl) ?_
    refine Run.nil ?_
    refine BlkK.nrm ?_
    refine Exec.reg1 ?_
    refine Run.op (by simp only [go_sem, hz, hs, f1, g1, t1, f2, rl, rtk]; (try simp (disch := omega) only [IntWalk.i64_in, IntWalk.u64_in, if_neg, if_pos])<;> rfl) (by simp only [go_sem] <;> rfl) ?_
    refine Run.op (by simp only [go_sem] <;> rfl) (by simp only [go_sem] <;> rfl) ?_
    refine Run.nil ?_
    refine ForK.nxt ?_ ?_ ?_
    · omega
    · exact Ghost.kp [0, 1, 4, 5, 16, 17, 18] [4, 2000] (by simp only [go_sem, hz, hs, f1, g1, t1, f2, rl, rtk]; first | ((repeat' (first | with_reducible_and_instances rfl | refine st_eq ?_ ?_ ?_ | refine ret_eq ?_ | refine tup_eq ?_ | refine tm_eq ?_ ?_ | refine arr_eq ?_ | refine cells_eq ?_ | refine val_eq ?_ | refine ls_eq ?_ ?_ | refine own_eq ?_ ?_ | refine sl_eq ?_ | refine b_eq ?_ | (refine i_eq ?_; omega))); (all_goals (first | (simp [sn, rl]; done) | (rw [sn]; simp [List.take_of_length_le, rl])))) | rfl)
    · trivial
  have hek : k = rates.length := by have := ge_of_dec hb19; omega
  subst hek
  refine Exec.exitS ?_
  refine ForK.ext ?_
  refine BlkK.hit ?_
  refine Exec.reg ?_
  refine Run.frz 2000 (by simp only [go_sem] <;> rfl) ?_
  refine Run.nilC 4 1 3000 46 3 (by simp only [go_sem] <;> rfl) (by simp only [go_sem] <;> rfl) (by simp only [go_sem] <;> rfl) (by omega) (by omega) (by simp only [go_sem] <;> rfl) ?_
  refine Run.op (by simp only [go_sem] <;> rfl) (by simp only [go_sem] <;> rfl) ?_
  refine Run.nil ?_
  refine Exec.assocS ?_
  refine Exec.reg ?_
  refine Run.op (by simp only [go_sem] <;> rfl) (by simp only [go_sem] <;> rfl) ?_
  refine Run.nil ?_
  refine Exec.blk ?_
  refine Exec.forA [0, 1, 4, 5, 11, 52] [4, 3000] (4) (fun k => [.slot 52 (.int k), .slot 11 (.int (dayK by0 k)), .obj 4 (.cells [.d (.sl 2 (rates.map encSpan)), .own 3000 0 (allR rates by0 k).length (allR rates by0 k).length]), .obj 3000 (.arr 46 3 ((allR rates by0 k).map encReading))]) (fun _ => True) (fun k => by simp only [go_sem] <;> rfl) (by simp only [go_sem, hz] <;> rfl) ?_ (fun k hk hX => ?_)
  · trivial
  refine Exec.reg ?_
  refine Run.op (by simp only [go_sem, hz] <;> rfl) (by simp only [go_sem] <;> rfl) ?_
  refine Run.nil ?_
  refine Exec.cndS (by simp only [go_sem, hz] <;> rfl) (fun hb53 => ?_) (fun hb53 => ?_)
  · skip
    have hk4 : k < 4 := by have := of_decide_eq_true hb53; omega
    have dk := dayK_le by0 k
    have al := allR_len rates by0 k
    have f1 := tmod_n k by0.length
    have g1 := byG_get h0 k
    have t1 : ((k % by0.length : Nat) : Int).toNat = k % by0.length := Int.toNat_natCast _
    have lm := Nat.mod_lt k h0
    have gb := byG_le hb k
    have f2 : ((byG by0 k : Nat) : Int).tmod 16 = ((byG by0 k % 16 : Nat) : Int) := tmod_n _ 16
    have l16 := Nat.mod_lt (byG by0 k) (show 0 < 16 by omega)
    have ed : ((dayK by0 k : Nat) : Int) + (3 + ((byG by0 k % 16 : Nat) : Int)) = ((dayK by0 (k + 1) : Nat) : Int) := by
      show _ = ((dayK by0 k + (3 + byG by0 k % 16) : Nat) : Int)
      omega
    refine Exec.skipS ?_
    refine Exec.blk ?_
    refine Exec.reg ?_
    iterate 2 (refine Run.op (by simp only [go_sem] <;> rfl) (by simp only [go_sem] <;> rfl) ?_)
    refine Run.nil ?_
    refine Exec.assocS ?_
    refine Exec.reg ?_
    refine Run.op (by simp only [go_sem] <;> rfl) (by simp only [go_sem] <;> rfl) ?_
    refine Run.op (by simp only [go_sem, hz, f1, g1, t1, f2, ed] <;> rfl) (by simp only [go_sem] <;> rfl) ?_
    refine Run.op (by simp only [go_sem] <;> rfl) (by simp only [go_sem] <;> rfl) ?_
    refine Run.nil ?_
    refine Exec.blk ?_
    refine Exec.forA [0, 1, 4, 5, 11, 12, 52, 56, 57] [4, 3000] (rates.length) (fun i => [.slot 57 (.int i), .obj 4 (.cells [.d (.sl 2 (rates.map encSpan)), .own 3000 0 (rowR rates by0 k (dayK by0 k) (allR rates by0 k) i).length (rowR rates by0 k (dayK by0 k) (allR rates by0 k) i).length]), .obj 3000 (.arr 46 3 ((rowR rates by0 k (dayK by0 k) (allR rates by0 k) i).map encReading))]) (fun _ => True) (fun i => by simp only [go_sem] <;> rfl) (by simp only [go_sem, hz, f1, g1, t1, f2, ed] <;> rfl) ?_ (fun i hi Xi => ?_)
    · trivial
    refine Exec.reg ?_
    refine Run.op (by simp only [go_sem, hz, f1, g1, t1, f2, ed] <;> rfl) (by simp only [go_sem] <;> rfl) ?_
    refine Run.nil ?_
    refine Exec.cndS (by simp only [go_sem, hz, f1, g1, t1, f2, ed] <;> rfl) (fun hb58 => ?_) (fun hb58 => ?_)
    · skip
      have hil := lt_of_dec hb58
      have rl := rowR_len (rates := rates) (by0 := by0) (k := k) (day := dayK by0 k) al i
      have f3 : ((i : Nat) : Int) + ((k : Nat) : Int) = ((i + k : Nat) : Int) := by omega
      have f4 := tmod_n (i + k) by0.length
      have g2 := byG_get h0 (i + k)
      have t2 : (((i + k) % by0.length : Nat) : Int).toNat = (i + k) % by0.length := Int.toNat_natCast _
      have lm2 := Nat.mod_lt (i + k) h0
      have gb2 := byG_le hb (i + k)
      have f5 : ((byG by0 (i + k) : Nat) : Int).tmod 8 = ((byG by0 (i + k) % 8 : Nat) : Int) := tmod_n _ 8
      have sg := shnD_get (rates := rates) (by0 := by0) hil
      have dlt : dayK by0 k < 81 := by omega
      have rg := rowI_get (s := rtL rates i) (house := i) (by0 := by0) dlt
      have t3 : ((dayK by0 k : Nat) : Int).toNat = dayK by0 k := Int.toNat_natCast _
      have sl := shnD_len rates by0 rates.length
      have rll := rowI_len (rtL rates i) i by0 81
      refine Exec.skipS ?_
      refine Exec.blk ?_
      refine Exec.reg ?_
      iterate 2 (refine Run.op (by simp only [go_sem] <;> rfl) (by simp only [go_sem] <;> rfl) ?_)
      refine Run.nil ?_
      refine Exec.reg ?_
      refine Run.op (by simp only [go_sem] <;> rfl) (by simp only [go_sem] <;> rfl) ?_
      iterate 4 (refine Run.op (by simp only [go_sem, hz, f1, g1, t1, f2, ed, f3, f4, g2, t2, f5, sg, rg, t3] <;> rfl) (by simp only [go_sem] <;> rfl) ?_)
      iterate 3 (refine Run.gop (by simp only [go_sem] <;> rfl) (by simp only [go_sem] <;> rfl) (by simp only [go_sem] <;> rfl) ?_)
      refine Run.gop (by simp only [go_sem] <;> rfl) (by simp only [go_sem, hz, f1, g1, t1, f2, ed, f3, f4, g2, t2, f5, sg, rg, t3]; (try simp (disch := omega) only [IntWalk.i64_in, IntWalk.u64_in, if_neg, if_pos])<;> rfl) (by simp only [go_sem] <;> rfl) ?_
      refine Run.gop (by simp only [go_sem] <;> rfl) (by simp only [go_sem] <;> rfl) (by simp only [go_sem] <;> rfl) ?_
      refine Run.gop (by simp only [go_sem] <;> rfl) (by simp only [go_sem, hz, f1, g1, t1, f2, ed, f3, f4, g2, t2, f5, sg, rg, t3] <;> rfl) (by simp only [go_sem] <;> rfl) ?_
      refine Run.gop (by simp only [go_sem] <;> rfl) (by simp only [go_sem, hz, f1, g1, t1, f2, ed, f3, f4, g2, t2, f5, sg, rg, t3]; (try simp (disch := omega) only [IntWalk.i64_in, IntWalk.u64_in, if_neg, if_pos])<;> rfl) (by simp only [go_sem] <;> rfl) ?_
      refine Run.gop (by simp only [go_sem] <;> rfl) (by simp only [go_sem, hz, f1, g1, t1, f2, ed, f3, f4, g2, t2, f5, sg, rg, t3]; (try simp (disch := omega) only [if_pos]); (try simp only [go_sem, hz, f1, g1, t1, f2, ed, f3, f4, g2, t2, f5, sg, rg, t3])<;> rfl) (by simp only [go_sem] <;> rfl) ?_
      refine Run.gop (by simp only [go_sem] <;> rfl) (by simp only [go_sem, hz, f1, g1, t1, f2, ed, f3, f4, g2, t2, f5, sg, rg, t3] <;> rfl) (by simp only [go_sem] <;> rfl) ?_
      iterate 2 (refine Run.gop (by simp only [go_sem] <;> rfl) (by simp only [go_sem, hz, f1, g1, t1, f2, ed, f3, f4, g2, t2, f5, sg, rg, t3]; (try simp (disch := omega) only [IntWalk.i64_in, IntWalk.u64_in, if_neg, if_pos])<;> rfl) (by simp only [go_sem] <;> rfl) ?_)
      refine Run.gop (by simp only [go_sem] <;> rfl) (by simp only [go_sem, hz, f1, g1, t1, f2, ed, f3, f4, g2, t2, f5, sg, rg, t3] <;> rfl) (by simp only [go_sem] <;> rfl) ?_
      refine Run.op (by simp only [go_sem, hz, f1, g1, t1, f2, ed, f3, f4, g2, t2, f5, sg, rg, t3] <;> rfl) (by simp only [go_sem] <;> rfl) ?_
      refine Run.nil ?_
      refine Exec.cnd (by simp only [go_sem, hz, f1, g1, t1, f2, ed, f3, f4, g2, t2, f5, sg, rg, t3] <;> rfl) (fun hb77 => ?_) (fun hb77 => ?_)
      · skip
        have hc : (rowR rates by0 k (dayK by0 k) (allR rates by0 k) i).length < 24 ∧ 0 < byG by0 (i + k) % 8 := by simp at hb77; omega
        have er : rowR rates by0 k (dayK by0 k) (allR rates by0 k) (i + 1) = rowR rates by0 k (dayK by0 k) (allR rates by0 k) i ++ [⟨(i : Int), ((dayK by0 k : Nat) : Int), shwF (rtL rates i) i by0 (dayK by0 k)⟩] := by
          show addR rates by0 k (dayK by0 k) _ i = _
          unfold addR; rw [if_pos hc]
        refine Exec.opk1 18 ?_
        refine OpenK.op (by simp only [go_sem] <;> rfl) (by simp only [go_sem] <;> rfl) (by simp only [go_sem] <;> rfl) ?_
        refine OpenK.op (by simp only [go_sem, hz, f1, g1, t1, f2, ed, f3, f4, g2, t2, f5, sg, rg, t3] <;> rfl) (by simp only [go_sem] <;> rfl) (by simp only [go_sem] <;> rfl) ?_
        iterate 4 (refine OpenK.op (by simp only [go_sem] <;> rfl) (by simp only [go_sem] <;> rfl) (by simp only [go_sem] <;> rfl) ?_)
        refine OpenK.op (by simp only [go_sem, hz, f1, g1, t1, f2, ed, f3, f4, g2, t2, f5, sg, rg, t3]; (try simp (disch := omega) only [if_pos]); (try simp only [go_sem, hz, f1, g1, t1, f2, ed, f3, f4, g2, t2, f5, sg, rg, t3])<;> rfl) (by simp only [go_sem] <;> rfl) (by simp only [go_sem] <;> rfl) ?_
        refine OpenK.op (by simp only [go_sem, hz, f1, g1, t1, f2, ed, f3, f4, g2, t2, f5, sg, rg, t3] <;> rfl) (by simp only [go_sem] <;> rfl) (by simp only [go_sem] <;> rfl) ?_
        refine OpenK.op (by simp only [go_sem] <;> rfl) (by simp only [go_sem] <;> rfl) (by simp only [go_sem] <;> rfl) ?_
        refine OpenK.op (by simp only [go_sem, hz, f1, g1, t1, f2, ed, f3, f4, g2, t2, f5, sg, rg, t3]; (try simp (disch := omega) only [if_pos]); (try simp only [go_sem, hz, f1, g1, t1, f2, ed, f3, f4, g2, t2, f5, sg, rg, t3])<;> rfl) (by simp only [go_sem] <;> rfl) (by simp only [go_sem] <;> rfl) ?_
        refine OpenK.op (by simp only [go_sem, hz, f1, g1, t1, f2, ed, f3, f4, g2, t2, f5, sg, rg, t3] <;> rfl) (by simp only [go_sem] <;> rfl) (by simp only [go_sem] <;> rfl) ?_
        refine OpenK.op (by simp only [go_sem] <;> rfl) (by simp only [go_sem] <;> rfl) (by simp only [go_sem] <;> rfl) ?_
        refine OpenK.op (by simp only [go_sem, hz, f1, g1, t1, f2, ed, f3, f4, g2, t2, f5, sg, rg, t3] <;> rfl) (by simp only [go_sem] <;> rfl) (by simp only [go_sem] <;> rfl) ?_
        refine OpenK.op (by simp only [go_sem, hz, f1, g1, t1, f2, ed, f3, f4, g2, t2, f5, sg, rg, t3]; (try simp (disch := omega) only [if_pos]); (try simp only [go_sem, hz, f1, g1, t1, f2, ed, f3, f4, g2, t2, f5, sg, rg, t3]) <;> first | (refine ite_run ⟨by (try simp only [List.length_append, List.length_drop, List.length_take, List.length_map, List.length_cons, List.length_nil, List.length_replicate, List.length_set, List.length_range, Nat.zero_add]); omega, by (try simp only [List.length_append, List.length_drop, List.length_take, List.length_map, List.length_cons, List.length_nil, List.length_replicate, List.length_set, List.length_range, Nat.zero_add]); omega, by repeat (first | exact al_nil | assumption | refine al_app ?_ ?_ | refine al_drop ?_ | refine al_take ?_ | exact al_map (fun _ => rfl) | exact al_rep rfl | refine al_cons rfl ?_)⟩ ?_; simp only [go_sem, hz, f1, g1, t1, f2, ed, f3, f4, g2, t2, f5, sg, rg, t3] <;> rfl) | (refine ite_run ⟨by (try simp only [List.length_append, List.length_drop, List.length_take, List.length_map, List.length_cons, List.length_nil, List.length_replicate, List.length_set, List.length_range, Nat.zero_add]); omega, by repeat (first | exact al_nil | assumption | refine al_app ?_ ?_ | refine al_drop ?_ | refine al_take ?_ | exact al_map (fun _ => rfl) | exact al_rep rfl | refine al_cons rfl ?_)⟩ ?_; simp only [go_sem, hz, f1, g1, t1, f2, ed, f3, f4, g2, t2, f5, sg, rg, t3] <;> rfl) | rfl) (by simp only [go_sem] <;> rfl) (by simp only [go_sem] <;> rfl) ?_
        iterate 2 (refine OpenK.op (by simp only [go_sem] <;> rfl) (by simp only [go_sem] <;> rfl) (by simp only [go_sem] <;> rfl) ?_)
        refine OpenK.nil (OpenE.fin (by decide +kernel) (by decide +kernel) ?_)
        refine BlkK.nrm ?_
        refine Exec.reg1 ?_
        refine Run.op (by simp only [go_sem, hz, f1, g1, t1, f2, ed, f3, f4, g2, t2, f5, sg, rg, t3]; (try simp (disch := omega) only [IntWalk.i64_in, IntWalk.u64_in, if_neg, if_pos])<;> rfl) (by simp only [go_sem] <;> rfl) ?_
        refine Run.op (by simp only [go_sem] <;> rfl) (by simp only [go_sem] <;> rfl) ?_
        refine Run.nil ?_
        refine ForK.nxt ?_ ?_ ?_
        · omega
        · exact Ghost.kp [0, 1, 4, 5, 11, 12, 52, 56, 57] [4, 3000] (by simp only [go_sem, hz, f1, g1, t1, f2, ed, f3, f4, g2, t2, f5, sg, rg, t3]; first | ((repeat' (first | with_reducible_and_instances rfl | refine st_eq ?_ ?_ ?_ | refine ret_eq ?_ | refine tup_eq ?_ | refine tm_eq ?_ ?_ | refine arr_eq ?_ | refine cells_eq ?_ | refine val_eq ?_ | refine ls_eq ?_ ?_ | refine own_eq ?_ ?_ | refine sl_eq ?_ | refine b_eq ?_ | (refine i_eq ?_; omega))); (all_goals (simp [er, encReading]))) | rfl)
        · trivial
      have hc : ¬ ((rowR rates by0 k (dayK by0 k) (allR rates by0 k) i).length < 24 ∧ 0 < byG by0 (i + k) % 8) := by
        intro hc
        simp at hb77; omega
      have er : rowR rates by0 k (dayK by0 k) (allR rates by0 k) (i + 1) = rowR rates by0 k (dayK by0 k) (allR rates by0 k) i := by
        show addR rates by0 k (dayK by0 k) _ i = _
        unfold addR; rw [if_neg hc]
      refine BlkK.nrm ?_
      refine Exec.reg1 ?_
      refine Run.op (by simp only [go_sem, hz, f1, g1, t1, f2, ed, f3, f4, g2, t2, f5, sg, rg, t3, er]; (try simp (disch := omega) only [IntWalk.i64_in, IntWalk.u64_in, if_neg, if_pos])<;> rfl) (by simp only [go_sem] <;> rfl) ?_
      refine Run.op (by simp only [go_sem] <;> rfl) (by simp only [go_sem] <;> rfl) ?_
      refine Run.nil ?_
      refine ForK.nxt ?_ ?_ ?_
      · omega
      · exact Ghost.kp [0, 1, 4, 5, 11, 12, 52, 56, 57] [4, 3000] (by simp only [go_sem, hz, f1, g1, t1, f2, ed, f3, f4, g2, t2, f5, sg, rg, t3, er]; first | ((repeat' (first | with_reducible_and_instances rfl | refine st_eq ?_ ?_ ?_ | refine ret_eq ?_ | refine tup_eq ?_ | refine tm_eq ?_ ?_ | refine arr_eq ?_ | refine cells_eq ?_ | refine val_eq ?_ | refine ls_eq ?_ ?_ | refine own_eq ?_ ?_ | refine sl_eq ?_ | refine b_eq ?_ | (refine i_eq ?_; omega))); done) | rfl)
      · trivial
    have hei : i = rates.length := by have := ge_of_dec hb58; omega
    subst hei
    refine Exec.exitS ?_
    refine ForK.ext ?_
    refine BlkK.hit ?_
    refine Exec.reg1 ?_
    iterate 4 (refine Run.op (by simp only [go_sem] <;> rfl) (by simp only [go_sem] <;> rfl) ?_)
    refine Run.op (by simp only [go_sem, hz, f1, g1, t1, f2, ed] <;> rfl) (by simp only [go_sem] <;> rfl) ?_
    refine Run.op (by simp only [go_sem, hz, f1, g1, t1, f2, ed]; (try simp (disch := omega) only [IntWalk.i64_in, IntWalk.u64_in, if_neg, if_pos])<;> rfl) (by simp only [go_sem] <;> rfl) ?_
    refine Run.op (by simp only [go_sem, hz, f1, g1, t1, f2, ed]; (try simp (disch := omega) only [if_pos]); (try simp only [go_sem, hz, f1, g1, t1, f2, ed])<;> rfl) (by simp only [go_sem] <;> rfl) ?_
    refine Run.op (by simp only [go_sem, hz, f1, g1, t1, f2, ed] <;> rfl) (by simp only [go_sem] <;> rfl) ?_
    iterate 4 (refine Run.op (by simp only [go_sem, hz, f1, g1, t1, f2, ed]; (try simp (disch := omega) only [IntWalk.i64_in, IntWalk.u64_in, if_neg, if_pos])<;> rfl) (by simp only [go_sem] <;> rfl) ?_)
    refine Run.op (by simp only [go_sem] <;> rfl) (by simp only [go_sem] <;> rfl) ?_
    refine Run.nil ?_
    refine BlkK.nrm ?_
    refine Exec.reg1 ?_
    refine Run.op (by simp only [go_sem, hz, f1, g1, t1, f2, ed]; (try simp (disch := omega) only [IntWalk.i64_in, IntWalk.u64_in, if_neg, if_pos])<;> rfl) (by simp only [go_sem] <;> rfl) ?_
    refine Run.op (by simp only [go_sem] <;> rfl) (by simp only [go_sem] <;> rfl) ?_
    refine Run.nil ?_
    refine ForK.nxt ?_ ?_ ?_
    · omega
    · exact Ghost.kp [0, 1, 4, 5, 11, 52] [4, 3000] (by simp only [go_sem, hz, f1, g1, t1, f2, ed]; first | ((repeat' (first | with_reducible_and_instances rfl | refine st_eq ?_ ?_ ?_ | refine ret_eq ?_ | refine tup_eq ?_ | refine tm_eq ?_ ?_ | refine arr_eq ?_ | refine cells_eq ?_ | refine val_eq ?_ | refine ls_eq ?_ ?_ | refine own_eq ?_ ?_ | refine sl_eq ?_ | refine b_eq ?_ | (refine i_eq ?_; omega))); done) | rfl)
    · trivial
  have hk4 : k = 4 := by have := of_decide_eq_false hb53; omega
  subst hk4
  refine Exec.exitS ?_
  refine ForK.ext ?_
  refine BlkK.hit ?_
  refine Exec.reg ?_
  refine Run.frz 3000 (by simp only [go_sem] <;> rfl) ?_
  refine Run.op (by simp only [go_sem, hz] <;> rfl) (by simp only [go_sem] <;> rfl) ?_
  iterate 3 (refine Run.op (by simp only [go_sem] <;> rfl) (by simp only [go_sem] <;> rfl) ?_)
  refine Run.nil ?_
  exact Ends.fin [] (rs := [.cell 4 25, .tmp 5]) rfl (by simp only [go_sem, hz] <;> rfl) (by simp only [go_sem, hz] <;> first | rfl | ((repeat' (first | with_reducible_and_instances rfl | refine st_eq ?_ ?_ ?_ | refine ret_eq ?_ | refine tup_eq ?_ | refine tm_eq ?_ ?_ | refine arr_eq ?_ | refine cells_eq ?_ | refine val_eq ?_ | refine ls_eq ?_ ?_ | refine own_eq ?_ ?_ | refine sl_eq ?_ | refine b_eq ?_ | (refine i_eq ?_; omega))); (exact (List.take_of_length_le (by simp)).symm)))

set_option maxRecDepth 20000 in
/-- meterworks/meterworksref12.Walk -/
theorem c_Walk_big (w : Walk) (h1 : w.rates.length ≤ 9223372036854775807) (h2 : w.readings.length ≤ 1000) : Contract Try.prog 29 [walkV w] (.bool (walkB w)) [] := by
  refine con_of follows_mixed Try.func29 rfl (by simp only [List.length_cons, List.length_nil, Try.ntmps29]; omega) (by kernel_rfl) rfl ?_
  refine Exec.reg ?_
  iterate 2 (refine Run.op (by simp only [go_sem] <;> rfl) (by simp only [go_sem] <;> rfl) ?_)
  refine Run.nil ?_
  refine Exec.assocS ?_
  refine Exec.reg ?_
  refine Run.op (by simp only [go_sem] <;> rfl) (by simp only [go_sem] <;> rfl) ?_
  refine Run.nil ?_
  refine Exec.blk ?_
  refine Exec.forA [1, 3] [1] (w.rates.length) (fun k => [.slot 3 (.int k)]) (fun k => (w.rates.take k).all rateB = true) (fun k => by simp only [go_sem] <;> rfl) (by simp only [go_sem] <;> rfl) ?_ (fun k hk hX => ?_)
  · rfl
  · skip
    refine Exec.assocS ?_
    refine Exec.reg ?_
    iterate 5 (refine Run.op (by simp only [go_sem] <;> rfl) (by simp only [go_sem] <;> rfl) ?_)
    refine Run.nil ?_
    refine Exec.cndS (by simp only [go_sem] <;> rfl) (fun hb11 => ?_) (fun hb11 => ?_)
    · skip
      have hlt := lt_of_dec hb11
      have hs := rt_get hlt
      refine Exec.skipS ?_
      refine Exec.blk ?_
      refine Exec.reg ?_
      iterate 3 (refine Run.op (by simp only [go_sem, hs] <;> rfl) (by simp only [go_sem] <;> rfl) ?_)
      refine Run.op (by simp only [go_sem, hs]; (try simp (disch := omega) only [if_pos]); (try simp only [go_sem, hs])<;> rfl) (by simp only [go_sem] <;> rfl) ?_
      iterate 3 (refine Run.op (by simp only [go_sem, hs] <;> rfl) (by simp only [go_sem] <;> rfl) ?_)
      refine Run.nil ?_
      refine Exec.reg ?_
      iterate 4 (refine Run.op (by simp only [go_sem, hs] <;> rfl) (by simp only [go_sem] <;> rfl) ?_)
      refine Run.gop (by simp only [go_sem] <;> rfl) (by simp only [go_sem, hs] <;> rfl) (by simp only [go_sem] <;> rfl) ?_
      refine Run.gop (by simp only [go_sem] <;> rfl) (by simp only [go_sem, hs] <;> rfl) (by simp only [go_sem] <;> rfl) ?_
      refine Run.gop (by simp only [go_sem] <;> rfl) (by simp only [go_sem, hs] <;> rfl) (by simp only [go_sem] <;> rfl) ?_
      refine Run.gop (by simp only [go_sem] <;> rfl) (by simp only [go_sem, hs] <;> rfl) (by simp only [go_sem] <;> rfl) ?_
      refine Run.gop (by simp only [go_sem] <;> rfl) (by simp only [go_sem, hs] <;> rfl) (by simp only [go_sem] <;> rfl) ?_
      iterate 2 (refine Run.op (by simp only [go_sem, hs] <;> rfl) (by simp only [go_sem] <;> rfl) ?_)
      refine Run.gop (by simp only [go_sem] <;> rfl) (by simp only [go_sem, hs] <;> rfl) (by simp only [go_sem] <;> rfl) ?_
      refine Run.gop (by simp only [go_sem] <;> rfl) (by simp only [go_sem, hs] <;> rfl) (by simp only [go_sem] <;> rfl) ?_
      refine Run.gop (by simp only [go_sem] <;> rfl) (by simp only [go_sem, hs] <;> rfl) (by simp only [go_sem] <;> rfl) ?_
      refine Run.op (by simp only [go_sem, hs] <;> rfl) (by simp only [go_sem] <;> rfl) ?_
      refine Run.nil ?_
      refine Exec.cnd (by simp only [go_sem, hs] <;> rfl) (fun hb33 => ?_) (fun hb33 => ?_)
      · skip
        have hr : walkB w = false := by rw [walkB, all_stop hs (by simp [rateB, hb33])]; rfl
        refine Exec.reg ?_
        refine Run.op (by simp only [go_sem, hs, hr] <;> rfl) (by simp only [go_sem] <;> rfl) ?_
        refine Run.nil ?_
        refine BlkK.ret ?_
        refine ForK.ret ?_
        refine BlkK.ret ?_
        exact Ends.fin [] (rs := [.tmp 2]) rfl (by simp only [go_sem, hs, hr] <;> rfl) (by simp only [go_sem, hs, hr] <;> first | rfl | ((repeat' (first | with_reducible_and_instances rfl | refine st_eq ?_ ?_ ?_ | refine ret_eq ?_ | refine tup_eq ?_ | refine tm_eq ?_ ?_ | refine arr_eq ?_ | refine cells_eq ?_ | refine val_eq ?_ | refine ls_eq ?_ ?_ | refine own_eq ?_ ?_ | refine sl_eq ?_ | refine b_eq ?_ | (refine i_eq ?_; omega))); done))
      · skip
        refine BlkK.nrm ?_
        refine Exec.reg1 ?_
        refine Run.op (by simp only [go_sem, hs] <;> rfl) (by simp only [go_sem] <;> rfl) ?_
        refine Run.op (by simp only [go_sem, hs]; (try simp (disch := omega) only [IntWalk.i64_in, IntWalk.u64_in, if_neg, if_pos])<;> rfl) (by simp only [go_sem] <;> rfl) ?_
        refine Run.op (by simp only [go_sem, hs] <;> rfl) (by simp only [go_sem] <;> rfl) ?_
        refine Run.nil ?_
        refine ForK.nxt ?_ ?_ ?_
        · omega
        · exact Ghost.kp [1, 3] [1] (by simp only [go_sem, hs]; first | ((repeat' (first | with_reducible_and_instances rfl | refine st_eq ?_ ?_ ?_ | refine ret_eq ?_ | refine tup_eq ?_ | refine tm_eq ?_ ?_ | refine arr_eq ?_ | refine cells_eq ?_ | refine val_eq ?_ | refine ls_eq ?_ ?_ | refine own_eq ?_ ?_ | refine sl_eq ?_ | refine b_eq ?_ | (refine i_eq ?_; omega))); done) | rfl)
        · exact all_step hX hs (by simpa [rateB] using hb33)
    · skip
      have hr1 := all_done hX (ge_of_dec hb11)
      refine Exec.exitS ?_
      refine ForK.ext ?_
      refine BlkK.hit ?_
      refine Exec.assocS ?_
      refine Exec.reg ?_
      refine Run.op (by simp only [go_sem] <;> rfl) (by simp only [go_sem] <;> rfl) ?_
      refine Run.nil ?_
      refine Exec.blk ?_
      refine Exec.forA [1, 5] [1] (w.readings.length) (fun k => [.slot 5 (.int k)]) (fun k => (w.readings.take k).all (readB w.rates.length) = true) (fun k => by simp only [go_sem] <;> rfl) (by simp only [go_sem] <;> rfl) ?_ (fun k hk hX => ?_)
      · rfl
      · skip
        refine Exec.assocS ?_
        refine Exec.reg ?_
        iterate 5 (refine Run.op (by simp only [go_sem] <;> rfl) (by simp only [go_sem] <;> rfl) ?_)
        refine Run.nil ?_
        refine Exec.cndS (by simp only [go_sem] <;> rfl) (fun hb38 => ?_) (fun hb38 => ?_)
        · skip
          have hlt := lt_of_dec hb38
          have hs := rd_get hlt
          refine Exec.skipS ?_
          refine Exec.blk ?_
          refine Exec.reg ?_
          iterate 3 (refine Run.op (by simp only [go_sem, hs] <;> rfl) (by simp only [go_sem] <;> rfl) ?_)
          refine Run.op (by simp only [go_sem, hs]; (try simp (disch := omega) only [if_pos]); (try simp only [go_sem, hs])<;> rfl) (by simp only [go_sem] <;> rfl) ?_
          iterate 3 (refine Run.op (by simp only [go_sem, hs] <;> rfl) (by simp only [go_sem] <;> rfl) ?_)
          refine Run.nil ?_
          refine Exec.reg ?_
          iterate 5 (refine Run.op (by simp only [go_sem, hs] <;> rfl) (by simp only [go_sem] <;> rfl) ?_)
          refine Run.op (by simp only [go_sem, hs]; (try simp (disch := omega) only [IntWalk.i64_in, IntWalk.u64_in, if_neg, if_pos])<;> rfl) (by simp only [go_sem] <;> rfl) ?_
          refine Run.cal (c_meterworksref12_in _ _ _) (by simp only [go_sem]) (by simp only [go_sem, hs] <;> rfl) (by exact ⟨by first | exact WkR.pure rfl | exact WkR.nil _ | exact WkR.int (by first | omega | (simp; done) | (simp; omega)), by first | exact WkR.pure rfl | exact WkR.nil _ | exact WkR.int (by first | omega | (simp; done) | (simp; omega)), by first | exact WkR.pure rfl | exact WkR.nil _ | exact WkR.int (by first | omega | (simp; done) | (simp; omega)), trivial⟩) (fr0) (by simp only [go_sem, hs] <;> rfl) ?_
          iterate 2 (refine Run.op (by simp only [go_sem, hs] <;> rfl) (by simp only [go_sem] <;> rfl) ?_)
          refine Run.gop (by simp only [go_sem] <;> rfl) (by simp only [go_sem, hs] <;> rfl) (by simp only [go_sem] <;> rfl) ?_
          refine Run.gop (by simp only [go_sem] <;> rfl) (by simp only [go_sem, hs] <;> rfl) (by simp only [go_sem] <;> rfl) ?_
          refine Run.gcal (by simp only [go_sem] <;> rfl) (c_meterworksref12_in _ _ _) (by simp only [go_sem]) (by simp only [go_sem, hs] <;> rfl) (by exact ⟨by first | exact WkR.pure rfl | exact WkR.nil _ | exact WkR.int (by first | omega | (simp; done) | (simp; omega)), by first | exact WkR.pure rfl | exact WkR.nil _ | exact WkR.int (by first | omega | (simp; done) | (simp; omega)), by first | exact WkR.pure rfl | exact WkR.nil _ | exact WkR.int (by first | omega | (simp; done) | (simp; omega)), trivial⟩) (by simp only [go_sem, hs] <;> rfl) ?_
          refine Run.gop (by simp only [go_sem] <;> rfl) (by simp only [go_sem, hs] <;> rfl) (by simp only [go_sem] <;> rfl) ?_
          iterate 2 (refine Run.op (by simp only [go_sem, hs] <;> rfl) (by simp only [go_sem] <;> rfl) ?_)
          refine Run.gop (by simp only [go_sem] <;> rfl) (by simp only [go_sem, hs] <;> rfl) (by simp only [go_sem] <;> rfl) ?_
          refine Run.gop (by simp only [go_sem] <;> rfl) (by simp only [go_sem, hs] <;> rfl) (by simp only [go_sem] <;> rfl) ?_
          refine Run.gcal (by simp only [go_sem] <;> rfl) (c_meterworksref12_in _ _ _) (by simp only [go_sem]) (by simp only [go_sem, hs] <;> rfl) (by exact ⟨by first | exact WkR.pure rfl | exact WkR.nil _ | exact WkR.int (by first | omega | (simp; done) | (simp; omega)), by first | exact WkR.pure rfl | exact WkR.nil _ | exact WkR.int (by first | omega | (simp; done) | (simp; omega)), by first | exact WkR.pure rfl | exact WkR.nil _ | exact WkR.int (by first | omega | (simp; done) | (simp; omega)), trivial⟩) (by simp only [go_sem, hs] <;> rfl) ?_
          refine Run.gop (by simp only [go_sem] <;> rfl) (by simp only [go_sem, hs] <;> rfl) (by simp only [go_sem] <;> rfl) ?_
          refine Run.op (by simp only [go_sem, hs] <;> rfl) (by simp only [go_sem] <;> rfl) ?_
          refine Run.nil ?_
          refine Exec.cnd (by simp only [go_sem, hs] <;> rfl) (fun hb65 => ?_) (fun hb65 => ?_)
          · skip
            have hr : walkB w = false := by rw [walkB, hr1, all_stop hs (by revert hb65; cases h1 : inB (rd w k).house 0 (↑w.rates.length - 1) <;> cases h2 : inB (rd w k).day 0 131072 <;> cases h3 : inB (rd w k).shows 0 1073741824 <;> simp [readB, h1, h2, h3])]; rfl
            refine Exec.reg ?_
            refine Run.op (by simp only [go_sem, hs, hr] <;> rfl) (by simp only [go_sem] <;> rfl) ?_
            refine Run.nil ?_
            refine BlkK.ret ?_
            refine ForK.ret ?_
            refine BlkK.ret ?_
            exact Ends.fin [] (rs := [.tmp 2]) rfl (by simp only [go_sem, hs, hr] <;> rfl) (by simp only [go_sem, hs, hr] <;> first | rfl | ((repeat' (first | with_reducible_and_instances rfl | refine st_eq ?_ ?_ ?_ | refine ret_eq ?_ | refine tup_eq ?_ | refine tm_eq ?_ ?_ | refine arr_eq ?_ | refine cells_eq ?_ | refine val_eq ?_ | refine ls_eq ?_ ?_ | refine own_eq ?_ ?_ | refine sl_eq ?_ | refine b_eq ?_ | (refine i_eq ?_; omega))); done))
          · skip
            refine BlkK.nrm ?_
            refine Exec.reg1 ?_
            refine Run.op (by simp only [go_sem, hs] <;> rfl) (by simp only [go_sem] <;> rfl) ?_
            refine Run.op (by simp only [go_sem, hs]; (try simp (disch := omega) only [IntWalk.i64_in, IntWalk.u64_in, if_neg, if_pos])<;> rfl) (by simp only [go_sem] <;> rfl) ?_
            refine Run.op (by simp only [go_sem, hs] <;> rfl) (by simp only [go_sem] <;> rfl) ?_
            refine Run.nil ?_
            refine ForK.nxt ?_ ?_ ?_
            · omega
            · exact Ghost.kp [1, 5] [1] (by simp only [go_sem, hs]; first | ((repeat' (first | with_reducible_and_instances rfl | refine st_eq ?_ ?_ ?_ | refine ret_eq ?_ | refine tup_eq ?_ | refine tm_eq ?_ ?_ | refine arr_eq ?_ | refine cells_eq ?_ | refine val_eq ?_ | refine ls_eq ?_ ?_ | refine own_eq ?_ ?_ | refine sl_eq ?_ | refine b_eq ?_ | (refine i_eq ?_; omega))); done) | rfl)
            · exact all_step hX hs (by simpa [readB, and_assoc] using hb65)
        · skip
          have hr : walkB w = (inB w.rates.length 1 8 && decide ((w.readings.length : Int) ≤ 24)) := by rw [walkB, hr1, all_done hX (ge_of_dec hb38)]; simp
          refine Exec.exitS ?_
          refine ForK.ext ?_
          refine BlkK.hit ?_
          refine Exec.reg ?_
          iterate 3 (refine Run.op (by simp only [go_sem, hr] <;> rfl) (by simp only [go_sem] <;> rfl) ?_)
          refine Run.cal (c_meterworksref12_in _ _ _) (by simp only [go_sem]) (by simp only [go_sem, hr] <;> rfl) (by exact ⟨by first | exact WkR.pure rfl | exact WkR.nil _ | exact WkR.int (by first | omega | (simp; done) | (simp; omega)), by first | exact WkR.pure rfl | exact WkR.nil _ | exact WkR.int (by first | omega | (simp; done) | (simp; omega)), by first | exact WkR.pure rfl | exact WkR.nil _ | exact WkR.int (by first | omega | (simp; done) | (simp; omega)), trivial⟩) (fr0) (by simp only [go_sem, hr] <;> rfl) ?_
          refine Run.op (by simp only [go_sem, hr] <;> rfl) (by simp only [go_sem] <;> rfl) ?_
          refine Run.gop (by simp only [go_sem] <;> rfl) (by simp only [go_sem, hr] <;> rfl) (by simp only [go_sem] <;> rfl) ?_
          refine Run.gop (by simp only [go_sem] <;> rfl) (by simp only [go_sem, hr] <;> rfl) (by simp only [go_sem] <;> rfl) ?_
          refine Run.gop (by simp only [go_sem] <;> rfl) (by simp only [go_sem, hr] <;> rfl) (by simp only [go_sem] <;> rfl) ?_
          refine Run.gop (by simp only [go_sem] <;> rfl) (by simp only [go_sem, hr] <;> rfl) (by simp only [go_sem] <;> rfl) ?_
          iterate 2 (refine Run.op (by simp only [go_sem, hr] <;> rfl) (by simp only [go_sem] <;> rfl) ?_)
          refine Run.nil ?_
          exact Ends.fin [] (rs := [.tmp 2]) rfl (by simp only [go_sem, hr] <;> rfl) (by simp only [go_sem, hr] <;> first | rfl | ((repeat' (first | with_reducible_and_instances rfl | refine st_eq ?_ ?_ ?_ | refine ret_eq ?_ | refine tup_eq ?_ | refine tm_eq ?_ ?_ | refine arr_eq ?_ | refine cells_eq ?_ | refine val_eq ?_ | refine ls_eq ?_ ?_ | refine own_eq ?_ ?_ | refine sl_eq ?_ | refine b_eq ?_ | (refine i_eq ?_; omega))); done))

set_option maxRecDepth 20000 in
/-- meterworks/meterworkslaw12.legal -/
theorem c_law_legal (rates : List Span) (h1 : rates.length ≤ 9223372036854775807) : Contract Try.prog 27 [.leaf (.d (.sl 2 (rates.map encSpan)))] (.bool (walkB ⟨rates, []⟩)) [] := by
  refine con_of follows_mixed Try.func27 rfl (by simp only [List.length_cons, List.length_nil, Try.ntmps27]; omega) (by kernel_rfl) rfl ?_
  refine Exec.reg ?_
  refine Run.op (by simp only [go_sem] <;> rfl) (by simp only [go_sem] <;> rfl) ?_
  refine Run.nil ?_
  refine Exec.reg ?_
  iterate 2 (refine Run.op (by simp only [go_sem] <;> rfl) (by simp only [go_sem] <;> rfl) ?_)
  refine Run.cal (c_Walk_big ⟨rates, []⟩ h1 (by simp)) (by simp only [go_sem]) (by simp only [go_sem] <;> rfl) (by exact ⟨WkR.walk0 _, trivial⟩) (fr0) (by simp only [go_sem] <;> rfl) ?_
  refine Run.op (by simp only [go_sem] <;> rfl) (by simp only [go_sem] <;> rfl) ?_
  refine Run.nil ?_
  exact Ends.fin [] (rs := [.tmp 2]) rfl (by simp only [go_sem] <;> rfl) (by simp only [go_sem] <;> first | rfl | ((repeat' (first | with_reducible_and_instances rfl | refine st_eq ?_ ?_ ?_ | refine ret_eq ?_ | refine tup_eq ?_ | refine tm_eq ?_ ?_ | refine arr_eq ?_ | refine cells_eq ?_ | refine val_eq ?_ | refine ls_eq ?_ ?_ | refine own_eq ?_ ?_ | refine sl_eq ?_ | refine b_eq ?_ | (refine i_eq ?_; omega))); done))

end Go.Mw
namespace Go.Mw
open Go.Proofs
theorem any_takeR {p : Reading → Bool} {l : List Reading} {k : Nat} {x : Reading} (h : l[k]? = some x) : (l.take (k + 1)).any p = ((l.take k).any p || p x) := by
  rw [take_succ' h, List.any_append]; simp
set_option maxRecDepth 20000 in
set_option maxHeartbeats 64000000 in
/-- meterworks/meterworkslaw12.CardTrue -/
theorem c_law_CardTrue (rates : List Span) (by0 : List Nat) (hN dN zN : Nat) (hL : rates.length ≤ 9223372036854775807) (hl : by0.length ≤ 9223372036854775807) (hb : ∀ n ∈ by0, n ≤ 65535) (b1 : hN ≤ 255) (b2 : dN ≤ 255) (b3 : zN ≤ 255) : Contract Try.prog 6 [.leaf (.d (.sl 2 (rates.map encSpan))), .leaf (.d (.sl 1 (by0.map encU16))), .raw (.int .u8 (hN : Int)), .raw (.int .u8 (dN : Int)), .raw (.int .u8 (zN : Int))] (.bool true) [] := by
  rcases (show by0.length = 0 ∨ (by0.length ≠ 0 ∧ rates.length = 0) ∨ (by0.length ≠ 0 ∧ rates.length ≠ 0) from if h : by0.length = 0 then .inl h else if h2 : rates.length = 0 then .inr (.inl ⟨h, h2⟩) else .inr (.inr ⟨h, h2⟩)) with hz | ⟨hz, hy⟩ | ⟨hz, hy⟩
  · skip
    have g1 : ((by0.length : Int) == 0) = true := by rw [beq_iff_eq]; omega
    refine con_of follows_mixed Try.func6 rfl (by simp only [List.length_cons, List.length_nil, Try.ntmps6]; omega) (by kernel_rfl) rfl ?_
    refine Exec.reg ?_
    refine Run.op (by simp only [go_sem] <;> rfl) (by simp only [go_sem] <;> rfl) ?_
    refine Run.nil ?_
    refine Exec.assocS ?_
    refine Exec.reg ?_
    refine Run.op (by simp only [go_sem] <;> rfl) (by simp only [go_sem] <;> rfl) ?_
    iterate 3 (refine Run.op (by simp only [go_sem, g1] <;> rfl) (by simp only [go_sem] <;> rfl) ?_)
    iterate 3 (refine Run.skp (by simp only [go_sem] <;> rfl) (by simp only [go_sem] <;> rfl) ?_)
    iterate 2 (refine Run.op (by simp only [go_sem, g1] <;> rfl) (by simp only [go_sem] <;> rfl) ?_)
    iterate 3 (refine Run.skp (by simp only [go_sem] <;> rfl) (by simp only [go_sem] <;> rfl) ?_)
    refine Run.op (by simp only [go_sem, g1] <;> rfl) (by simp only [go_sem] <;> rfl) ?_
    refine Run.nil ?_
    refine Exec.cndS (by simp only [go_sem, g1] <;> rfl) (fun hb41 => ?_) (fun hb41 => ?_)
    · skip
      refine Exec.assocS ?_
      refine Exec.reg ?_
      refine Run.cal (c_law_alive) (by simp only [go_sem]) (by simp only [go_sem, g1] <;> rfl) (by exact trivial) (fr0) (by simp only [go_sem, g1] <;> rfl) ?_
      refine Run.op (by simp only [go_sem] <;> rfl) (by simp only [go_sem] <;> rfl) ?_
      refine Run.nil ?_
      refine Exec.retS ?_
      exact Ends.fin [] (rs := [.tmp 10]) rfl (by simp only [go_sem, g1] <;> rfl) (by simp only [go_sem, g1] <;> first | rfl | ((repeat' (first | with_reducible_and_instances rfl | refine st_eq ?_ ?_ ?_ | refine ret_eq ?_ | refine tup_eq ?_ | refine tm_eq ?_ ?_ | refine arr_eq ?_ | refine cells_eq ?_ | refine val_eq ?_ | refine ls_eq ?_ ?_ | refine own_eq ?_ ?_ | refine sl_eq ?_ | refine b_eq ?_ | (refine i_eq ?_; omega))); done))
    · exact absurd hb41 (by simp)
  · skip
    have g1 : ((by0.length : Int) == 0) = false := by rw [beq_eq_false_iff_ne]; omega
    have g2 : ((rates.length : Int) == 0) = true := by rw [beq_iff_eq]; omega
    refine con_of follows_mixed Try.func6 rfl (by simp only [List.length_cons, List.length_nil, Try.ntmps6]; omega) (by kernel_rfl) rfl ?_
    refine Exec.reg ?_
    refine Run.op (by simp only [go_sem] <;> rfl) (by simp only [go_sem] <;> rfl) ?_
    refine Run.nil ?_
    refine Exec.assocS ?_
    refine Exec.reg ?_
    refine Run.op (by simp only [go_sem] <;> rfl) (by simp only [go_sem] <;> rfl) ?_
    iterate 3 (refine Run.op (by simp only [go_sem, g1, g2] <;> rfl) (by simp only [go_sem] <;> rfl) ?_)
    refine Run.yes (by simp only [go_sem] <;> rfl) (by simp only [go_sem] <;> rfl) (by simp only [go_sem] <;> rfl) ?_
    iterate 2 (refine Run.yes (by simp only [go_sem] <;> rfl) (by simp only [go_sem, g1, g2] <;> rfl) (by simp only [go_sem] <;> rfl) ?_)
    iterate 2 (refine Run.op (by simp only [go_sem, g1, g2] <;> rfl) (by simp only [go_sem] <;> rfl) ?_)
    iterate 3 (refine Run.skp (by simp only [go_sem] <;> rfl) (by simp only [go_sem] <;> rfl) ?_)
    refine Run.op (by simp only [go_sem, g1, g2] <;> rfl) (by simp only [go_sem] <;> rfl) ?_
    refine Run.nil ?_
    refine Exec.cndS (by simp only [go_sem, g1, g2] <;> rfl) (fun hb41 => ?_) (fun hb41 => ?_)
    · skip
      refine Exec.assocS ?_
      refine Exec.reg ?_
      refine Run.cal (c_law_alive) (by simp only [go_sem]) (by simp only [go_sem, g1, g2] <;> rfl) (by exact trivial) (fr0) (by simp only [go_sem, g1, g2] <;> rfl) ?_
      refine Run.op (by simp only [go_sem] <;> rfl) (by simp only [go_sem] <;> rfl) ?_
      refine Run.nil ?_
      refine Exec.retS ?_
      exact Ends.fin [] (rs := [.tmp 10]) rfl (by simp only [go_sem, g1, g2] <;> rfl) (by simp only [go_sem, g1, g2] <;> first | rfl | ((repeat' (first | with_reducible_and_instances rfl | refine st_eq ?_ ?_ ?_ | refine ret_eq ?_ | refine tup_eq ?_ | refine tm_eq ?_ ?_ | refine arr_eq ?_ | refine cells_eq ?_ | refine val_eq ?_ | refine ls_eq ?_ ?_ | refine own_eq ?_ ?_ | refine sl_eq ?_ | refine b_eq ?_ | (refine i_eq ?_; omega))); done))
    · exact absurd hb41 (by simp)
  · skip
    have g1 : ((by0.length : Int) == 0) = false := by rw [beq_eq_false_iff_ne]; omega
    have g2 : ((rates.length : Int) == 0) = false := by rw [beq_eq_false_iff_ne]; omega
    refine con_of follows_mixed Try.func6 rfl (by simp only [List.length_cons, List.length_nil, Try.ntmps6]; omega) (by kernel_rfl) rfl ?_
    refine Exec.reg ?_
    refine Run.op (by simp only [go_sem] <;> rfl) (by simp only [go_sem] <;> rfl) ?_
    refine Run.nil ?_
    refine Exec.assocS ?_
    refine Exec.reg ?_
    refine Run.op (by simp only [go_sem] <;> rfl) (by simp only [go_sem] <;> rfl) ?_
    iterate 3 (refine Run.op (by simp only [go_sem, g1, g2] <;> rfl) (by simp only [go_sem] <;> rfl) ?_)
    refine Run.yes (by simp only [go_sem] <;> rfl) (by simp only [go_sem] <;> rfl) (by simp only [go_sem] <;> rfl) ?_
    iterate 2 (refine Run.yes (by simp only [go_sem] <;> rfl) (by simp only [go_sem, g1, g2] <;> rfl) (by simp only [go_sem] <;> rfl) ?_)
    iterate 2 (refine Run.op (by simp only [go_sem, g1, g2] <;> rfl) (by simp only [go_sem] <;> rfl) ?_)
    refine Run.yes (by simp only [go_sem] <;> rfl) (by simp only [go_sem] <;> rfl) (by simp only [go_sem] <;> rfl) ?_
    refine Run.calw (by simp only [go_sem] <;> rfl) (c_law_legal rates hL) (by simp only [go_sem]) (by simp only [go_sem, g1, g2] <;> rfl) (by simp only [go_sem, g1, g2] <;> rfl) (by exact ⟨by first | exact WkR.pure rfl | exact WkR.nil _ | exact WkR.int (by first | omega | (simp; done) | (simp; omega)), trivial⟩) (fr0) (by simp only [go_sem, g1, g2] <;> rfl) ?_
    refine Run.yes (by simp only [go_sem] <;> rfl) (by simp only [go_sem, g1, g2] <;> rfl) (by simp only [go_sem] <;> rfl) ?_
    refine Run.op (by simp only [go_sem, g1, g2] <;> rfl) (by simp only [go_sem] <;> rfl) ?_
    refine Run.nil ?_
    refine Exec.cndS (by simp only [go_sem, g1, g2] <;> rfl) (fun hb41 => ?_) (fun hb41 => ?_)
    · skip
      refine Exec.assocS ?_
      refine Exec.reg ?_
      refine Run.cal (c_law_alive) (by simp only [go_sem]) (by simp only [go_sem, g1, g2] <;> rfl) (by exact trivial) (fr0) (by simp only [go_sem, g1, g2] <;> rfl) ?_
      refine Run.op (by simp only [go_sem] <;> rfl) (by simp only [go_sem] <;> rfl) ?_
      refine Run.nil ?_
      refine Exec.retS ?_
      exact Ends.fin [] (rs := [.tmp 10]) rfl (by simp only [go_sem, g1, g2] <;> rfl) (by simp only [go_sem, g1, g2] <;> first | rfl | ((repeat' (first | with_reducible_and_instances rfl | refine st_eq ?_ ?_ ?_ | refine ret_eq ?_ | refine tup_eq ?_ | refine tm_eq ?_ ?_ | refine arr_eq ?_ | refine cells_eq ?_ | refine val_eq ?_ | refine ls_eq ?_ ?_ | refine own_eq ?_ ?_ | refine sl_eq ?_ | refine b_eq ?_ | (refine i_eq ?_; omega))); done))
    have hw : walkB ⟨rates, []⟩ = true := by simpa using hb41
    have hro := rates_ok hw
    have hr8 : rates.length ≤ 8 := hro.1.2
    have hal := allR_len rates by0 4
    have htr : ∀ r ∈ allR rates by0 4, TrueIn rates by0 r := all_true 4 (Nat.le_refl _)
    have hwW := true_walk hw hal htr
    have hm4 : (misfitR (⟨rates, allR rates by0 4⟩ : Walk)).2.2 = 4 := by rw [misfit_is hwW, if_pos (true_fits hw htr)]
    obtain ⟨iN, hiN⟩ : ∃ iN, hN % rates.length = iN := ⟨_, rfl⟩
    obtain ⟨dM, hdM⟩ : ∃ dM, dN % 81 = dM := ⟨_, rfl⟩
    obtain ⟨zM, hzM⟩ : ∃ zM, zN % 81 = zM := ⟨_, rfl⟩
    have hi : iN < rates.length := by rw [← hiN]; exact Nat.mod_lt _ (by omega)
    have hd81 : dM ≤ 80 := by have := Nat.mod_lt dN (show 0 < 81 by omega); omega
    have hz81 : zM ≤ 80 := by have := Nat.mod_lt zN (show 0 < 81 by omega); omega
    have f1 : ((hN : Nat) : Int).tmod ((rates.length : Nat) : Int) = (iN : Int) := by rw [tmod_n, hiN]
    have f2 : ((dN : Nat) : Int).tmod 81 = (dM : Int) := by rw [← hdM]; exact tmod_n _ 81
    have f3 : ((zN : Nat) : Int).tmod 81 = (zM : Int) := by rw [← hzM]; exact tmod_n _ 81
    have hzr : ¬ ((rates.length : Nat) : Int) = 0 := by omega
    have sg := shnD_get (rates := rates) (by0 := by0) hi
    have sl := shnD_len rates by0 rates.length
    have rl := rowI_len (rtL rates iN) iN by0 81
    have rgd := rowI_get (s := (rtL rates iN)) (house := iN) (by0 := by0) (show dM < 81 by omega)
    have rgz := rowI_get (s := (rtL rates iN)) (house := iN) (by0 := by0) (show zM < 81 by omega)
    have t1 : ((iN : Nat) : Int).toNat = iN := Int.toNat_natCast _
    have t2 : ((dM : Nat) : Int).toNat = dM := Int.toNat_natCast _
    have t3 : ((zM : Nat) : Int).toNat = zM := Int.toNat_natCast _
    refine Exec.skipS ?_
    refine Exec.reg ?_
    iterate 2 (refine Run.op (by simp only [go_sem] <;> rfl) (by simp only [go_sem] <;> rfl) ?_)
    refine Run.cal (c_law_round rates by0 hro.1.2 hro.2 (by omega) hl hb) (by simp only [go_sem]) (by simp only [go_sem, g1, g2, hm4, f1, f2, f3, hzr, sg, rgd, rgz, t1, t2, t3] <;> rfl) (by exact ⟨by first | exact WkR.pure rfl | exact WkR.nil _ | exact WkR.int (by first | omega | (simp; done) | (simp; omega)), by first | exact WkR.pure rfl | exact WkR.nil _ | exact WkR.int (by first | omega | (simp; done) | (simp; omega)), trivial⟩) (fr0) (by simp only [go_sem, g1, g2, hm4, f1, f2, f3, hzr, sg, rgd, rgz, t1, t2, t3] <;> rfl) ?_
    refine Run.op (by simp only [go_sem] <;> rfl) (by simp only [go_sem] <;> rfl) ?_
    iterate 2 (refine Run.op (by simp only [go_sem, g1, g2, hm4, f1, f2, f3, hzr, sg, rgd, rgz, t1, t2, t3] <;> rfl) (by simp only [go_sem] <;> rfl) ?_)
    iterate 3 (refine Run.op (by simp only [go_sem] <;> rfl) (by simp only [go_sem] <;> rfl) ?_)
    refine Run.nil ?_
    refine Exec.reg ?_
    refine Run.op (by simp only [go_sem, g1, g2, hm4, f1, f2, f3, hzr, sg, rgd, rgz, t1, t2, t3] <;> rfl) (by simp only [go_sem] <;> rfl) ?_
    refine Run.cal (c_card_Misfit (⟨rates, allR rates by0 4⟩ : Walk) (by simp only; omega) (by simp only; omega) (fun _ => h20_of (by simp only; omega))) (by simp only [go_sem]) (by simp only [go_sem, g1, g2, hm4, f1, f2, f3, hzr, sg, rgd, rgz, t1, t2, t3] <;> rfl) (by exact ⟨by first | exact WkR.pure rfl | exact WkR.nil _ | exact WkR.int (by first | omega | (simp; done) | (simp; omega)), trivial⟩) (fr0) (by simp only [go_sem, g1, g2, hm4, f1, f2, f3, hzr, sg, rgd, rgz, t1, t2, t3] <;> rfl) ?_
    refine Run.op (by simp only [go_sem] <;> rfl) (by simp only [go_sem] <;> rfl) ?_
    iterate 3 (refine Run.op (by simp only [go_sem, g1, g2, hm4, f1, f2, f3, hzr, sg, rgd, rgz, t1, t2, t3] <;> rfl) (by simp only [go_sem] <;> rfl) ?_)
    iterate 3 (refine Run.op (by simp only [go_sem] <;> rfl) (by simp only [go_sem] <;> rfl) ?_)
    refine Run.nil ?_
    refine Exec.reg ?_
    refine Run.op (by simp only [go_sem] <;> rfl) (by simp only [go_sem] <;> rfl) ?_
    refine Run.op (by simp only [go_sem, g1, g2, hm4, f1, f2, f3, hzr, sg, rgd, rgz, t1, t2, t3]; (try simp (disch := omega) only [IntWalk.i64_in, IntWalk.u64_in, if_neg, if_pos])<;> rfl) (by simp only [go_sem] <;> rfl) ?_
    refine Run.op (by simp only [go_sem] <;> rfl) (by simp only [go_sem] <;> rfl) ?_
    refine Run.op (by simp only [go_sem, g1, g2, hm4, f1, f2, f3, hzr, sg, rgd, rgz, t1, t2, t3] <;> rfl) (by simp only [go_sem] <;> rfl) ?_
    refine Run.op (by simp only [go_sem, g1, g2, hm4, f1, f2, f3, hzr, sg, rgd, rgz, t1, t2, t3]; (try simp (disch := omega) only [IntWalk.i64_in, IntWalk.u64_in, if_neg, if_pos])<;> rfl) (by simp only [go_sem] <;> rfl) ?_
    refine Run.op (by simp only [go_sem] <;> rfl) (by simp only [go_sem] <;> rfl) ?_
    iterate 2 (refine Run.op (by simp only [go_sem, g1, g2, hm4, f1, f2, f3, hzr, sg, rgd, rgz, t1, t2, t3]; (try simp (disch := omega) only [IntWalk.i64_in, IntWalk.u64_in, if_neg, if_pos])<;> rfl) (by simp only [go_sem] <;> rfl) ?_)
    refine Run.op (by simp only [go_sem] <;> rfl) (by simp only [go_sem] <;> rfl) ?_
    iterate 2 (refine Run.op (by simp only [go_sem, g1, g2, hm4, f1, f2, f3, hzr, sg, rgd, rgz, t1, t2, t3]; (try simp (disch := omega) only [IntWalk.i64_in, IntWalk.u64_in, if_neg, if_pos])<;> rfl) (by simp only [go_sem] <;> rfl) ?_)
    iterate 3 (refine Run.op (by simp only [go_sem] <;> rfl) (by simp only [go_sem] <;> rfl) ?_)
    refine Run.nil ?_
    refine Exec.reg ?_
    refine Run.op (by simp only [go_sem, g1, g2, hm4, f1, f2, f3, hzr, sg, rgd, rgz, t1, t2, t3] <;> rfl) (by simp only [go_sem] <;> rfl) ?_
    iterate 2 (refine Run.op (by simp only [go_sem] <;> rfl) (by simp only [go_sem] <;> rfl) ?_)
    refine Run.cal (c_card_Shows (⟨rates, allR rates by0 4⟩ : Walk) ((iN : Nat) : Int) ((dM : Nat) : Int) (by simp only; omega) (by simp only; omega) (fun _ => h20_of (by simp only; omega))) (by simp only [go_sem]) (by simp only [go_sem, g1, g2, hm4, f1, f2, f3, hzr, sg, rgd, rgz, t1, t2, t3] <;> rfl) (by exact ⟨by first | exact WkR.pure rfl | exact WkR.nil _ | exact WkR.int (by first | omega | (simp; done) | (simp; omega)), by first | exact WkR.pure rfl | exact WkR.nil _ | exact WkR.int (by first | omega | (simp; done) | (simp; omega)), by first | exact WkR.pure rfl | exact WkR.nil _ | exact WkR.int (by first | omega | (simp; done) | (simp; omega)), trivial⟩) (fr0) (by simp only [go_sem, g1, g2, hm4, f1, f2, f3, hzr, sg, rgd, rgz, t1, t2, t3] <;> rfl) ?_
    refine Run.op (by simp only [go_sem] <;> rfl) (by simp only [go_sem] <;> rfl) ?_
    iterate 2 (refine Run.op (by simp only [go_sem, g1, g2, hm4, f1, f2, f3, hzr, sg, rgd, rgz, t1, t2, t3] <;> rfl) (by simp only [go_sem] <;> rfl) ?_)
    iterate 3 (refine Run.op (by simp only [go_sem] <;> rfl) (by simp only [go_sem] <;> rfl) ?_)
    refine Run.nil ?_
    refine Exec.assocS ?_
    refine Exec.reg ?_
    refine Run.op (by simp only [go_sem] <;> rfl) (by simp only [go_sem] <;> rfl) ?_
    refine Run.op (by simp only [go_sem, g1, g2, hm4, f1, f2, f3, hzr, sg, rgd, rgz, t1, t2, t3] <;> rfl) (by simp only [go_sem] <;> rfl) ?_
    refine Run.nil ?_
    refine Exec.cndS (by simp only [go_sem, g1, g2, hm4, f1, f2, f3, hzr, sg, rgd, rgz, t1, t2, t3] <;> rfl) (fun hb74 => ?_) (fun hb74 => ?_)
    · exact absurd hb74 (by simp)
    refine Exec.skipS ?_
    refine Exec.reg ?_
    refine Run.op (by simp only [go_sem] <;> rfl) (by simp only [go_sem] <;> rfl) ?_
    refine Run.nil ?_
    refine Exec.assocS ?_
    refine Exec.reg ?_
    refine Run.op (by simp only [go_sem] <;> rfl) (by simp only [go_sem] <;> rfl) ?_
    iterate 2 (refine Run.op (by simp only [go_sem, g1, g2, hm4, f1, f2, f3, hzr, sg, rgd, rgz, t1, t2, t3] <;> rfl) (by simp only [go_sem] <;> rfl) ?_)
    refine Run.op (by simp only [go_sem] <;> rfl) (by simp only [go_sem] <;> rfl) ?_
    refine Run.nil ?_
    refine Exec.blk ?_
    refine Exec.forA [11, 12, 16, 17, 18, 19, 20, 21, 76, 77, 78] [11, 19] ((allR rates by0 4).length) (fun k => [.slot 78 (.int k), .slot 21 (.bool (((allR rates by0 4).take k).any (fun r => r.house == ((iN : Nat) : Int))))]) (fun _ => True) (fun k => by simp only [go_sem] <;> rfl) (by simp only [go_sem, g1, g2, hm4, f1, f2, f3, hzr, sg, rgd, rgz, t1, t2, t3, List.take_zero, List.any_nil, Int.natCast_zero] <;> rfl) ?_ (fun k hk hX => ?_)
    · trivial
    refine Exec.reg ?_
    refine Run.op (by simp only [go_sem, g1, g2, hm4, f1, f2, f3, hzr, sg, rgd, rgz, t1, t2, t3] <;> rfl) (by simp only [go_sem] <;> rfl) ?_
    refine Run.nil ?_
    refine Exec.cndS (by simp only [go_sem, g1, g2, hm4, f1, f2, f3, hzr, sg, rgd, rgz, t1, t2, t3] <;> rfl) (fun hb79 => ?_) (fun hb79 => ?_)
    · skip
      have hlt := lt_of_dec hb79
      obtain ⟨r, hr⟩ : ∃ r, (allR rates by0 4)[k]? = some r := ⟨_, List.getElem?_eq_getElem hlt⟩
      have hnx := any_takeR (p := fun r => r.house == ((iN : Nat) : Int)) hr
      refine Exec.skipS ?_
      refine Exec.blk ?_
      refine Exec.reg ?_
      refine Run.op (by simp only [go_sem, g1, g2, hm4, f1, f2, f3, hzr, sg, rgd, rgz, t1, t2, t3, hr, hnx]; (try simp (disch := omega) only [if_pos]); (try simp only [go_sem, g1, g2, hm4, f1, f2, f3, hzr, sg, rgd, rgz, t1, t2, t3, hr, hnx])<;> rfl) (by simp only [go_sem] <;> rfl) ?_
      refine Run.op (by simp only [go_sem, g1, g2, hm4, f1, f2, f3, hzr, sg, rgd, rgz, t1, t2, t3, hr, hnx] <;> rfl) (by simp only [go_sem] <;> rfl) ?_
      iterate 2 (refine Run.op (by simp only [go_sem] <;> rfl) (by simp only [go_sem] <;> rfl) ?_)
      refine Run.nil ?_
      refine Exec.reg1 ?_
      refine Run.op (by simp only [go_sem] <;> rfl) (by simp only [go_sem] <;> rfl) ?_
      refine Run.op (by simp only [go_sem, g1, g2, hm4, f1, f2, f3, hzr, sg, rgd, rgz, t1, t2, t3, hr, hnx] <;> rfl) (by simp only [go_sem] <;> rfl) ?_
      refine Run.gop (by simp only [go_sem] <;> rfl) (by simp only [go_sem] <;> rfl) (by simp only [go_sem] <;> rfl) ?_
      refine Run.gop (by simp only [go_sem] <;> rfl) (by simp only [go_sem, g1, g2, hm4, f1, f2, f3, hzr, sg, rgd, rgz, t1, t2, t3, hr, hnx] <;> rfl) (by simp only [go_sem] <;> rfl) ?_
      refine Run.gop (by simp only [go_sem] <;> rfl) (by simp only [go_sem] <;> rfl) (by simp only [go_sem] <;> rfl) ?_
      refine Run.gop (by simp only [go_sem] <;> rfl) (by simp only [go_sem, g1, g2, hm4, f1, f2, f3, hzr, sg, rgd, rgz, t1, t2, t3, hr, hnx] <;> rfl) (by simp only [go_sem] <;> rfl) ?_
      refine Run.op (by simp only [go_sem, g1, g2, hm4, f1, f2, f3, hzr, sg, rgd, rgz, t1, t2, t3, hr, hnx] <;> rfl) (by simp only [go_sem] <;> rfl) ?_
      refine Run.op (by simp only [go_sem] <;> rfl) (by simp only [go_sem] <;> rfl) ?_
      refine Run.nil ?_
      refine BlkK.nrm ?_
      refine Exec.reg1 ?_
      refine Run.op (by simp only [go_sem, g1, g2, hm4, f1, f2, f3, hzr, sg, rgd, rgz, t1, t2, t3, hr, hnx]; (try simp (disch := omega) only [IntWalk.i64_in, IntWalk.u64_in, if_neg, if_pos])<;> rfl) (by simp only [go_sem] <;> rfl) ?_
      refine Run.op (by simp only [go_sem] <;> rfl) (by simp only [go_sem] <;> rfl) ?_
      refine Run.nil ?_
      refine ForK.nxt ?_ ?_ ?_
      · omega
      · exact Ghost.kp [11, 12, 16, 17, 18, 19, 20, 21, 76, 77, 78] [11, 19] (by simp only [go_sem, g1, g2, hm4, f1, f2, f3, hzr, sg, rgd, rgz, t1, t2, t3, hr, hnx]; first | ((repeat' (first | with_reducible_and_instances rfl | refine st_eq ?_ ?_ ?_ | refine ret_eq ?_ | refine tup_eq ?_ | refine tm_eq ?_ ?_ | refine arr_eq ?_ | refine cells_eq ?_ | refine val_eq ?_ | refine ls_eq ?_ ?_ | refine own_eq ?_ ?_ | refine sl_eq ?_ | refine b_eq ?_ | (refine i_eq ?_; omega))); done) | rfl)
      · trivial
    have hke : k = (allR rates by0 4).length := by have := ge_of_dec hb79; omega
    subst hke
    have hta : (allR rates by0 4).take (allR rates by0 4).length = allR rates by0 4 := List.take_length
    refine Exec.exitS ?_
    refine ForK.ext ?_
    refine BlkK.hit ?_
    refine Exec.assocS ?_
    refine Exec.reg ?_
    refine Run.op (by simp only [go_sem] <;> rfl) (by simp only [go_sem] <;> rfl) ?_
    refine Run.op (by simp only [go_sem, g1, g2, hm4, f1, f2, f3, hzr, sg, rgd, rgz, t1, t2, t3, hta] <;> rfl) (by simp only [go_sem] <;> rfl) ?_
    refine Run.nil ?_
    refine Exec.cndS (by simp only [go_sem, g1, g2, hm4, f1, f2, f3, hzr, sg, rgd, rgz, t1, t2, t3, hta] <;> rfl) (fun hb91 => ?_) (fun hb91 => ?_)
    · skip
      have hno : ¬ ∃ r ∈ allR rates by0 4, r.house = ((iN : Nat) : Int) := by
        have : (allR rates by0 4).any (fun r => r.house == ((iN : Nat) : Int)) = false := by simpa using hb91
        rintro ⟨r, h1, h2⟩
        rw [List.any_eq_false] at this
        exact this r h1 (by rw [h2]; exact beq_self_eq_true _)
      have hsn := true_none (by0 := by0) hw hal htr hi hd81 hno
      refine Exec.assocS ?_
      refine Exec.reg ?_
      refine Run.op (by simp only [go_sem, g1, g2, hm4, f1, f2, f3, hzr, sg, rgd, rgz, t1, t2, t3, hta, hsn, beq_self_eq_true, Bool.and_self] <;> rfl) (by simp only [go_sem] <;> rfl) ?_
      refine Run.op (by simp only [go_sem] <;> rfl) (by simp only [go_sem] <;> rfl) ?_
      iterate 2 (refine Run.op (by simp only [go_sem, g1, g2, hm4, f1, f2, f3, hzr, sg, rgd, rgz, t1, t2, t3, hta, hsn, beq_self_eq_true, Bool.and_self] <;> rfl) (by simp only [go_sem] <;> rfl) ?_)
      refine Run.yes (by simp only [go_sem] <;> rfl) (by simp only [go_sem] <;> rfl) (by simp only [go_sem] <;> rfl) ?_
      refine Run.yes (by simp only [go_sem] <;> rfl) (by simp only [go_sem, g1, g2, hm4, f1, f2, f3, hzr, sg, rgd, rgz, t1, t2, t3, hta, hsn, beq_self_eq_true, Bool.and_self] <;> rfl) (by simp only [go_sem] <;> rfl) ?_
      iterate 2 (refine Run.op (by simp only [go_sem, g1, g2, hm4, f1, f2, f3, hzr, sg, rgd, rgz, t1, t2, t3, hta, hsn, beq_self_eq_true, Bool.and_self] <;> rfl) (by simp only [go_sem] <;> rfl) ?_)
      refine Run.calw (by simp only [go_sem] <;> rfl) (c_law_alive) (by simp only [go_sem]) (by simp only [go_sem, g1, g2, hm4, f1, f2, f3, hzr, sg, rgd, rgz, t1, t2, t3, hta, hsn, beq_self_eq_true, Bool.and_self] <;> rfl) (by simp only [go_sem, g1, g2, hm4, f1, f2, f3, hzr, sg, rgd, rgz, t1, t2, t3, hta, hsn, beq_self_eq_true, Bool.and_self] <;> rfl) (by exact trivial) (fr0) (by simp only [go_sem, g1, g2, hm4, f1, f2, f3, hzr, sg, rgd, rgz, t1, t2, t3, hta, hsn, beq_self_eq_true, Bool.and_self] <;> rfl) ?_
      refine Run.op (by simp only [go_sem, g1, g2, hm4, f1, f2, f3, hzr, sg, rgd, rgz, t1, t2, t3, hta, hsn, beq_self_eq_true, Bool.and_self] <;> rfl) (by simp only [go_sem] <;> rfl) ?_
      refine Run.op (by simp only [go_sem] <;> rfl) (by simp only [go_sem] <;> rfl) ?_
      refine Run.nil ?_
      refine Exec.retS ?_
      exact Ends.fin [] (rs := [.tmp 10]) rfl (by simp only [go_sem, g1, g2, hm4, f1, f2, f3, hzr, sg, rgd, rgz, t1, t2, t3, hta, hsn, beq_self_eq_true, Bool.and_self] <;> rfl) (by simp only [go_sem, g1, g2, hm4, f1, f2, f3, hzr, sg, rgd, rgz, t1, t2, t3, hta, hsn, beq_self_eq_true, Bool.and_self] <;> first | rfl | ((repeat' (first | with_reducible_and_instances rfl | refine st_eq ?_ ?_ ?_ | refine ret_eq ?_ | refine tup_eq ?_ | refine tm_eq ?_ ?_ | refine arr_eq ?_ | refine cells_eq ?_ | refine val_eq ?_ | refine ls_eq ?_ ?_ | refine own_eq ?_ ?_ | refine sl_eq ?_ | refine b_eq ?_ | (refine i_eq ?_; omega))); done))
    have hex : ∃ r ∈ allR rates by0 4, r.house = ((iN : Nat) : Int) := by
      have : (allR rates by0 4).any (fun r => r.house == ((iN : Nat) : Int)) = true := by simpa using hb91
      obtain ⟨r, h1, h2⟩ := List.any_eq_true.1 this
      exact ⟨r, h1, by simpa using h2⟩
    have hs0 := true_shows hw hal htr hi hd81 hex
    have hsi := true_in hw htr hi hs0 hd81
    have s1 : decide (shwF (rtL rates iN) iN by0 dM < (showsR (⟨rates, allR rates by0 4⟩ : Walk) ((iN : Nat) : Int) ((dM : Nat) : Int)).1.lo) = false := decide_eq_false (by omega)
    have s2 : decide (shwF (rtL rates iN) iN by0 dM > (showsR (⟨rates, allR rates by0 4⟩ : Walk) ((iN : Nat) : Int) ((dM : Nat) : Int)).1.hi) = false := decide_eq_false (by omega)
    refine Exec.skipS ?_
    refine Exec.assocS ?_
    refine Exec.opk 28 ?_
    refine OpenK.op (by simp only [go_sem] <;> rfl) (by simp only [go_sem] <;> rfl) (by simp only [go_sem] <;> rfl) ?_
    iterate 2 (refine OpenK.op (by simp only [go_sem, g1, g2, hm4, f1, f2, f3, hzr, sg, rgd, rgz, t1, t2, t3, hta, hs0, s1, s2, bne_self_eq_false] <;> rfl) (by simp only [go_sem] <;> rfl) (by simp only [go_sem] <;> rfl) ?_)
    iterate 2 (refine OpenK.yes (by simp only [go_sem] <;> rfl) (by simp only [go_sem] <;> rfl) (by simp only [go_sem] <;> rfl) (by simp only [go_sem] <;> rfl) ?_)
    refine OpenK.yes (by simp only [go_sem] <;> rfl) (by simp only [go_sem, g1, g2, hm4, f1, f2, f3, hzr, sg, rgd, rgz, t1, t2, t3, hta, hs0, s1, s2, bne_self_eq_false]; (try simp (disch := omega) only [if_pos]); (try simp only [go_sem, g1, g2, hm4, f1, f2, f3, hzr, sg, rgd, rgz, t1, t2, t3, hta, hs0, s1, s2, bne_self_eq_false])<;> rfl) (by simp only [go_sem] <;> rfl) (by simp only [go_sem] <;> rfl) ?_
    refine OpenK.yes (by simp only [go_sem] <;> rfl) (by simp only [go_sem, g1, g2, hm4, f1, f2, f3, hzr, sg, rgd, rgz, t1, t2, t3, hta, hs0, s1, s2, bne_self_eq_false] <;> rfl) (by simp only [go_sem] <;> rfl) (by simp only [go_sem] <;> rfl) ?_
    refine OpenK.yes (by simp only [go_sem] <;> rfl) (by simp only [go_sem] <;> rfl) (by simp only [go_sem] <;> rfl) (by simp only [go_sem] <;> rfl) ?_
    refine OpenK.yes (by simp only [go_sem] <;> rfl) (by simp only [go_sem, g1, g2, hm4, f1, f2, f3, hzr, sg, rgd, rgz, t1, t2, t3, hta, hs0, s1, s2, bne_self_eq_false]; (try simp (disch := omega) only [if_pos]); (try simp only [go_sem, g1, g2, hm4, f1, f2, f3, hzr, sg, rgd, rgz, t1, t2, t3, hta, hs0, s1, s2, bne_self_eq_false])<;> rfl) (by simp only [go_sem] <;> rfl) (by simp only [go_sem] <;> rfl) ?_
    refine OpenK.yes (by simp only [go_sem] <;> rfl) (by simp only [go_sem, g1, g2, hm4, f1, f2, f3, hzr, sg, rgd, rgz, t1, t2, t3, hta, hs0, s1, s2, bne_self_eq_false] <;> rfl) (by simp only [go_sem] <;> rfl) (by simp only [go_sem] <;> rfl) ?_
    refine OpenK.yes (by simp only [go_sem] <;> rfl) (by simp only [go_sem] <;> rfl) (by simp only [go_sem] <;> rfl) (by simp only [go_sem] <;> rfl) ?_
    iterate 2 (refine OpenK.yes (by simp only [go_sem] <;> rfl) (by simp only [go_sem, g1, g2, hm4, f1, f2, f3, hzr, sg, rgd, rgz, t1, t2, t3, hta, hs0, s1, s2, bne_self_eq_false] <;> rfl) (by simp only [go_sem] <;> rfl) (by simp only [go_sem] <;> rfl) ?_)
    iterate 2 (refine OpenK.op (by simp only [go_sem, g1, g2, hm4, f1, f2, f3, hzr, sg, rgd, rgz, t1, t2, t3, hta, hs0, s1, s2, bne_self_eq_false] <;> rfl) (by simp only [go_sem] <;> rfl) (by simp only [go_sem] <;> rfl) ?_)
    iterate 2 (refine OpenK.yes (by simp only [go_sem] <;> rfl) (by simp only [go_sem] <;> rfl) (by simp only [go_sem] <;> rfl) (by simp only [go_sem] <;> rfl) ?_)
    refine OpenK.yes (by simp only [go_sem] <;> rfl) (by simp only [go_sem, g1, g2, hm4, f1, f2, f3, hzr, sg, rgd, rgz, t1, t2, t3, hta, hs0, s1, s2, bne_self_eq_false]; (try simp (disch := omega) only [if_pos]); (try simp only [go_sem, g1, g2, hm4, f1, f2, f3, hzr, sg, rgd, rgz, t1, t2, t3, hta, hs0, s1, s2, bne_self_eq_false])<;> rfl) (by simp only [go_sem] <;> rfl) (by simp only [go_sem] <;> rfl) ?_
    refine OpenK.yes (by simp only [go_sem] <;> rfl) (by simp only [go_sem, g1, g2, hm4, f1, f2, f3, hzr, sg, rgd, rgz, t1, t2, t3, hta, hs0, s1, s2, bne_self_eq_false] <;> rfl) (by simp only [go_sem] <;> rfl) (by simp only [go_sem] <;> rfl) ?_
    refine OpenK.yes (by simp only [go_sem] <;> rfl) (by simp only [go_sem] <;> rfl) (by simp only [go_sem] <;> rfl) (by simp only [go_sem] <;> rfl) ?_
    refine OpenK.yes (by simp only [go_sem] <;> rfl) (by simp only [go_sem, g1, g2, hm4, f1, f2, f3, hzr, sg, rgd, rgz, t1, t2, t3, hta, hs0, s1, s2, bne_self_eq_false]; (try simp (disch := omega) only [if_pos]); (try simp only [go_sem, g1, g2, hm4, f1, f2, f3, hzr, sg, rgd, rgz, t1, t2, t3, hta, hs0, s1, s2, bne_self_eq_false])<;> rfl) (by simp only [go_sem] <;> rfl) (by simp only [go_sem] <;> rfl) ?_
    refine OpenK.yes (by simp only [go_sem] <;> rfl) (by simp only [go_sem, g1, g2, hm4, f1, f2, f3, hzr, sg, rgd, rgz, t1, t2, t3, hta, hs0, s1, s2, bne_self_eq_false] <;> rfl) (by simp only [go_sem] <;> rfl) (by simp only [go_sem] <;> rfl) ?_
    refine OpenK.yes (by simp only [go_sem] <;> rfl) (by simp only [go_sem] <;> rfl) (by simp only [go_sem] <;> rfl) (by simp only [go_sem] <;> rfl) ?_
    iterate 2 (refine OpenK.yes (by simp only [go_sem] <;> rfl) (by simp only [go_sem, g1, g2, hm4, f1, f2, f3, hzr, sg, rgd, rgz, t1, t2, t3, hta, hs0, s1, s2, bne_self_eq_false] <;> rfl) (by simp only [go_sem] <;> rfl) (by simp only [go_sem] <;> rfl) ?_)
    refine OpenK.op (by simp only [go_sem, g1, g2, hm4, f1, f2, f3, hzr, sg, rgd, rgz, t1, t2, t3, hta, hs0, s1, s2, bne_self_eq_false] <;> rfl) (by simp only [go_sem] <;> rfl) (by simp only [go_sem] <;> rfl) ?_
    refine OpenK.nil (OpenE.finT (by kernel_rfl) (by kernel_rfl) (by kernel_rfl) ?_)
    refine Exec.cndS (by simp only [go_sem, g1, g2, hm4, f1, f2, f3, hzr, sg, rgd, rgz, t1, t2, t3, hta, hs0, s1, s2, bne_self_eq_false] <;> rfl) (fun hb127 => ?_) (fun hb127 => ?_)
    · exact absurd hb127 (by simp)
    refine Exec.skipS ?_
    refine Exec.assocS ?_
    refine Exec.reg ?_
    refine Run.op (by simp only [go_sem] <;> rfl) (by simp only [go_sem] <;> rfl) ?_
    iterate 3 (refine Run.op (by simp only [go_sem, g1, g2, hm4, f1, f2, f3, hzr, sg, rgd, rgz, t1, t2, t3, hta, hs0, s1, s2, bne_self_eq_false] <;> rfl) (by simp only [go_sem] <;> rfl) ?_)
    refine Run.nil ?_
    refine Exec.cndS (by simp only [go_sem, g1, g2, hm4, f1, f2, f3, hzr, sg, rgd, rgz, t1, t2, t3, hta, hs0, s1, s2, bne_self_eq_false] <;> rfl) (fun hb131 => ?_) (fun hb131 => ?_)
    · skip
      refine Exec.assocS ?_
      refine Exec.reg ?_
      refine Run.cal (c_law_alive) (by simp only [go_sem]) (by simp only [go_sem, g1, g2, hm4, f1, f2, f3, hzr, sg, rgd, rgz, t1, t2, t3, hta, hs0, s1, s2, bne_self_eq_false] <;> rfl) (by exact trivial) (fr0) (by simp only [go_sem, g1, g2, hm4, f1, f2, f3, hzr, sg, rgd, rgz, t1, t2, t3, hta, hs0, s1, s2, bne_self_eq_false] <;> rfl) ?_
      refine Run.op (by simp only [go_sem] <;> rfl) (by simp only [go_sem] <;> rfl) ?_
      refine Run.nil ?_
      refine Exec.retS ?_
      exact Ends.fin [] (rs := [.tmp 10]) rfl (by simp only [go_sem, g1, g2, hm4, f1, f2, f3, hzr, sg, rgd, rgz, t1, t2, t3, hta, hs0, s1, s2, bne_self_eq_false] <;> rfl) (by simp only [go_sem, g1, g2, hm4, f1, f2, f3, hzr, sg, rgd, rgz, t1, t2, t3, hta, hs0, s1, s2, bne_self_eq_false] <;> first | rfl | ((repeat' (first | with_reducible_and_instances rfl | refine st_eq ?_ ?_ ?_ | refine ret_eq ?_ | refine tup_eq ?_ | refine tm_eq ?_ ?_ | refine arr_eq ?_ | refine cells_eq ?_ | refine val_eq ?_ | refine ls_eq ?_ ?_ | refine own_eq ?_ ?_ | refine sl_eq ?_ | refine b_eq ?_ | (refine i_eq ?_; omega))); done))
    have hl24 : (allR rates by0 4).length < 24 := by have := of_decide_eq_false hb131; omega
    have hlX : (allR rates by0 4 ++ [(⟨((iN : Nat) : Int), ((zM : Nat) : Int), shwF (rtL rates iN) iN by0 zM⟩ : Reading)]).length ≤ 24 := by simp; omega
    have hlX2 : (allR rates by0 4 ++ [(⟨((iN : Nat) : Int), ((zM : Nat) : Int), shwF (rtL rates iN) iN by0 zM⟩ : Reading)]).length = (allR rates by0 4).length + 1 := by simp
    have htX : ∀ r ∈ allR rates by0 4 ++ [(⟨((iN : Nat) : Int), ((zM : Nat) : Int), shwF (rtL rates iN) iN by0 zM⟩ : Reading)], TrueIn rates by0 r := fun r hr => by
      rcases List.mem_append.1 hr with hr | hr
      · exact htr r hr
      · rw [List.mem_singleton.1 hr]; exact ⟨_, _, hi, hz81, rfl⟩
    have hexX : ∃ r ∈ allR rates by0 4 ++ [(⟨((iN : Nat) : Int), ((zM : Nat) : Int), shwF (rtL rates iN) iN by0 zM⟩ : Reading)], r.house = ((iN : Nat) : Int) := ⟨(⟨((iN : Nat) : Int), ((zM : Nat) : Int), shwF (rtL rates iN) iN by0 zM⟩ : Reading), by simp, rfl⟩
    have hX0 := true_shows hw hlX htX hi hd81 hexX
    have hX1 := true_shows hw hlX htX hi hz81 hexX
    have hmo := true_more hs0 hX0
    have hXi := true_in hw htX hi hX0 hd81
    have hXz := true_in hw htX hi hX1 hz81
    have hXo := true_own hX1 hXz
    have htk : List.take ((allR rates by0 4).length + 1) (List.map encReading (allR rates by0 4) ++ [[D.i ((iN : Nat) : Int), D.i ((zM : Nat) : Int), D.i (shwF (rtL rates iN) iN by0 zM)]]) = (allR rates by0 4 ++ [(⟨((iN : Nat) : Int), ((zM : Nat) : Int), shwF (rtL rates iN) iN by0 zM⟩ : Reading)]).map encReading := by rw [List.map_append]; exact List.take_of_length_le (by rw [List.length_append, List.length_map]; exact Nat.le_refl _)
    have u1 : decide ((showsR (⟨rates, allR rates by0 4 ++ [(⟨((iN : Nat) : Int), ((zM : Nat) : Int), shwF (rtL rates iN) iN by0 zM⟩ : Reading)]⟩ : Walk) ((iN : Nat) : Int) ((dM : Nat) : Int)).1.lo ≥ (showsR (⟨rates, allR rates by0 4⟩ : Walk) ((iN : Nat) : Int) ((dM : Nat) : Int)).1.lo) = true := decide_eq_true (by omega)
    have u2 : decide ((showsR (⟨rates, allR rates by0 4 ++ [(⟨((iN : Nat) : Int), ((zM : Nat) : Int), shwF (rtL rates iN) iN by0 zM⟩ : Reading)]⟩ : Walk) ((iN : Nat) : Int) ((dM : Nat) : Int)).1.hi ≤ (showsR (⟨rates, allR rates by0 4⟩ : Walk) ((iN : Nat) : Int) ((dM : Nat) : Int)).1.hi) = true := decide_eq_true (by omega)
    have u3 : decide (shwF (rtL rates iN) iN by0 dM ≥ (showsR (⟨rates, allR rates by0 4 ++ [(⟨((iN : Nat) : Int), ((zM : Nat) : Int), shwF (rtL rates iN) iN by0 zM⟩ : Reading)]⟩ : Walk) ((iN : Nat) : Int) ((dM : Nat) : Int)).1.lo) = true := decide_eq_true (by omega)
    have u4 : decide (shwF (rtL rates iN) iN by0 dM ≤ (showsR (⟨rates, allR rates by0 4 ++ [(⟨((iN : Nat) : Int), ((zM : Nat) : Int), shwF (rtL rates iN) iN by0 zM⟩ : Reading)]⟩ : Walk) ((iN : Nat) : Int) ((dM : Nat) : Int)).1.hi) = true := decide_eq_true (by omega)
    refine Exec.skipS ?_
    refine Exec.reg ?_
    refine Run.op (by simp only [go_sem, g1, g2, hm4, f1, f2, f3, hzr, sg, rgd, rgz, t1, t2, t3, hta, hs0, s1, s2, bne_self_eq_false, hX0, hX1, hXo, u1, u2, u3, u4, beq_self_eq_true] <;> rfl) (by simp only [go_sem] <;> rfl) ?_
    iterate 2 (refine Run.op (by simp only [go_sem] <;> rfl) (by simp only [go_sem] <;> rfl) ?_)
    refine Run.nil ?_
    refine Exec.opk 20 ?_
    refine OpenK.op (by simp only [go_sem, g1, g2, hm4, f1, f2, f3, hzr, sg, rgd, rgz, t1, t2, t3, hta, hs0, s1, s2, bne_self_eq_false, hX0, hX1, hXo, u1, u2, u3, u4, beq_self_eq_true] <;> rfl) (by simp only [go_sem] <;> rfl) (by simp only [go_sem] <;> rfl) ?_
    refine OpenK.op (by simp only [go_sem] <;> rfl) (by simp only [go_sem] <;> rfl) (by simp only [go_sem] <;> rfl) ?_
    refine OpenK.op (by simp only [go_sem, g1, g2, hm4, f1, f2, f3, hzr, sg, rgd, rgz, t1, t2, t3, hta, hs0, s1, s2, bne_self_eq_false, hX0, hX1, hXo, u1, u2, u3, u4, beq_self_eq_true] <;> rfl) (by simp only [go_sem] <;> rfl) (by simp only [go_sem] <;> rfl) ?_
    refine OpenK.op (by simp only [go_sem, g1, g2, hm4, f1, f2, f3, hzr, sg, rgd, rgz, t1, t2, t3, hta, hs0, s1, s2, bne_self_eq_false, hX0, hX1, hXo, u1, u2, u3, u4, beq_self_eq_true]; (try simp (disch := omega) only [if_pos]); (try simp only [go_sem, g1, g2, hm4, f1, f2, f3, hzr, sg, rgd, rgz, t1, t2, t3, hta, hs0, s1, s2, bne_self_eq_false, hX0, hX1, hXo, u1, u2, u3, u4, beq_self_eq_true]) <;> first | (refine ite_run ⟨by (try simp only [List.length_append, List.length_drop, List.length_take, List.length_map, List.length_cons, List.length_nil, List.length_replicate, List.length_set, List.length_range, Nat.zero_add]); omega, by (try simp only [List.length_append, List.length_drop, List.length_take, List.length_map, List.length_cons, List.length_nil, List.length_replicate, List.length_set, List.length_range, Nat.zero_add]); omega, by repeat (first | exact al_nil | assumption | refine al_app ?_ ?_ | refine al_drop ?_ | refine al_take ?_ | exact al_map (fun _ => rfl) | exact al_rep rfl | refine al_cons rfl ?_)⟩ ?_; simp only [go_sem, g1, g2, hm4, f1, f2, f3, hzr, sg, rgd, rgz, t1, t2, t3, hta, hs0, s1, s2, bne_self_eq_false, hX0, hX1, hXo, u1, u2, u3, u4, beq_self_eq_true] <;> rfl) | (refine ite_run ⟨by (try simp only [List.length_append, List.length_drop, List.length_take, List.length_map, List.length_cons, List.length_nil, List.length_replicate, List.length_set, List.length_range, Nat.zero_add]); omega, by repeat (first | exact al_nil | assumption | refine al_app ?_ ?_ | refine al_drop ?_ | refine al_take ?_ | exact al_map (fun _ => rfl) | exact al_rep rfl | refine al_cons rfl ?_)⟩ ?_; simp only [go_sem, g1, g2, hm4, f1, f2, f3, hzr, sg, rgd, rgz, t1, t2, t3, hta, hs0, s1, s2, bne_self_eq_false, hX0, hX1, hXo, u1, u2, u3, u4, beq_self_eq_true] <;> rfl) | rfl) (by simp only [go_sem] <;> rfl) (by simp only [go_sem] <;> rfl) ?_
    iterate 4 (refine OpenK.op (by simp only [go_sem] <;> rfl) (by simp only [go_sem] <;> rfl) (by simp only [go_sem] <;> rfl) ?_)
    refine OpenK.op (by simp only [go_sem, g1, g2, hm4, f1, f2, f3, hzr, sg, rgd, rgz, t1, t2, t3, hta, hs0, s1, s2, bne_self_eq_false, hX0, hX1, hXo, u1, u2, u3, u4, beq_self_eq_true]; (try simp (disch := omega) only [if_pos]); (try simp only [go_sem, g1, g2, hm4, f1, f2, f3, hzr, sg, rgd, rgz, t1, t2, t3, hta, hs0, s1, s2, bne_self_eq_false, hX0, hX1, hXo, u1, u2, u3, u4, beq_self_eq_true])<;> rfl) (by simp only [go_sem] <;> rfl) (by simp only [go_sem] <;> rfl) ?_
    refine OpenK.op (by simp only [go_sem, g1, g2, hm4, f1, f2, f3, hzr, sg, rgd, rgz, t1, t2, t3, hta, hs0, s1, s2, bne_self_eq_false, hX0, hX1, hXo, u1, u2, u3, u4, beq_self_eq_true] <;> rfl) (by simp only [go_sem] <;> rfl) (by simp only [go_sem] <;> rfl) ?_
    refine OpenK.op (by simp only [go_sem] <;> rfl) (by simp only [go_sem] <;> rfl) (by simp only [go_sem] <;> rfl) ?_
    refine OpenK.op (by simp only [go_sem, g1, g2, hm4, f1, f2, f3, hzr, sg, rgd, rgz, t1, t2, t3, hta, hs0, s1, s2, bne_self_eq_false, hX0, hX1, hXo, u1, u2, u3, u4, beq_self_eq_true]; (try simp (disch := omega) only [if_pos]); (try simp only [go_sem, g1, g2, hm4, f1, f2, f3, hzr, sg, rgd, rgz, t1, t2, t3, hta, hs0, s1, s2, bne_self_eq_false, hX0, hX1, hXo, u1, u2, u3, u4, beq_self_eq_true])<;> rfl) (by simp only [go_sem] <;> rfl) (by simp only [go_sem] <;> rfl) ?_
    refine OpenK.op (by simp only [go_sem, g1, g2, hm4, f1, f2, f3, hzr, sg, rgd, rgz, t1, t2, t3, hta, hs0, s1, s2, bne_self_eq_false, hX0, hX1, hXo, u1, u2, u3, u4, beq_self_eq_true] <;> rfl) (by simp only [go_sem] <;> rfl) (by simp only [go_sem] <;> rfl) ?_
    refine OpenK.op (by simp only [go_sem] <;> rfl) (by simp only [go_sem] <;> rfl) (by simp only [go_sem] <;> rfl) ?_
    refine OpenK.op (by simp only [go_sem, g1, g2, hm4, f1, f2, f3, hzr, sg, rgd, rgz, t1, t2, t3, hta, hs0, s1, s2, bne_self_eq_false, hX0, hX1, hXo, u1, u2, u3, u4, beq_self_eq_true] <;> rfl) (by simp only [go_sem] <;> rfl) (by simp only [go_sem] <;> rfl) ?_
    refine OpenK.op (by simp only [go_sem, g1, g2, hm4, f1, f2, f3, hzr, sg, rgd, rgz, t1, t2, t3, hta, hs0, s1, s2, bne_self_eq_false, hX0, hX1, hXo, u1, u2, u3, u4, beq_self_eq_true]; (try simp (disch := omega) only [if_pos]); (try simp only [go_sem, g1, g2, hm4, f1, f2, f3, hzr, sg, rgd, rgz, t1, t2, t3, hta, hs0, s1, s2, bne_self_eq_false, hX0, hX1, hXo, u1, u2, u3, u4, beq_self_eq_true]) <;> first | (refine ite_run ⟨by (try simp only [List.length_append, List.length_drop, List.length_take, List.length_map, List.length_cons, List.length_nil, List.length_replicate, List.length_set, List.length_range, Nat.zero_add]); omega, by (try simp only [List.length_append, List.length_drop, List.length_take, List.length_map, List.length_cons, List.length_nil, List.length_replicate, List.length_set, List.length_range, Nat.zero_add]); omega, by repeat (first | exact al_nil | assumption | refine al_app ?_ ?_ | refine al_drop ?_ | refine al_take ?_ | exact al_map (fun _ => rfl) | exact al_rep rfl | refine al_cons rfl ?_)⟩ ?_; simp only [go_sem, g1, g2, hm4, f1, f2, f3, hzr, sg, rgd, rgz, t1, t2, t3, hta, hs0, s1, s2, bne_self_eq_false, hX0, hX1, hXo, u1, u2, u3, u4, beq_self_eq_true] <;> rfl) | (refine ite_run ⟨by (try simp only [List.length_append, List.length_drop, List.length_take, List.length_map, List.length_cons, List.length_nil, List.length_replicate, List.length_set, List.length_range, Nat.zero_add]); omega, by repeat (first | exact al_nil | assumption | refine al_app ?_ ?_ | refine al_drop ?_ | refine al_take ?_ | exact al_map (fun _ => rfl) | exact al_rep rfl | refine al_cons rfl ?_)⟩ ?_; simp only [go_sem, g1, g2, hm4, f1, f2, f3, hzr, sg, rgd, rgz, t1, t2, t3, hta, hs0, s1, s2, bne_self_eq_false, hX0, hX1, hXo, u1, u2, u3, u4, beq_self_eq_true] <;> rfl) | rfl) (by simp only [go_sem] <;> rfl) (by simp only [go_sem] <;> rfl) ?_
    iterate 2 (refine OpenK.op (by simp only [go_sem] <;> rfl) (by simp only [go_sem] <;> rfl) (by simp only [go_sem] <;> rfl) ?_)
    refine OpenK.nil (OpenE.finT (by kernel_rfl) (by kernel_rfl) (by kernel_rfl) ?_)
    refine Exec.reg ?_
    refine Run.frz 134 (by simp only [go_sem, htk] <;> rfl) ?_
    refine Run.op (by simp only [go_sem, g1, g2, hm4, f1, f2, f3, hzr, sg, rgd, rgz, t1, t2, t3, hta, hs0, s1, s2, bne_self_eq_false, hX0, hX1, hXo, u1, u2, u3, u4, beq_self_eq_true] <;> rfl) (by simp only [go_sem] <;> rfl) ?_
    iterate 2 (refine Run.op (by simp only [go_sem] <;> rfl) (by simp only [go_sem] <;> rfl) ?_)
    refine Run.cal (c_card_Shows (⟨rates, allR rates by0 4 ++ [(⟨((iN : Nat) : Int), ((zM : Nat) : Int), shwF (rtL rates iN) iN by0 zM⟩ : Reading)]⟩ : Walk) ((iN : Nat) : Int) ((dM : Nat) : Int) (by simp only; omega) (by simp only; omega) (fun _ => h20_of (by simp only; omega))) (by simp only [go_sem]) (by simp only [go_sem, g1, g2, hm4, f1, f2, f3, hzr, sg, rgd, rgz, t1, t2, t3, hta, hs0, s1, s2, bne_self_eq_false, hX0, hX1, hXo, u1, u2, u3, u4, beq_self_eq_true] <;> rfl) (by exact ⟨by first | exact WkR.pure rfl | exact WkR.nil _ | exact WkR.int (by first | omega | (simp; done) | (simp; omega)), by first | exact WkR.pure rfl | exact WkR.nil _ | exact WkR.int (by first | omega | (simp; done) | (simp; omega)), by first | exact WkR.pure rfl | exact WkR.nil _ | exact WkR.int (by first | omega | (simp; done) | (simp; omega)), trivial⟩) (fr0) (by simp only [go_sem, g1, g2, hm4, f1, f2, f3, hzr, sg, rgd, rgz, t1, t2, t3, hta, hs0, s1, s2, bne_self_eq_false, hX0, hX1, hXo, u1, u2, u3, u4, beq_self_eq_true] <;> rfl) ?_
    refine Run.op (by simp only [go_sem] <;> rfl) (by simp only [go_sem] <;> rfl) ?_
    iterate 2 (refine Run.op (by simp only [go_sem, g1, g2, hm4, f1, f2, f3, hzr, sg, rgd, rgz, t1, t2, t3, hta, hs0, s1, s2, bne_self_eq_false, hX0, hX1, hXo, u1, u2, u3, u4, beq_self_eq_true] <;> rfl) (by simp only [go_sem] <;> rfl) ?_)
    iterate 3 (refine Run.op (by simp only [go_sem] <;> rfl) (by simp only [go_sem] <;> rfl) ?_)
    refine Run.nil ?_
    refine Exec.reg ?_
    refine Run.op (by simp only [go_sem, g1, g2, hm4, f1, f2, f3, hzr, sg, rgd, rgz, t1, t2, t3, hta, hs0, s1, s2, bne_self_eq_false, hX0, hX1, hXo, u1, u2, u3, u4, beq_self_eq_true] <;> rfl) (by simp only [go_sem] <;> rfl) ?_
    iterate 2 (refine Run.op (by simp only [go_sem] <;> rfl) (by simp only [go_sem] <;> rfl) ?_)
    refine Run.cal (c_card_Shows (⟨rates, allR rates by0 4 ++ [(⟨((iN : Nat) : Int), ((zM : Nat) : Int), shwF (rtL rates iN) iN by0 zM⟩ : Reading)]⟩ : Walk) ((iN : Nat) : Int) ((zM : Nat) : Int) (by simp only; omega) (by simp only; omega) (fun _ => h20_of (by simp only; omega))) (by simp only [go_sem]) (by simp only [go_sem, g1, g2, hm4, f1, f2, f3, hzr, sg, rgd, rgz, t1, t2, t3, hta, hs0, s1, s2, bne_self_eq_false, hX0, hX1, hXo, u1, u2, u3, u4, beq_self_eq_true] <;> rfl) (by exact ⟨by first | exact WkR.pure rfl | exact WkR.nil _ | exact WkR.int (by first | omega | (simp; done) | (simp; omega)), by first | exact WkR.pure rfl | exact WkR.nil _ | exact WkR.int (by first | omega | (simp; done) | (simp; omega)), by first | exact WkR.pure rfl | exact WkR.nil _ | exact WkR.int (by first | omega | (simp; done) | (simp; omega)), trivial⟩) (fr0) (by simp only [go_sem, g1, g2, hm4, f1, f2, f3, hzr, sg, rgd, rgz, t1, t2, t3, hta, hs0, s1, s2, bne_self_eq_false, hX0, hX1, hXo, u1, u2, u3, u4, beq_self_eq_true] <;> rfl) ?_
    refine Run.op (by simp only [go_sem] <;> rfl) (by simp only [go_sem] <;> rfl) ?_
    iterate 2 (refine Run.op (by simp only [go_sem, g1, g2, hm4, f1, f2, f3, hzr, sg, rgd, rgz, t1, t2, t3, hta, hs0, s1, s2, bne_self_eq_false, hX0, hX1, hXo, u1, u2, u3, u4, beq_self_eq_true] <;> rfl) (by simp only [go_sem] <;> rfl) ?_)
    iterate 3 (refine Run.op (by simp only [go_sem] <;> rfl) (by simp only [go_sem] <;> rfl) ?_)
    refine Run.nil ?_
    refine Exec.opk 69 ?_
    refine OpenK.op (by simp only [go_sem] <;> rfl) (by simp only [go_sem] <;> rfl) (by simp only [go_sem] <;> rfl) ?_
    iterate 2 (refine OpenK.op (by simp only [go_sem, g1, g2, hm4, f1, f2, f3, hzr, sg, rgd, rgz, t1, t2, t3, hta, hs0, s1, s2, bne_self_eq_false, hX0, hX1, hXo, u1, u2, u3, u4, beq_self_eq_true] <;> rfl) (by simp only [go_sem] <;> rfl) (by simp only [go_sem] <;> rfl) ?_)
    refine OpenK.yes (by simp only [go_sem] <;> rfl) (by simp only [go_sem] <;> rfl) (by simp only [go_sem] <;> rfl) (by simp only [go_sem] <;> rfl) ?_
    refine OpenK.yes (by simp only [go_sem] <;> rfl) (by simp only [go_sem, g1, g2, hm4, f1, f2, f3, hzr, sg, rgd, rgz, t1, t2, t3, hta, hs0, s1, s2, bne_self_eq_false, hX0, hX1, hXo, u1, u2, u3, u4, beq_self_eq_true] <;> rfl) (by simp only [go_sem] <;> rfl) (by simp only [go_sem] <;> rfl) ?_
    iterate 2 (refine OpenK.op (by simp only [go_sem, g1, g2, hm4, f1, f2, f3, hzr, sg, rgd, rgz, t1, t2, t3, hta, hs0, s1, s2, bne_self_eq_false, hX0, hX1, hXo, u1, u2, u3, u4, beq_self_eq_true] <;> rfl) (by simp only [go_sem] <;> rfl) (by simp only [go_sem] <;> rfl) ?_)
    refine OpenK.yes (by simp only [go_sem] <;> rfl) (by simp only [go_sem] <;> rfl) (by simp only [go_sem] <;> rfl) (by simp only [go_sem] <;> rfl) ?_
    refine OpenK.yes (by simp only [go_sem] <;> rfl) (by simp only [go_sem, g1, g2, hm4, f1, f2, f3, hzr, sg, rgd, rgz, t1, t2, t3, hta, hs0, s1, s2, bne_self_eq_false, hX0, hX1, hXo, u1, u2, u3, u4, beq_self_eq_true] <;> rfl) (by simp only [go_sem] <;> rfl) (by simp only [go_sem] <;> rfl) ?_
    refine OpenK.yes (by simp only [go_sem] <;> rfl) (by simp only [go_sem] <;> rfl) (by simp only [go_sem] <;> rfl) (by simp only [go_sem] <;> rfl) ?_
    iterate 2 (refine OpenK.yes (by simp only [go_sem] <;> rfl) (by simp only [go_sem, g1, g2, hm4, f1, f2, f3, hzr, sg, rgd, rgz, t1, t2, t3, hta, hs0, s1, s2, bne_self_eq_false, hX0, hX1, hXo, u1, u2, u3, u4, beq_self_eq_true] <;> rfl) (by simp only [go_sem] <;> rfl) (by simp only [go_sem] <;> rfl) ?_)
    iterate 2 (refine OpenK.op (by simp only [go_sem, g1, g2, hm4, f1, f2, f3, hzr, sg, rgd, rgz, t1, t2, t3, hta, hs0, s1, s2, bne_self_eq_false, hX0, hX1, hXo, u1, u2, u3, u4, beq_self_eq_true] <;> rfl) (by simp only [go_sem] <;> rfl) (by simp only [go_sem] <;> rfl) ?_)
    refine OpenK.yes (by simp only [go_sem] <;> rfl) (by simp only [go_sem] <;> rfl) (by simp only [go_sem] <;> rfl) (by simp only [go_sem] <;> rfl) ?_
    refine OpenK.yes (by simp only [go_sem] <;> rfl) (by simp only [go_sem, g1, g2, hm4, f1, f2, f3, hzr, sg, rgd, rgz, t1, t2, t3, hta, hs0, s1, s2, bne_self_eq_false, hX0, hX1, hXo, u1, u2, u3, u4, beq_self_eq_true] <;> rfl) (by simp only [go_sem] <;> rfl) (by simp only [go_sem] <;> rfl) ?_
    refine OpenK.yes (by simp only [go_sem] <;> rfl) (by simp only [go_sem] <;> rfl) (by simp only [go_sem] <;> rfl) (by simp only [go_sem] <;> rfl) ?_
    iterate 2 (refine OpenK.yes (by simp only [go_sem] <;> rfl) (by simp only [go_sem, g1, g2, hm4, f1, f2, f3, hzr, sg, rgd, rgz, t1, t2, t3, hta, hs0, s1, s2, bne_self_eq_false, hX0, hX1, hXo, u1, u2, u3, u4, beq_self_eq_true] <;> rfl) (by simp only [go_sem] <;> rfl) (by simp only [go_sem] <;> rfl) ?_)
    iterate 2 (refine OpenK.op (by simp only [go_sem, g1, g2, hm4, f1, f2, f3, hzr, sg, rgd, rgz, t1, t2, t3, hta, hs0, s1, s2, bne_self_eq_false, hX0, hX1, hXo, u1, u2, u3, u4, beq_self_eq_true] <;> rfl) (by simp only [go_sem] <;> rfl) (by simp only [go_sem] <;> rfl) ?_)
    iterate 2 (refine OpenK.yes (by simp only [go_sem] <;> rfl) (by simp only [go_sem] <;> rfl) (by simp only [go_sem] <;> rfl) (by simp only [go_sem] <;> rfl) ?_)
    refine OpenK.yes (by simp only [go_sem] <;> rfl) (by simp only [go_sem, g1, g2, hm4, f1, f2, f3, hzr, sg, rgd, rgz, t1, t2, t3, hta, hs0, s1, s2, bne_self_eq_false, hX0, hX1, hXo, u1, u2, u3, u4, beq_self_eq_true]; (try simp (disch := omega) only [if_pos]); (try simp only [go_sem, g1, g2, hm4, f1, f2, f3, hzr, sg, rgd, rgz, t1, t2, t3, hta, hs0, s1, s2, bne_self_eq_false, hX0, hX1, hXo, u1, u2, u3, u4, beq_self_eq_true])<;> rfl) (by simp only [go_sem] <;> rfl) (by simp only [go_sem] <;> rfl) ?_
    refine OpenK.yes (by simp only [go_sem] <;> rfl) (by simp only [go_sem, g1, g2, hm4, f1, f2, f3, hzr, sg, rgd, rgz, t1, t2, t3, hta, hs0, s1, s2, bne_self_eq_false, hX0, hX1, hXo, u1, u2, u3, u4, beq_self_eq_true] <;> rfl) (by simp only [go_sem] <;> rfl) (by simp only [go_sem] <;> rfl) ?_
    refine OpenK.yes (by simp only [go_sem] <;> rfl) (by simp only [go_sem] <;> rfl) (by simp only [go_sem] <;> rfl) (by simp only [go_sem] <;> rfl) ?_
    refine OpenK.yes (by simp only [go_sem] <;> rfl) (by simp only [go_sem, g1, g2, hm4, f1, f2, f3, hzr, sg, rgd, rgz, t1, t2, t3, hta, hs0, s1, s2, bne_self_eq_false, hX0, hX1, hXo, u1, u2, u3, u4, beq_self_eq_true]; (try simp (disch := omega) only [if_pos]); (try simp only [go_sem, g1, g2, hm4, f1, f2, f3, hzr, sg, rgd, rgz, t1, t2, t3, hta, hs0, s1, s2, bne_self_eq_false, hX0, hX1, hXo, u1, u2, u3, u4, beq_self_eq_true])<;> rfl) (by simp only [go_sem] <;> rfl) (by simp only [go_sem] <;> rfl) ?_
    refine OpenK.yes (by simp only [go_sem] <;> rfl) (by simp only [go_sem, g1, g2, hm4, f1, f2, f3, hzr, sg, rgd, rgz, t1, t2, t3, hta, hs0, s1, s2, bne_self_eq_false, hX0, hX1, hXo, u1, u2, u3, u4, beq_self_eq_true] <;> rfl) (by simp only [go_sem] <;> rfl) (by simp only [go_sem] <;> rfl) ?_
    refine OpenK.yes (by simp only [go_sem] <;> rfl) (by simp only [go_sem] <;> rfl) (by simp only [go_sem] <;> rfl) (by simp only [go_sem] <;> rfl) ?_
    iterate 2 (refine OpenK.yes (by simp only [go_sem] <;> rfl) (by simp only [go_sem, g1, g2, hm4, f1, f2, f3, hzr, sg, rgd, rgz, t1, t2, t3, hta, hs0, s1, s2, bne_self_eq_false, hX0, hX1, hXo, u1, u2, u3, u4, beq_self_eq_true] <;> rfl) (by simp only [go_sem] <;> rfl) (by simp only [go_sem] <;> rfl) ?_)
    iterate 2 (refine OpenK.op (by simp only [go_sem, g1, g2, hm4, f1, f2, f3, hzr, sg, rgd, rgz, t1, t2, t3, hta, hs0, s1, s2, bne_self_eq_false, hX0, hX1, hXo, u1, u2, u3, u4, beq_self_eq_true] <;> rfl) (by simp only [go_sem] <;> rfl) (by simp only [go_sem] <;> rfl) ?_)
    iterate 2 (refine OpenK.yes (by simp only [go_sem] <;> rfl) (by simp only [go_sem] <;> rfl) (by simp only [go_sem] <;> rfl) (by simp only [go_sem] <;> rfl) ?_)
    refine OpenK.yes (by simp only [go_sem] <;> rfl) (by simp only [go_sem, g1, g2, hm4, f1, f2, f3, hzr, sg, rgd, rgz, t1, t2, t3, hta, hs0, s1, s2, bne_self_eq_false, hX0, hX1, hXo, u1, u2, u3, u4, beq_self_eq_true]; (try simp (disch := omega) only [if_pos]); (try simp only [go_sem, g1, g2, hm4, f1, f2, f3, hzr, sg, rgd, rgz, t1, t2, t3, hta, hs0, s1, s2, bne_self_eq_false, hX0, hX1, hXo, u1, u2, u3, u4, beq_self_eq_true])<;> rfl) (by simp only [go_sem] <;> rfl) (by simp only [go_sem] <;> rfl) ?_
    refine OpenK.yes (by simp only [go_sem] <;> rfl) (by simp only [go_sem, g1, g2, hm4, f1, f2, f3, hzr, sg, rgd, rgz, t1, t2, t3, hta, hs0, s1, s2, bne_self_eq_false, hX0, hX1, hXo, u1, u2, u3, u4, beq_self_eq_true] <;> rfl) (by simp only [go_sem] <;> rfl) (by simp only [go_sem] <;> rfl) ?_
    refine OpenK.yes (by simp only [go_sem] <;> rfl) (by simp only [go_sem] <;> rfl) (by simp only [go_sem] <;> rfl) (by simp only [go_sem] <;> rfl) ?_
    refine OpenK.yes (by simp only [go_sem] <;> rfl) (by simp only [go_sem, g1, g2, hm4, f1, f2, f3, hzr, sg, rgd, rgz, t1, t2, t3, hta, hs0, s1, s2, bne_self_eq_false, hX0, hX1, hXo, u1, u2, u3, u4, beq_self_eq_true]; (try simp (disch := omega) only [if_pos]); (try simp only [go_sem, g1, g2, hm4, f1, f2, f3, hzr, sg, rgd, rgz, t1, t2, t3, hta, hs0, s1, s2, bne_self_eq_false, hX0, hX1, hXo, u1, u2, u3, u4, beq_self_eq_true])<;> rfl) (by simp only [go_sem] <;> rfl) (by simp only [go_sem] <;> rfl) ?_
    refine OpenK.yes (by simp only [go_sem] <;> rfl) (by simp only [go_sem, g1, g2, hm4, f1, f2, f3, hzr, sg, rgd, rgz, t1, t2, t3, hta, hs0, s1, s2, bne_self_eq_false, hX0, hX1, hXo, u1, u2, u3, u4, beq_self_eq_true] <;> rfl) (by simp only [go_sem] <;> rfl) (by simp only [go_sem] <;> rfl) ?_
    refine OpenK.yes (by simp only [go_sem] <;> rfl) (by simp only [go_sem] <;> rfl) (by simp only [go_sem] <;> rfl) (by simp only [go_sem] <;> rfl) ?_
    iterate 2 (refine OpenK.yes (by simp only [go_sem] <;> rfl) (by simp only [go_sem, g1, g2, hm4, f1, f2, f3, hzr, sg, rgd, rgz, t1, t2, t3, hta, hs0, s1, s2, bne_self_eq_false, hX0, hX1, hXo, u1, u2, u3, u4, beq_self_eq_true] <;> rfl) (by simp only [go_sem] <;> rfl) (by simp only [go_sem] <;> rfl) ?_)
    iterate 2 (refine OpenK.op (by simp only [go_sem, g1, g2, hm4, f1, f2, f3, hzr, sg, rgd, rgz, t1, t2, t3, hta, hs0, s1, s2, bne_self_eq_false, hX0, hX1, hXo, u1, u2, u3, u4, beq_self_eq_true] <;> rfl) (by simp only [go_sem] <;> rfl) (by simp only [go_sem] <;> rfl) ?_)
    refine OpenK.yes (by simp only [go_sem] <;> rfl) (by simp only [go_sem, g1, g2, hm4, f1, f2, f3, hzr, sg, rgd, rgz, t1, t2, t3, hta, hs0, s1, s2, bne_self_eq_false, hX0, hX1, hXo, u1, u2, u3, u4, beq_self_eq_true] <;> rfl) (by simp only [go_sem] <;> rfl) (by simp only [go_sem] <;> rfl) ?_
    iterate 2 (refine OpenK.yes (by simp only [go_sem] <;> rfl) (by simp only [go_sem] <;> rfl) (by simp only [go_sem] <;> rfl) (by simp only [go_sem] <;> rfl) ?_)
    refine OpenK.yes (by simp only [go_sem] <;> rfl) (by simp only [go_sem, g1, g2, hm4, f1, f2, f3, hzr, sg, rgd, rgz, t1, t2, t3, hta, hs0, s1, s2, bne_self_eq_false, hX0, hX1, hXo, u1, u2, u3, u4, beq_self_eq_true]; (try simp (disch := omega) only [if_pos]); (try simp only [go_sem, g1, g2, hm4, f1, f2, f3, hzr, sg, rgd, rgz, t1, t2, t3, hta, hs0, s1, s2, bne_self_eq_false, hX0, hX1, hXo, u1, u2, u3, u4, beq_self_eq_true])<;> rfl) (by simp only [go_sem] <;> rfl) (by simp only [go_sem] <;> rfl) ?_
    refine OpenK.yes (by simp only [go_sem] <;> rfl) (by simp only [go_sem, g1, g2, hm4, f1, f2, f3, hzr, sg, rgd, rgz, t1, t2, t3, hta, hs0, s1, s2, bne_self_eq_false, hX0, hX1, hXo, u1, u2, u3, u4, beq_self_eq_true] <;> rfl) (by simp only [go_sem] <;> rfl) (by simp only [go_sem] <;> rfl) ?_
    refine OpenK.yes (by simp only [go_sem] <;> rfl) (by simp only [go_sem] <;> rfl) (by simp only [go_sem] <;> rfl) (by simp only [go_sem] <;> rfl) ?_
    refine OpenK.yes (by simp only [go_sem] <;> rfl) (by simp only [go_sem, g1, g2, hm4, f1, f2, f3, hzr, sg, rgd, rgz, t1, t2, t3, hta, hs0, s1, s2, bne_self_eq_false, hX0, hX1, hXo, u1, u2, u3, u4, beq_self_eq_true]; (try simp (disch := omega) only [if_pos]); (try simp only [go_sem, g1, g2, hm4, f1, f2, f3, hzr, sg, rgd, rgz, t1, t2, t3, hta, hs0, s1, s2, bne_self_eq_false, hX0, hX1, hXo, u1, u2, u3, u4, beq_self_eq_true])<;> rfl) (by simp only [go_sem] <;> rfl) (by simp only [go_sem] <;> rfl) ?_
    refine OpenK.yes (by simp only [go_sem] <;> rfl) (by simp only [go_sem, g1, g2, hm4, f1, f2, f3, hzr, sg, rgd, rgz, t1, t2, t3, hta, hs0, s1, s2, bne_self_eq_false, hX0, hX1, hXo, u1, u2, u3, u4, beq_self_eq_true] <;> rfl) (by simp only [go_sem] <;> rfl) (by simp only [go_sem] <;> rfl) ?_
    iterate 2 (refine OpenK.yes (by simp only [go_sem] <;> rfl) (by simp only [go_sem] <;> rfl) (by simp only [go_sem] <;> rfl) (by simp only [go_sem] <;> rfl) ?_)
    refine OpenK.yes (by simp only [go_sem] <;> rfl) (by simp only [go_sem, g1, g2, hm4, f1, f2, f3, hzr, sg, rgd, rgz, t1, t2, t3, hta, hs0, s1, s2, bne_self_eq_false, hX0, hX1, hXo, u1, u2, u3, u4, beq_self_eq_true]; (try simp (disch := omega) only [if_pos]); (try simp only [go_sem, g1, g2, hm4, f1, f2, f3, hzr, sg, rgd, rgz, t1, t2, t3, hta, hs0, s1, s2, bne_self_eq_false, hX0, hX1, hXo, u1, u2, u3, u4, beq_self_eq_true])<;> rfl) (by simp only [go_sem] <;> rfl) (by simp only [go_sem] <;> rfl) ?_
    refine OpenK.yes (by simp only [go_sem] <;> rfl) (by simp only [go_sem, g1, g2, hm4, f1, f2, f3, hzr, sg, rgd, rgz, t1, t2, t3, hta, hs0, s1, s2, bne_self_eq_false, hX0, hX1, hXo, u1, u2, u3, u4, beq_self_eq_true] <;> rfl) (by simp only [go_sem] <;> rfl) (by simp only [go_sem] <;> rfl) ?_
    refine OpenK.yes (by simp only [go_sem] <;> rfl) (by simp only [go_sem] <;> rfl) (by simp only [go_sem] <;> rfl) (by simp only [go_sem] <;> rfl) ?_
    refine OpenK.yes (by simp only [go_sem] <;> rfl) (by simp only [go_sem, g1, g2, hm4, f1, f2, f3, hzr, sg, rgd, rgz, t1, t2, t3, hta, hs0, s1, s2, bne_self_eq_false, hX0, hX1, hXo, u1, u2, u3, u4, beq_self_eq_true]; (try simp (disch := omega) only [if_pos]); (try simp only [go_sem, g1, g2, hm4, f1, f2, f3, hzr, sg, rgd, rgz, t1, t2, t3, hta, hs0, s1, s2, bne_self_eq_false, hX0, hX1, hXo, u1, u2, u3, u4, beq_self_eq_true])<;> rfl) (by simp only [go_sem] <;> rfl) (by simp only [go_sem] <;> rfl) ?_
    refine OpenK.yes (by simp only [go_sem] <;> rfl) (by simp only [go_sem, g1, g2, hm4, f1, f2, f3, hzr, sg, rgd, rgz, t1, t2, t3, hta, hs0, s1, s2, bne_self_eq_false, hX0, hX1, hXo, u1, u2, u3, u4, beq_self_eq_true] <;> rfl) (by simp only [go_sem] <;> rfl) (by simp only [go_sem] <;> rfl) ?_
    refine OpenK.calw (by simp only [go_sem] <;> rfl) (c_law_span _ _) (by simp only [go_sem]) (by simp only [go_sem, g1, g2, hm4, f1, f2, f3, hzr, sg, rgd, rgz, t1, t2, t3, hta, hs0, s1, s2, bne_self_eq_false, hX0, hX1, hXo, u1, u2, u3, u4, beq_self_eq_true] <;> rfl) (by simp only [go_sem, g1, g2, hm4, f1, f2, f3, hzr, sg, rgd, rgz, t1, t2, t3, hta, hs0, s1, s2, bne_self_eq_false, hX0, hX1, hXo, u1, u2, u3, u4, beq_self_eq_true] <;> rfl) (by exact ⟨by first | exact WkR.pure rfl | exact WkR.nil _ | exact WkR.int (by first | omega | (simp; done) | (simp; omega)), by first | exact WkR.pure rfl | exact WkR.nil _ | exact WkR.int (by first | omega | (simp; done) | (simp; omega)), trivial⟩) (fr0) (by simp only [go_sem, g1, g2, hm4, f1, f2, f3, hzr, sg, rgd, rgz, t1, t2, t3, hta, hs0, s1, s2, bne_self_eq_false, hX0, hX1, hXo, u1, u2, u3, u4, beq_self_eq_true] <;> rfl) (by simp only [go_sem] <;> rfl) (by simp only [go_sem] <;> rfl) ?_
    refine OpenK.yes (by simp only [go_sem] <;> rfl) (by simp only [go_sem, g1, g2, hm4, f1, f2, f3, hzr, sg, rgd, rgz, t1, t2, t3, hta, hs0, s1, s2, bne_self_eq_false, hX0, hX1, hXo, u1, u2, u3, u4, beq_self_eq_true] <;> rfl) (by simp only [go_sem] <;> rfl) (by simp only [go_sem] <;> rfl) ?_
    iterate 2 (refine OpenK.op (by simp only [go_sem, g1, g2, hm4, f1, f2, f3, hzr, sg, rgd, rgz, t1, t2, t3, hta, hs0, s1, s2, bne_self_eq_false, hX0, hX1, hXo, u1, u2, u3, u4, beq_self_eq_true] <;> rfl) (by simp only [go_sem] <;> rfl) (by simp only [go_sem] <;> rfl) ?_)
    refine OpenK.calw (by simp only [go_sem] <;> rfl) (c_law_alive) (by simp only [go_sem]) (by simp only [go_sem, g1, g2, hm4, f1, f2, f3, hzr, sg, rgd, rgz, t1, t2, t3, hta, hs0, s1, s2, bne_self_eq_false, hX0, hX1, hXo, u1, u2, u3, u4, beq_self_eq_true] <;> rfl) (by simp only [go_sem, g1, g2, hm4, f1, f2, f3, hzr, sg, rgd, rgz, t1, t2, t3, hta, hs0, s1, s2, bne_self_eq_false, hX0, hX1, hXo, u1, u2, u3, u4, beq_self_eq_true] <;> rfl) (by exact trivial) (fr0) (by simp only [go_sem, g1, g2, hm4, f1, f2, f3, hzr, sg, rgd, rgz, t1, t2, t3, hta, hs0, s1, s2, bne_self_eq_false, hX0, hX1, hXo, u1, u2, u3, u4, beq_self_eq_true] <;> rfl) (by simp only [go_sem] <;> rfl) (by simp only [go_sem] <;> rfl) ?_
    refine OpenK.op (by simp only [go_sem, g1, g2, hm4, f1, f2, f3, hzr, sg, rgd, rgz, t1, t2, t3, hta, hs0, s1, s2, bne_self_eq_false, hX0, hX1, hXo, u1, u2, u3, u4, beq_self_eq_true] <;> rfl) (by simp only [go_sem] <;> rfl) (by simp only [go_sem] <;> rfl) ?_
    refine OpenK.op (by simp only [go_sem] <;> rfl) (by simp only [go_sem] <;> rfl) (by simp only [go_sem] <;> rfl) ?_
    refine OpenK.nil (OpenE.finT (by kernel_rfl) (by kernel_rfl) (by kernel_rfl) ?_)
    exact Ends.fin [] (rs := [.tmp 10]) rfl (by simp only [go_sem, g1, g2, hm4, f1, f2, f3, hzr, sg, rgd, rgz, t1, t2, t3, hta, hs0, s1, s2, bne_self_eq_false, hX0, hX1, hXo, u1, u2, u3, u4, beq_self_eq_true] <;> rfl) (by simp only [go_sem, g1, g2, hm4, f1, f2, f3, hzr, sg, rgd, rgz, t1, t2, t3, hta, hs0, s1, s2, bne_self_eq_false, hX0, hX1, hXo, u1, u2, u3, u4, beq_self_eq_true] <;> first | rfl | ((repeat' (first | with_reducible_and_instances rfl | refine st_eq ?_ ?_ ?_ | refine ret_eq ?_ | refine tup_eq ?_ | refine tm_eq ?_ ?_ | refine arr_eq ?_ | refine cells_eq ?_ | refine val_eq ?_ | refine ls_eq ?_ ?_ | refine own_eq ?_ ?_ | refine sl_eq ?_ | refine b_eq ?_ | (refine i_eq ?_; omega))); done))

end Go.Mw

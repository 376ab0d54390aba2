/- Contracts of the functions that the bill reaches: the errors of an account, what is used and what it costs, and disputes, by the document. -/
import Derived.Test.YtabfdgdckmhhgaaB8
import Derived.Test.YtabfdgdckmhhgaaB4
set_option linter.unusedSimpArgs false
set_option linter.unusedVariables false
set_option linter.unusedSectionVars false
set_option linter.deprecated false
namespace Go.Mw
open Go.Proofs
open Go.Bi
attribute [local go_sem] decide_true beq_self_eq_true bne_self_eq_false
theorem twT_iff {l : List Nt} : ∀ {k : Nat}, k ≤ l.length → (twT l k = true ↔ ∃ i j, i < k ∧ j < i ∧ twin (l.getD i default) (l.getD j default) = true)
  | 0, _ => by simp [twT]
  | k + 1, hk => by
    have hg := nt_get (l := l) (i := k) (by omega)
    rw [twT, hg, Bool.or_eq_true, twT_iff (by omega)]
    simp only [List.any_eq_true]
    constructor
    · rintro (⟨i, j, h1, h2, h3⟩ | ⟨x, hx, ht⟩)
      · exact ⟨i, j, by omega, h2, h3⟩
      · obtain ⟨j, hj⟩ := List.getElem?_of_mem hx
        have hjl := (List.getElem?_eq_some_iff.1 hj).1
        rw [List.length_take] at hjl
        rw [List.getElem?_take_of_lt (by omega), nt_get (by omega)] at hj
        cases hj
        exact ⟨k, j, by omega, by omega, ht⟩
    · rintro ⟨i, j, h1, h2, h3⟩
      by_cases e : i = k
      · subst e
        exact .inr ⟨_, List.mem_of_getElem? (i := j) (by rw [List.getElem?_take_of_lt h2, nt_get (by omega)]), h3⟩
      · exact .inl ⟨i, j, by omega, h2, h3⟩
theorem start_zero {a : Ac} (h : startE a = 0) : acctB a = true ∧ twT a.ns a.ns.length = false := by
  unfold startE at h
  split at h
  · cases h
  · split at h
    · cases h
    · rename_i h1 h2
      exact ⟨by simpa using h1, by simpa using h2⟩
theorem start_val {a : Ac} (h : startE a = 0) : Val a := acct_val (start_zero h).1
theorem open_zero {a : Ac} {day known : Int} (h : openE a day known = 0) : startE a = 0 ∧ (a.start ≤ day ∧ day ≤ 131072) ∧ (0 ≤ known ∧ known ≤ 131072) ∧ ordB a known = true := by
  unfold openE at h
  split at h
  · rename_i h1; exact absurd h h1
  · rename_i h1
    split at h
    · cases h
    · rename_i h2
      split at h
      · cases h
      · rename_i h3
        rw [not_or] at h2
        exact ⟨by simpa using h1, inD_iff.1 (by simpa using h2.1), inD_iff.1 (by simpa using h2.2), by simpa using h3⟩
theorem take_eq_step {α : Type} {l m : List α} {k : Nat} {x y : α} (h : l.take k = m.take k) (hx : l[k]? = some x) (hy : m[k]? = some y) (he : x = y) : l.take (k + 1) = m.take (k + 1) := by
  rw [List.take_succ, List.take_succ, h, hx, hy, he]
set_option maxRecDepth 20000 in
set_option maxHeartbeats 4000000 in
/-- meterworks/meterworksref13.Same -/
theorem c_ref_Same (l m : List Bl) (hl : l.length ≤ 1000) (hm : m.length ≤ 1000) : Contract Try.prog 22 [.leaf (.d (blsD l)), .leaf (.d (blsD m))] (.bool (decide (l = m))) [] := by
  refine con_of follows_mixed Try.func22 rfl (by simp only [List.length_cons, List.length_nil, Try.ntmps22]; omega) (by kernel_rfl) rfl ?_
  refine Exec.reg ?_
  refine Run.o ?_
  refine Run.nil ?_
  refine Exec.assocS ?_
  refine Exec.reg ?_
  iterate 5 (refine Run.o ?_)
  refine Run.nil ?_
  refine Exec.cndS (by simp only [go_sem] <;> rfl) (fun hb10 => ?_) (fun hb10 => ?_)
  · skip
    have hne : l.length ≠ m.length := by have h := hb10; simp only [bne_iff_ne, ne_eq] at h; omega
    have hr : decide (l = m) = false := decide_eq_false (fun e => hne (by rw [e]))
    refine Exec.assocS ?_
    refine Exec.reg ?_
    refine Run.o1 (by simp only [go_sem, hr] <;> rfl) ?_
    refine Run.nil ?_
    refine Exec.retS ?_
    exact Ends.fin [] (rs := [.tmp 4]) rfl (by simp only [go_sem, hr] <;> rfl) (by simp only [go_sem, hr] <;> first | rfl | exact eqz)
  · skip
    have hlm : l.length = m.length := by have h := hb10; simp only [bne_eq_false_iff_eq] at h; omega
    refine Exec.skipS ?_
    refine Exec.assocS ?_
    refine Exec.reg ?_
    refine Run.o ?_
    refine Run.nil ?_
    refine Exec.blk ?_
    refine Exec.forA [0, 1, 5] [] (l.length) (fun k => [.slot 5 (.int k)]) (fun k => l.take k = m.take k) (fun k => by simp only [go_sem] <;> rfl) (by simp only [go_sem] <;> rfl) ?_ (fun k hk hX => ?_)
    · rfl
    · skip
      refine Exec.assocS ?_
      refine Exec.reg ?_
      iterate 4 (refine Run.o ?_)
      refine Run.nil ?_
      refine Exec.cndS (by simp only [go_sem] <;> rfl) (fun hb14 => ?_) (fun hb14 => ?_)
      · skip
        have hlt := lt_of_dec hb14
        obtain ⟨x, hk1⟩ := elem_of hb14
        obtain ⟨y, hk2⟩ : ∃ y, m[k]? = some y := ⟨_, List.getElem?_eq_getElem (by omega)⟩
        refine Exec.skipS ?_
        refine Exec.blk ?_
        refine Exec.opk 11 ?_
        iterate 2 (refine OpenK.o1 (by simp only [go_sem, hk1, hk2] <;> rfl) ?_)
        refine OpenK.o1 (by simp only [go_sem, hk1, hk2]; (try simp (disch := omega) only [if_pos]); (try simp only [go_sem, hk1, hk2])<;> rfl) ?_
        iterate 3 (refine OpenK.o1 (by simp only [go_sem, hk1, hk2] <;> rfl) ?_)
        refine OpenK.o1 (by simp only [go_sem, hk1, hk2]; (try simp (disch := omega) only [if_pos]); (try simp only [go_sem, hk1, hk2])<;> rfl) ?_
        iterate 2 (refine OpenK.o1 (by simp only [go_sem, hk1, hk2] <;> rfl) ?_)
        refine OpenK.nil (OpenE.fin (by decide +kernel) (by decide +kernel) ?_)
        refine Exec.cnd (by simp only [go_sem, hk1, hk2] <;> rfl) (fun hb25 => ?_) (fun hb25 => ?_)
        · skip
          have hxy : x ≠ y := fun e => by subst e; simp at hb25
          have hr : decide (l = m) = false := decide_eq_false (fun e => hxy (by rw [e, hk2] at hk1; exact (Option.some.inj hk1).symm))
          refine Exec.reg ?_
          refine Run.o1 (by simp only [go_sem, hk1, hk2, hr] <;> rfl) ?_
          refine Run.nil ?_
          refine BlkK.ret ?_
          refine ForK.ret ?_
          refine BlkK.ret ?_
          exact Ends.fin [] (rs := [.tmp 4]) rfl (by simp only [go_sem, hk1, hk2, hr] <;> rfl) (by simp only [go_sem, hk1, hk2, hr] <;> first | rfl | exact eqz)
        · skip
          have hxy : x = y := by
            have h := hb25
            cases x; cases y
            simp only [Bool.not_eq_false', Bool.and_eq_true, beq_iff_eq, and_true] at h
            simp only [Bl.mk.injEq]
            exact h
          refine BlkK.nrm ?_
          refine Exec.reg1 ?_
          refine Run.o1 (by simp only [go_sem, hk1, hk2] <;> rfl) ?_
          refine Run.o1 (by simp only [go_sem, hk1, hk2]; (try simp (disch := omega) only [IntWalk.i64_in, IntWalk.u64_in, if_neg, if_pos])<;> rfl) ?_
          refine Run.o1 (by simp only [go_sem, hk1, hk2] <;> rfl) ?_
          refine Run.nil ?_
          refine ForK.nxt ?_ ?_ ?_
          · omega
          · exact Ghost.kp [0, 1, 5] [] (by simp only [go_sem, hk1, hk2] <;> first | exact eqz | rfl)
          · exact take_eq_step hX hk1 hk2 hxy
      · skip
        have hke : k = l.length := by have := ge_of_dec hb14; omega
        subst hke
        have hr : decide (l = m) = true := decide_eq_true (by have h := hX; rw [List.take_length, hlm, List.take_length] at h; exact h)
        refine Exec.exitS ?_
        refine ForK.ext ?_
        refine BlkK.hit ?_
        refine Exec.reg ?_
        refine Run.o1 (by simp only [go_sem, hr] <;> rfl) ?_
        refine Run.nil ?_
        exact Ends.fin [] (rs := [.tmp 4]) rfl (by simp only [go_sem, hr] <;> rfl) (by simp only [go_sem, hr] <;> first | rfl | exact eqz)

theorem settle_facts {a : Ac} {i : Int} (h : inD i 0 ((a.ds.length : Int) - 1) = true) : i.toNat < a.ds.length ∧ (i.toNat : Int) = i := by
  have := inD_iff.1 h; omega
theorem cost_bnd {a : Ac} (v : Val a) {known but : Int} (ho : ordB a known = true) {day : Int} (hd : a.start ≤ day ∧ day ≤ 131072) : 0 ≤ cost a known but day ∧ cost a known but day ≤ 19000000000000000 := by
  have h1 := costT_bnd v (but := but) ho hd a.ts.length (Nat.le_refl _)
  have h2 := feeO_bnd v known but (costT a known but day a.ts.length) a.ds.length (Nat.le_refl _)
  have h3 := v.nts
  have h4 := v.nds
  have e : cost a known but day = feeO (costT a known but day a.ts.length) (telT a known but a.ds.length) := rfl
  rw [e]
  omega
theorem settle_open {a : Ac} (v : Val a) {i : Int} (h : inD i 0 ((a.ds.length : Int) - 1) = true) : a.start ≤ (dpAt a i).day ∧ (dpAt a i).day ≤ 131072 := by
  have hv := mem_val v (getD_mem (d := default) (settle_facts h).1)
  have e : dpAt a i = a.ds.getD i.toNat default := rfl
  have := v.start
  rw [e]; omega
end Go.Mw
namespace Go.Mw
open Go.Proofs
open Go.Bi
attribute [local go_sem] decide_true beq_self_eq_true bne_self_eq_false
abbrev blsR (r : List Bl × Int) : AV := .tup [(false, [.d (blsD r.1)]), (false, [.d (.i r.2)])]
theorem bd_val {a : Ac} (v : Val a) {k : Nat} (h : k < a.bs.length) : a.start ≤ bdAt a k ∧ bdAt a k ≤ 131072 := by
  have := v.bil k _ (bs_get h)
  have e : bdAt a k = a.bs.getD k 0 := rfl
  rw [e]; omega
theorem ords_at {a : Ac} {l : List Int} (h : ordsB a l = true) {d : Int} (hd : d ∈ l) : ordB a d = true := List.all_eq_true.1 h d hd
theorem ords_bd {a : Ac} (h : ordsB a a.bs = true) {k : Nat} (hk : k < a.bs.length) : ordB a (bdAt a k) = true := ords_at h (List.mem_of_getElem? (bs_get hk))
theorem litTo_bnd {a : Ac} (v : Val a) (h : ordsB a a.bs = true) : ∀ k, k ≤ a.bs.length → 0 ≤ litTo a k ∧ litTo a k ≤ 300000000000000
  | 0, _ => by simp [litTo]
  | k + 1, hk => used_bnd v (ords_bd h (by omega)) (bd_val v (by omega))
theorem penTo_bnd {a : Ac} (v : Val a) (h : ordsB a a.bs = true) : ∀ k, k ≤ a.bs.length → 0 ≤ penTo a k ∧ penTo a k ≤ 19000000000000000
  | 0, _ => by simp [penTo]
  | k + 1, hk => cost_bnd v (ords_bd h (by omega)) (bd_val v (by omega))
theorem blls_succ (a : Ac) (k : Nat) : bllsT a (k + 1) = bllsT a k ++ [blAt a k] := by unfold bllsT; rw [List.range_succ, List.map_append]; rfl
theorem blls_len (a : Ac) (k : Nat) : (bllsT a k).length = k := by unfold bllsT; simp
theorem litTo_succ (a : Ac) (k : Nat) : litTo a (k + 1) = used a (bdAt a k) (-1) (bdAt a k) := rfl
theorem penTo_succ (a : Ac) (k : Nat) : penTo a (k + 1) = cost a (bdAt a k) (-1) (bdAt a k) := rfl
theorem cor_pos (a : Ac) {k : Nat} (h : 0 < k) : corAt a k = cost a (bdAt a k) (-1) (bdAt a (k - 1)) - cost a (bdAt a (k - 1)) (-1) (bdAt a (k - 1)) := by
  obtain ⟨j, rfl⟩ : ∃ j, k = j + 1 := ⟨k - 1, by omega⟩
  rfl
theorem bil_lt {a : Ac} (v : Val a) {k : Nat} (h : k + 1 < a.bs.length) : bdAt a k < bdAt a (k + 1) := (v.bil (k + 1) _ (bs_get h)).2 k _ rfl (bs_get (by omega))
theorem bUp_le (a : Ac) (day : Int) : bUp a day ≤ a.bs.length := by
  unfold bUp
  split
  · rename_i i h
    exact Nat.le_of_lt (List.findIdx?_eq_some_iff_getElem.1 h).1
  · exact Nat.le_refl _
theorem bil_mono {a : Ac} (v : Val a) {i j : Nat} (h : i ≤ j) (hj : j < a.bs.length) : bdAt a i ≤ bdAt a j := by
  induction j with
  | zero => have : i = 0 := by omega
            subst this; exact Int.le_refl _
  | succ j ih =>
    by_cases e : i = j + 1
    · subst e; exact Int.le_refl _
    · have h1 := ih (by omega) (by omega)
      have h2 := bil_lt v hj
      omega
theorem bUp_iff {a : Ac} (v : Val a) {day : Int} {k : Nat} (h : k < a.bs.length) : bdAt a k ≤ day ↔ k < bUp a day := by
  unfold bUp
  split
  · rename_i i hi
    obtain ⟨h1, h2, h3⟩ := List.findIdx?_eq_some_iff_getElem.1 hi
    have e : ∀ j (hj : j < a.bs.length), a.bs[j] = bdAt a j := fun j hj => by
      have := bs_get hj
      rw [List.getElem?_eq_getElem hj] at this
      exact Option.some.inj this
    rw [e i h1] at h2
    have h2 := of_decide_eq_true h2
    constructor
    · intro hk
      refine Classical.byContradiction fun hc => ?_
      have := bil_mono v (i := i) (j := k) (by omega) h
      omega
    · intro hk
      have h4 := h3 k hk
      rw [e k h] at h4
      simp only [decide_eq_true_eq] at h4
      omega
  · rename_i hi
    rw [List.findIdx?_eq_none_iff] at hi
    have := hi _ (List.mem_of_getElem? (bs_get h))
    have e : a.bs.getD k 0 = bdAt a k := rfl
    rw [e] at this
    have := of_decide_eq_false this
    exact ⟨fun _ => h, fun _ => by omega⟩
/-- The account with the first bills alone. -/
def acB (a : Ac) (l : List Int) : Ac := { a with bs := l }
/-- What the first bills leave. -/
def owedT (a : Ac) (day : Int) (k : Nat) : Int := cost a day (-1) day - penTo a k
end Go.Mw
namespace Go.Mw
open Go.Proofs
open Go.Bi
attribute [local go_sem] decide_true beq_self_eq_true bne_self_eq_false
theorem c_sort_n (n : Nat) (l m : List Nt) (hn : l.length = n) (hne : l ≠ []) (hlen : l.length < 1000) (hm : ∀ d : List Nt, d.Perm l → d.Pairwise (fun a b => ¬ b.day < a.day) → d = m) :
    Con Try.prog 61 [.leaf (.own 901 0 n n), .leaf (.d (.fn 62 []))] [(901, .arr 42 3 (l.map encNt))] (.ret (.tup []) [(901, .arr 42 3 (m.map encNt))]) := by
  subst hn; exact c_SortFunc_Nt l m hne hlen hm
/-- A note's entry in the map. -/
@[go_sem] def encM (n : Nt) : Value × Bool × List AL := (.int .i64 n.day, true, (encNt n).map .d)
theorem mM_get (x : Int) : ∀ m : List Nt, mapGet 0 (.int .i64 x) (m.map encM) = some ((findN x m).map fun n => (true, (encNt n).map .d))
  | [] => rfl
  | b :: m => by
    have ih := mM_get x m
    simp only [List.map_cons, encM, mapGet, keyEq, if_true, findN, List.find?_cons] at ih ⊢
    by_cases h : b.day = x
    · simp [h]
    · have h1 : (x == b.day) = false := by simpa using fun e => h e.symm
      rw [h1, decide_eq_false h]
      exact ih
theorem mM_set (n : Nt) : ∀ m : List Nt, mapSet 0 (.int .i64 n.day) (true, (encNt n).map .d) (m.map encM) = some ((setN n m).map encM)
  | [] => rfl
  | b :: m => by
    have ih := mM_set n m
    simp only [List.map_cons, encM, mapSet, keyEq, if_true, setN] at ih ⊢
    by_cases h : b.day = n.day
    · have h1 : (n.day == b.day) = true := by simpa using h.symm
      rw [h1, if_pos h]
      rfl
    · have h1 : (n.day == b.day) = false := by simpa using fun e => h e.symm
      rw [h1, if_neg h, ih]
      rfl
@[go_sem ↓] theorem keep_mM (os : List Nat) (bs : List Nt) : (AO.map (bs.map encM)).keep os = .map (bs.map encM) := by
  show AO.map _ = _
  rw [List.map_map]
  rfl
@[go_sem ↓] theorem ren_mM (r : Nat → Nat) (bs : List Nt) : (AO.map (bs.map encM)).ren r = .map (bs.map encM) := by
  show AO.map _ = _
  rw [List.map_map]
  rfl
@[go_sem ↓] theorem kp_mM (q : Nat → Bool) (bs : List Nt) : (AO.map (bs.map encM)).kp q = .map (bs.map encM) := by
  show AO.map _ = _
  rw [List.map_map]
  rfl
theorem mapL_mM {φ : AL → AL} (h : ∀ x, φ (.d x) = .d x) (bs : List Nt) : (AO.map (bs.map encM)).mapL φ = .map (bs.map encM) := by
  show AO.map _ = _
  rw [List.map_map]
  congr 1
  refine List.map_congr_left fun b _ => ?_
  show (_, _, [φ _, φ _, φ _]) = _
  rw [h, h, h]; rfl
@[go_sem ↓] theorem frz_mM (o k : Nat) (es : List (List D)) (bs : List Nt) : (AO.map (bs.map encM)).mapL (AL.frz o k es) = .map (bs.map encM) := mapL_mM (fun _ => rfl) bs
@[go_sem ↓] theorem frzc_mM (o : Nat) (ds : List D) (bs : List Nt) : (AO.map (bs.map encM)).mapL (AL.frzc o ds) = .map (bs.map encM) := mapL_mM (fun _ => rfl) bs
@[go_sem ↓] theorem frzf_mM (o : Nat) (d : D) (bs : List Nt) : (AO.map (bs.map encM)).mapL (AL.frzf o d) = .map (bs.map encM) := mapL_mM (fun _ => rfl) bs
@[go_sem ↓] theorem frp_mM (o : Nat) (fs : List FL) (bs : List Nt) : (AO.map (bs.map encM)).mapL (AL.frp o fs) = .map (bs.map encM) := mapL_mM (fun _ => rfl) bs
theorem mM_keys (bs : List Nt) : ∀ p ∈ bs.map encM, p.1.oneCell' = true := by
  intro p hp
  obtain ⟨b, _, rfl⟩ := List.mem_map.1 hp
  rfl
theorem mM_at {bs : List Nt} {i : Nat} {p : Value × Bool × List AL} (h : (bs.map encM)[i]? = some p) : ∃ b, bs[i]? = some b ∧ p = encM b := by
  rw [List.getElem?_map] at h
  cases hb : bs[i]? with
  | none => simp [hb] at h
  | some b => exact ⟨b, rfl, by simpa [hb] using h.symm⟩
theorem nodup_snoc {t : List Nat} {i : Nat} (h1 : t.Nodup) (h2 : i ∉ t) : (t ++ [i]).Nodup := by
  rw [List.nodup_append]
  refine ⟨h1, by simp, ?_⟩
  intro a ha b hb e
  have : b = i := by simpa using hb
  subst this; subst e
  exact h2 ha
theorem nodup_bnd {t : List Nat} {n : Nat} (h1 : t.Nodup) (h2 : ∀ i ∈ t, i < n) : t.length ≤ n := by
  have := h1.length_le_of_subset (l₂ := List.range n) fun i hi => List.mem_range.2 (h2 i hi)
  simpa using this
/-- The notes that a range over the map has come to. -/
def cameN (m : List Nt) (t : List Nat) : List Nt := t.map fun i => m.getD i default
theorem cameN_all {m : List Nt} {t : List Nat} (h1 : t.Nodup) (h2 : ∀ i ∈ t, i < m.length) (h3 : ∀ i, i < m.length → i ∈ t) : (cameN m t).Perm m := by
  have hp : t.Perm (List.range m.length) := (List.perm_ext_iff_of_nodup h1 List.nodup_range).2 fun i => by
    rw [List.mem_range]
    exact ⟨h2 i, h3 i⟩
  have e : m = (List.range m.length).map fun i => m.getD i default := by
    apply List.ext_getElem?
    intro i
    rw [List.getElem?_map]
    by_cases hi : i < m.length
    · rw [List.getElem?_range hi, List.getElem?_eq_getElem hi]
      simp [List.getD, List.getElem?_eq_getElem hi]
    · rw [List.getElem?_eq_none (by omega), List.getElem?_eq_none (by simp; omega)]; rfl
  unfold cameN
  conv => rhs; rw [e]
  exact hp.map _
theorem cameN_len (m : List Nt) (t : List Nat) : (cameN m t).length = t.length := by unfold cameN; simp
theorem cameN_snoc {m : List Nt} {t : List Nat} {i : Nat} {b : Nt} (h : m[i]? = some b) : cameN m (t ++ [i]) = cameN m t ++ [b] := by
  unfold cameN
  rw [List.map_append, List.map_cons, List.map_nil, getD_of h]
theorem last_yes {a : Ac} {known : Int} {k : Nat} (h : lateB known (lastT a.ns known k) (a.ns.getD k default) = true) : lastT a.ns known (k + 1) = setN (a.ns.getD k default) (lastT a.ns known k) := by rw [lastT, if_pos h]
theorem last_no {a : Ac} {known : Int} {k : Nat} (h : lateB known (lastT a.ns known k) (a.ns.getD k default) = false) : lastT a.ns known (k + 1) = lastT a.ns known k := by rw [lastT, if_neg (by rw [h]; decide)]
theorem drop_get {α : Type} {l : List α} {k : Nat} {x : α} (h : l[k]? = some x) : l.drop k = x :: l.drop (k + 1) := by
  obtain ⟨hk, rfl⟩ := List.getElem?_eq_some_iff.1 h
  exact List.drop_eq_getElem_cons hk
def ntsV (a : Ac) (known : Int) : List (List AV) := (ntsOf a known).map fun n => [ntV n]
theorem ntsV_len (a : Ac) (known : Int) : (ntsV a known).length = (ntsOf a known).length := by unfold ntsV; simp
theorem ntsV_drop {a : Ac} {known : Int} {k : Nat} {n : Nt} (h : (ntsOf a known)[k]? = some n) : (ntsV a known).drop k = [ntV n] :: (ntsV a known).drop (k + 1) := by
  refine drop_get ?_
  unfold ntsV
  rw [List.getElem?_map, h]; rfl
theorem ntsV_get {a : Ac} {known : Int} {k : Nat} {v : List AV} (h : (ntsV a known)[k]? = some v) : ∃ n, (ntsOf a known)[k]? = some n ∧ v = [ntV n] := by
  unfold ntsV at h
  rw [List.getElem?_map] at h
  cases hn : (ntsOf a known)[k]? with
  | none => simp [hn] at h
  | some n => exact ⟨n, rfl, by simpa [hn] using h.symm⟩
abbrev ptsFn (a : Ac) (known : Int) : D := .fn 60 [.pt (encAc a), .pt [.i known]]
set_option maxRecDepth 20000 in
set_option maxHeartbeats 32000000 in
/-- meterworks/bill.points_1 -/
theorem c_points_1 (a : Ac) (v : Val a) (known : Int) : Con Try.prog 60 [.leaf (.obj 900), .leaf (.d (.pt (encAc a))), .leaf (.d (.pt [.i known]))] [(900, .yl)] (lB (ntsV a known)) := by
  have hns := v.nns
  have hnl := nts_len v known
  have hz0 : lastT a.ns known 0 = [] := rfl
  have hz1 : cameN (lastT a.ns known a.ns.length) [] = [] := rfl
  have hNl := lastT_len a.ns known a.ns.length
  refine con_of follows_mixed Try.func60 rfl (by simp only [List.length_cons, List.length_nil, Try.ntmps60]; omega) (by kernel_rfl) rfl ?_
  refine Exec.reg ?_
  iterate 2 (refine Run.o1 (by simp only [go_sem, gt_iff_lt] <;> rfl) ?_)
  refine Run.nil ?_
  refine Exec.assocS ?_
  refine Exec.reg ?_
  iterate 4 (refine Run.o1 (by simp only [go_sem, gt_iff_lt] <;> rfl) ?_)
  refine Run.nil ?_
  refine Exec.blk ?_
  refine Exec.forA [0, 1, 2, 4, 16, 17, 18] [900, 14] (a.ns.length) (fun k => [.slot 18 (.int k), .obj 14 (.map ((lastT a.ns known k).map encM))]) (fun _ => True) (fun k => by simp only [go_sem] <;> rfl) (by simp only [go_sem, gt_iff_lt, Int.natCast_zero, hz0] <;> rfl) ?_ (fun k hk hX => ?_)
  · trivial
  · skip
    refine Exec.reg ?_
    refine Run.o1 (by simp only [go_sem, gt_iff_lt] <;> rfl) ?_
    refine Run.nil ?_
    refine Exec.cndS (by simp only [go_sem, gt_iff_lt] <;> rfl) (fun hb19 => ?_) (fun hb19 => ?_)
    · skip
      have hlt := lt_of_dec hb19
      have hk1 := nt_get hlt
      have hgt := mM_get (a.ns.getD k default).day (lastT a.ns known k)
      have hst : mapSet 0 (.int .i64 (a.ns.getD k default).day) (true, [.d (.i (a.ns.getD k default).day), .d (.i (a.ns.getD k default).fig), .d (.i (a.ns.getD k default).came)]) ((lastT a.ns known k).map encM) = some ((setN (a.ns.getD k default) (lastT a.ns known k)).map encM) := mM_set (a.ns.getD k default) (lastT a.ns known k)
      refine Exec.skipS ?_
      refine Exec.blk ?_
      refine Exec.reg ?_
      refine Run.o1 (by simp only [go_sem, gt_iff_lt, hk1, hgt, hst, Option.map_some, Option.map_none]; (try simp (disch := omega) only [if_pos]); (try simp only [go_sem, gt_iff_lt, hk1, hgt, hst, Option.map_some, Option.map_none])<;> rfl) ?_
      iterate 3 (refine Run.o1 (by simp only [go_sem, gt_iff_lt, hk1, hgt, hst, Option.map_some, Option.map_none] <;> rfl) ?_)
      refine Run.nil ?_
      by_cases hF : ∃ o, findN (a.ns.getD k default).day (lastT a.ns known k) = some o
      · skip
        obtain ⟨o, hF⟩ := hF
        refine Exec.reg ?_
        iterate 10 (refine Run.o1 (by simp only [go_sem, gt_iff_lt, hk1, hgt, hst, Option.map_some, Option.map_none, hF] <;> rfl) ?_)
        refine Run.nil ?_
        by_cases hK : (a.ns.getD k default).came ≤ known
        · skip
          have g1 : decide ((a.ns.getD k default).came ≤ known) = true := decide_eq_true hK
          by_cases hL : lateB known (lastT a.ns known k) (a.ns.getD k default) = true
          · skip
            have hL2 := hL
            unfold lateB at hL2
            rw [hF, g1, Bool.true_and] at hL2
            have hsn := last_yes hL
            refine Exec.reg ?_
            iterate 5 (refine Run.o1 (by simp only [go_sem, gt_iff_lt, hk1, hgt, hst, Option.map_some, Option.map_none, hF, g1, hsn] <;> rfl) ?_)
            iterate 3 (refine Run.y1 (by simp only [go_sem, gt_iff_lt, hk1, hgt, hst, Option.map_some, Option.map_none, hF, g1, hsn] <;> rfl) ?_)
            iterate 5 (refine Run.gop (by simp only [go_sem] <;> rfl) (by simp only [go_sem, gt_iff_lt, hk1, hgt, hst, Option.map_some, Option.map_none, hF, g1, hsn] <;> rfl) (by simp only [go_sem] <;> rfl) ?_)
            refine Run.y1 (by simp only [go_sem, gt_iff_lt, hk1, hgt, hst, Option.map_some, Option.map_none, hF, g1, hsn] <;> rfl) ?_
            refine Run.o1 (by simp only [go_sem, gt_iff_lt, hk1, hgt, hst, Option.map_some, Option.map_none, hF, g1, hsn] <;> rfl) ?_
            refine Run.nil ?_
            refine Exec.cnd (by simp only [go_sem, gt_iff_lt, hk1, hgt, hst, Option.map_some, Option.map_none, hF, g1, hsn] <;> rfl) (fun hb43 => ?_) (fun hb43 => ?_)
            · skip
              refine Exec.reg1 ?_
              iterate 5 (refine Run.o1 (by simp only [go_sem, gt_iff_lt, hk1, hgt, hst, Option.map_some, Option.map_none, hF, g1, hsn] <;> rfl) ?_)
              refine Run.nil ?_
              refine BlkK.nrm ?_
              refine Exec.reg1 ?_
              refine Run.o1 (by simp only [go_sem, gt_iff_lt, hk1, hgt, hst, Option.map_some, Option.map_none, hF, g1, hsn]; (try simp (disch := omega) only [IntWalk.i64_in, IntWalk.u64_in, if_neg, if_pos])<;> rfl) ?_
              refine Run.o1 (by simp only [go_sem, gt_iff_lt, hk1, hgt, hst, Option.map_some, Option.map_none, hF, g1, hsn] <;> rfl) ?_
              refine Run.nil ?_
              refine ForK.nxt ?_ ?_ ?_
              · omega
              · exact Ghost.kp [0, 1, 2, 4, 16, 17, 18] [900, 14] (by simp only [go_sem, gt_iff_lt, hk1, hgt, hst, Option.map_some, Option.map_none, hF, g1, hsn] <;> first | exact eqz | rfl)
              · trivial
            · skip
              first | (cases hb43; done) | exact absurd (hL2.symm.trans hb43) (by decide)
          · skip
            have hL : lateB known (lastT a.ns known k) (a.ns.getD k default) = false := by simpa using hL
            have hL2 := hL
            unfold lateB at hL2
            rw [hF, g1, Bool.true_and] at hL2
            have hsn := last_no hL
            refine Exec.reg ?_
            iterate 5 (refine Run.o1 (by simp only [go_sem, gt_iff_lt, hk1, hgt, hst, Option.map_some, Option.map_none, hF, g1, hsn] <;> rfl) ?_)
            iterate 3 (refine Run.y1 (by simp only [go_sem, gt_iff_lt, hk1, hgt, hst, Option.map_some, Option.map_none, hF, g1, hsn] <;> rfl) ?_)
            iterate 5 (refine Run.gop (by simp only [go_sem] <;> rfl) (by simp only [go_sem, gt_iff_lt, hk1, hgt, hst, Option.map_some, Option.map_none, hF, g1, hsn] <;> rfl) (by simp only [go_sem] <;> rfl) ?_)
            refine Run.y1 (by simp only [go_sem, gt_iff_lt, hk1, hgt, hst, Option.map_some, Option.map_none, hF, g1, hsn] <;> rfl) ?_
            refine Run.o1 (by simp only [go_sem, gt_iff_lt, hk1, hgt, hst, Option.map_some, Option.map_none, hF, g1, hsn] <;> rfl) ?_
            refine Run.nil ?_
            refine Exec.cnd (by simp only [go_sem, gt_iff_lt, hk1, hgt, hst, Option.map_some, Option.map_none, hF, g1, hsn] <;> rfl) (fun hb43 => ?_) (fun hb43 => ?_)
            · skip
              first | (cases hb43; done) | exact absurd (hL2.symm.trans hb43) (by decide)
            · skip
              refine BlkK.nrm ?_
              refine Exec.reg1 ?_
              refine Run.o1 (by simp only [go_sem, gt_iff_lt, hk1, hgt, hst, Option.map_some, Option.map_none, hF, g1, hsn]; (try simp (disch := omega) only [IntWalk.i64_in, IntWalk.u64_in, if_neg, if_pos])<;> rfl) ?_
              refine Run.o1 (by simp only [go_sem, gt_iff_lt, hk1, hgt, hst, Option.map_some, Option.map_none, hF, g1, hsn] <;> rfl) ?_
              refine Run.nil ?_
              refine ForK.nxt ?_ ?_ ?_
              · omega
              · exact Ghost.kp [0, 1, 2, 4, 16, 17, 18] [900, 14] (by simp only [go_sem, gt_iff_lt, hk1, hgt, hst, Option.map_some, Option.map_none, hF, g1, hsn] <;> first | exact eqz | rfl)
              · trivial
        · skip
          have g1 : decide ((a.ns.getD k default).came ≤ known) = false := decide_eq_false hK
          have hsn := last_no (a := a) (known := known) (k := k) (by unfold lateB; rw [g1, Bool.false_and])
          refine Exec.reg ?_
          iterate 5 (refine Run.o1 (by simp only [go_sem, gt_iff_lt, hk1, hgt, hst, Option.map_some, Option.map_none, hF, g1, hsn] <;> rfl) ?_)
          iterate 9 (refine Run.s ?_)
          refine Run.o1 (by simp only [go_sem, gt_iff_lt, hk1, hgt, hst, Option.map_some, Option.map_none, hF, g1, hsn] <;> rfl) ?_
          refine Run.nil ?_
          refine Exec.cnd (by simp only [go_sem, gt_iff_lt, hk1, hgt, hst, Option.map_some, Option.map_none, hF, g1, hsn] <;> rfl) (fun hb43 => ?_) (fun hb43 => ?_)
          · exact absurd hb43 (by simp)
          · skip
            refine BlkK.nrm ?_
            refine Exec.reg1 ?_
            refine Run.o1 (by simp only [go_sem, gt_iff_lt, hk1, hgt, hst, Option.map_some, Option.map_none, hF, g1, hsn]; (try simp (disch := omega) only [IntWalk.i64_in, IntWalk.u64_in, if_neg, if_pos])<;> rfl) ?_
            refine Run.o1 (by simp only [go_sem, gt_iff_lt, hk1, hgt, hst, Option.map_some, Option.map_none, hF, g1, hsn] <;> rfl) ?_
            refine Run.nil ?_
            refine ForK.nxt ?_ ?_ ?_
            · omega
            · exact Ghost.kp [0, 1, 2, 4, 16, 17, 18] [900, 14] (by simp only [go_sem, gt_iff_lt, hk1, hgt, hst, Option.map_some, Option.map_none, hF, g1, hsn] <;> first | exact eqz | rfl)
            · trivial
      · skip
        have hF : findN (a.ns.getD k default).day (lastT a.ns known k) = none := by
          cases h : findN (a.ns.getD k default).day (lastT a.ns known k) with
          | none => rfl
          | some o => exact absurd ⟨o, h⟩ hF
        refine Exec.reg ?_
        iterate 10 (refine Run.o1 (by simp only [go_sem, gt_iff_lt, hk1, hgt, hst, Option.map_some, Option.map_none, hF] <;> rfl) ?_)
        refine Run.nil ?_
        by_cases hK : (a.ns.getD k default).came ≤ known
        · skip
          have g1 : decide ((a.ns.getD k default).came ≤ known) = true := decide_eq_true hK
          by_cases hL : lateB known (lastT a.ns known k) (a.ns.getD k default) = true
          · skip
            have hL2 := hL
            unfold lateB at hL2
            rw [hF, g1, Bool.true_and] at hL2
            have hsn := last_yes hL
            refine Exec.reg ?_
            iterate 5 (refine Run.o1 (by simp only [go_sem, gt_iff_lt, hk1, hgt, hst, Option.map_some, Option.map_none, hF, g1, hsn] <;> rfl) ?_)
            iterate 3 (refine Run.y1 (by simp only [go_sem, gt_iff_lt, hk1, hgt, hst, Option.map_some, Option.map_none, hF, g1, hsn] <;> rfl) ?_)
            iterate 5 (refine Run.gop (by simp only [go_sem] <;> rfl) (by simp only [go_sem, gt_iff_lt, hk1, hgt, hst, Option.map_some, Option.map_none, hF, g1, hsn] <;> rfl) (by simp only [go_sem] <;> rfl) ?_)
            refine Run.y1 (by simp only [go_sem, gt_iff_lt, hk1, hgt, hst, Option.map_some, Option.map_none, hF, g1, hsn] <;> rfl) ?_
            refine Run.o1 (by simp only [go_sem, gt_iff_lt, hk1, hgt, hst, Option.map_some, Option.map_none, hF, g1, hsn] <;> rfl) ?_
            refine Run.nil ?_
            refine Exec.cnd (by simp only [go_sem, gt_iff_lt, hk1, hgt, hst, Option.map_some, Option.map_none, hF, g1, hsn] <;> rfl) (fun hb43 => ?_) (fun hb43 => ?_)
            · skip
              refine Exec.reg1 ?_
              iterate 5 (refine Run.o1 (by simp only [go_sem, gt_iff_lt, hk1, hgt, hst, Option.map_some, Option.map_none, hF, g1, hsn] <;> rfl) ?_)
              refine Run.nil ?_
              refine BlkK.nrm ?_
              refine Exec.reg1 ?_
              refine Run.o1 (by simp only [go_sem, gt_iff_lt, hk1, hgt, hst, Option.map_some, Option.map_none, hF, g1, hsn]; (try simp (disch := omega) only [IntWalk.i64_in, IntWalk.u64_in, if_neg, if_pos])<;> rfl) ?_
              refine Run.o1 (by simp only [go_sem, gt_iff_lt, hk1, hgt, hst, Option.map_some, Option.map_none, hF, g1, hsn] <;> rfl) ?_
              refine Run.nil ?_
              refine ForK.nxt ?_ ?_ ?_
              · omega
              · exact Ghost.kp [0, 1, 2, 4, 16, 17, 18] [900, 14] (by simp only [go_sem, gt_iff_lt, hk1, hgt, hst, Option.map_some, Option.map_none, hF, g1, hsn] <;> first | exact eqz | rfl)
              · trivial
            · skip
              first | (cases hb43; done) | exact absurd (hL2.symm.trans hb43) (by decide)
          · skip
            have hL : lateB known (lastT a.ns known k) (a.ns.getD k default) = false := by simpa using hL
            have hL2 := hL
            unfold lateB at hL2
            rw [hF, g1, Bool.true_and] at hL2
            have hsn := last_no hL
            refine Exec.reg ?_
            iterate 5 (refine Run.o1 (by simp only [go_sem, gt_iff_lt, hk1, hgt, hst, Option.map_some, Option.map_none, hF, g1, hsn] <;> rfl) ?_)
            iterate 3 (refine Run.y1 (by simp only [go_sem, gt_iff_lt, hk1, hgt, hst, Option.map_some, Option.map_none, hF, g1, hsn] <;> rfl) ?_)
            iterate 5 (refine Run.gop (by simp only [go_sem] <;> rfl) (by simp only [go_sem, gt_iff_lt, hk1, hgt, hst, Option.map_some, Option.map_none, hF, g1, hsn] <;> rfl) (by simp only [go_sem] <;> rfl) ?_)
            refine Run.y1 (by simp only [go_sem, gt_iff_lt, hk1, hgt, hst, Option.map_some, Option.map_none, hF, g1, hsn] <;> rfl) ?_
            refine Run.o1 (by simp only [go_sem, gt_iff_lt, hk1, hgt, hst, Option.map_some, Option.map_none, hF, g1, hsn] <;> rfl) ?_
            refine Run.nil ?_
            refine Exec.cnd (by simp only [go_sem, gt_iff_lt, hk1, hgt, hst, Option.map_some, Option.map_none, hF, g1, hsn] <;> rfl) (fun hb43 => ?_) (fun hb43 => ?_)
            · skip
              first | (cases hb43; done) | exact absurd (hL2.symm.trans hb43) (by decide)
            · skip
              refine BlkK.nrm ?_
              refine Exec.reg1 ?_
              refine Run.o1 (by simp only [go_sem, gt_iff_lt, hk1, hgt, hst, Option.map_some, Option.map_none, hF, g1, hsn]; (try simp (disch := omega) only [IntWalk.i64_in, IntWalk.u64_in, if_neg, if_pos])<;> rfl) ?_
              refine Run.o1 (by simp only [go_sem, gt_iff_lt, hk1, hgt, hst, Option.map_some, Option.map_none, hF, g1, hsn] <;> rfl) ?_
              refine Run.nil ?_
              refine ForK.nxt ?_ ?_ ?_
              · omega
              · exact Ghost.kp [0, 1, 2, 4, 16, 17, 18] [900, 14] (by simp only [go_sem, gt_iff_lt, hk1, hgt, hst, Option.map_some, Option.map_none, hF, g1, hsn] <;> first | exact eqz | rfl)
              · trivial
        · skip
          have g1 : decide ((a.ns.getD k default).came ≤ known) = false := decide_eq_false hK
          have hsn := last_no (a := a) (known := known) (k := k) (by unfold lateB; rw [g1, Bool.false_and])
          refine Exec.reg ?_
          iterate 5 (refine Run.o1 (by simp only [go_sem, gt_iff_lt, hk1, hgt, hst, Option.map_some, Option.map_none, hF, g1, hsn] <;> rfl) ?_)
          iterate 9 (refine Run.s ?_)
          refine Run.o1 (by simp only [go_sem, gt_iff_lt, hk1, hgt, hst, Option.map_some, Option.map_none, hF, g1, hsn] <;> rfl) ?_
          refine Run.nil ?_
          refine Exec.cnd (by simp only [go_sem, gt_iff_lt, hk1, hgt, hst, Option.map_some, Option.map_none, hF, g1, hsn] <;> rfl) (fun hb43 => ?_) (fun hb43 => ?_)
          · exact absurd hb43 (by simp)
          · skip
            refine BlkK.nrm ?_
            refine Exec.reg1 ?_
            refine Run.o1 (by simp only [go_sem, gt_iff_lt, hk1, hgt, hst, Option.map_some, Option.map_none, hF, g1, hsn]; (try simp (disch := omega) only [IntWalk.i64_in, IntWalk.u64_in, if_neg, if_pos])<;> rfl) ?_
            refine Run.o1 (by simp only [go_sem, gt_iff_lt, hk1, hgt, hst, Option.map_some, Option.map_none, hF, g1, hsn] <;> rfl) ?_
            refine Run.nil ?_
            refine ForK.nxt ?_ ?_ ?_
            · omega
            · exact Ghost.kp [0, 1, 2, 4, 16, 17, 18] [900, 14] (by simp only [go_sem, gt_iff_lt, hk1, hgt, hst, Option.map_some, Option.map_none, hF, g1, hsn] <;> first | exact eqz | rfl)
            · trivial
    · skip
      have hke : k = a.ns.length := by have := ge_of_dec hb19; omega
      subst hke
      refine Exec.exitS ?_
      refine ForK.ext ?_
      refine BlkK.hit ?_
      refine Exec.reg ?_
      iterate 7 (refine Run.o1 (by simp only [go_sem, gt_iff_lt] <;> rfl) ?_)
      refine Run.nil ?_
      refine Exec.assocS ?_
      refine Exec.reg ?_
      iterate 2 (refine Run.o1 (by simp only [go_sem, gt_iff_lt] <;> rfl) ?_)
      refine Run.nil ?_
      refine Exec.blk ?_
      refine Exec.whl [0, 9, 56] [900, 14, 54, 56] (fun (t : List Nat) => [.slot 9 (.leaf (.own 54 0 (t.length + 1) (t.length + 1))), .obj 54 (.arr 42 3 ((firN a :: cameN (lastT a.ns known a.ns.length) t).map encNt)), .obj 56 (.iter [.obj 14] (lastT a.ns known a.ns.length).length t (lastT a.ns known a.ns.length).length)]) (fun t => t.Nodup ∧ ∀ i ∈ t, i < (lastT a.ns known a.ns.length).length) (fun t => (lastT a.ns known a.ns.length).length - t.length) ([]) (fun t => by simp only [go_sem] <;> rfl) (by simp only [go_sem, gt_iff_lt, hz1, List.length_map, firN] <;> rfl) ?_ (fun t hX => ?_)
      · exact ⟨List.nodup_nil, by simp⟩
      · skip
        by_cases hall : ∀ i, i < (lastT a.ns known a.ns.length).length → i ∈ t
        · skip
          refine Exec.reg ?_
          first
          | refine Run.nxtF (by simp only [go_sem] <;> rfl) (by simp only [go_sem] <;> rfl) (by simp only [go_sem] <;> rfl) (by simp) (by simp) (mM_keys (lastT a.ns known a.ns.length)) (by simpa only [List.length_map] using hall) (by simp only [go_sem] <;> rfl) ?_
          | (refine Run.nxtT (by simp only [go_sem] <;> rfl) (by simp only [go_sem] <;> rfl) (by simp only [go_sem] <;> rfl) (by simp) (by simp) (mM_keys (lastT a.ns known a.ns.length)) (by simpa only [List.length_map] using hall) (fun i q hq hi => ?_)
             obtain ⟨b, hb, rfl⟩ := mM_at hq)
          refine Run.o1 (by simp only [go_sem, gt_iff_lt] <;> rfl) ?_
          refine Run.nil ?_
          refine Exec.cndS (by simp only [go_sem, gt_iff_lt] <;> rfl) (fun hb58 => ?_) (fun hb58 => ?_)
          · exact absurd hb58 (by simp)
          · skip
            have hperm := cameN_all hX.1 hX.2 hall
            have hcl := hperm.length_eq
            rw [cameN_len] at hcl
            have hnp := (nts_perm a known).length_eq
            rw [List.length_cons, ← (last_perm a.ns known).length_eq] at hnp
            have htl : t.length + 1 = (ntsOf a known).length := by omega
            refine Exec.exitS ?_
            refine WhlK.ext ?_
            refine BlkK.hit ?_
            refine Exec.reg ?_
            refine Run.o1 (by simp only [go_sem, htl] <;> rfl) ?_
            refine Run.lendA 901 54 (c_sort_n (ntsOf a known).length (firN a :: cameN (lastT a.ns known a.ns.length) t) (ntsOf a known) (by simp only [List.length_cons, cameN_len]; omega) (by simp) (by simp only [List.length_cons, cameN_len]; omega) (fun d h1 h2 => nts_uniq v hperm h1 h2)) (by simp only [List.length_map, List.length_cons, cameN_len]; omega) (by simp only [go_sem]) (by simp only [go_sem] <;> rfl) (by simp only [go_sem, htl] <;> rfl) (by simp only [go_sem, htl] <;> rfl) (by exact ⟨by first | exact WkR.pure rfl | exact WkR.of rfl rfl | exact WkR.nil _ | exact WkR.int (by first | omega | (simp; done) | (simp; omega)), by first | exact WkR.pure rfl | exact WkR.of rfl rfl | exact WkR.nil _ | exact WkR.int (by first | omega | (simp; done) | (simp; omega)), trivial⟩) (by simp only [go_sem, htl] <;> rfl) ?_
            refine Run.nil ?_
            refine Exec.reg ?_
            iterate 3 (refine Run.o1 (by simp only [go_sem, htl] <;> rfl) ?_)
            refine Run.nil ?_
            refine Exec.blk1 ?_
            refine Exec.forY [0, 67, 68, 69] [900, 54] ((ntsOf a known).length) (fun k => [.slot 69 (.int k)]) (fun k => lB ((ntsV a known).drop k)) (fun _ => True) (fun k => by simp only [go_sem] <;> rfl) (by simp only [go_sem, htl, List.drop_zero, Int.natCast_zero] <;> rfl) ?_ (fun k hk hX => ?_)
            · trivial
            · skip
              refine Exec.reg ?_
              refine Run.o1 (by simp only [go_sem, htl] <;> rfl) ?_
              refine Run.nil ?_
              refine Exec.cndS (by simp only [go_sem, htl] <;> rfl) (fun hb70 => ?_) (fun hb70 => ?_)
              · skip
                have hlt := lt_of_dec hb70
                obtain ⟨n, hn⟩ := elem_of hb70
                have hdr := ntsV_drop hn
                refine Exec.skipS ?_
                refine Exec.blk ?_
                refine Exec.reg ?_
                refine Run.o1 (by simp only [go_sem, hn]; (try simp (disch := omega) only [if_pos]); (try simp only [go_sem, hn])<;> rfl) ?_
                iterate 3 (refine Run.o1 (by simp only [go_sem, hn] <;> rfl) ?_)
                refine Run.nil ?_
                refine Exec.reg ?_
                iterate 2 (refine Run.o1 (by simp only [go_sem, hn] <;> rfl) ?_)
                refine Run.yld (args := [ntV n]) (by simp only [go_sem] <;> rfl) (by simp only [go_sem] <;> rfl) (by simp only [go_sem, hn] <;> rfl) (by exact ⟨WkP.refl rfl, trivial⟩) (by simp only [hdr, lB_cons] <;> rfl) (fun t => ?_)
                refine Run.o1 (by simp only [go_sem, hn] <;> rfl) ?_
                refine Run.nil ?_
                refine Exec.cnd (by simp only [go_sem, hn] <;> rfl) (fun hb76 => ?_) (fun hb76 => ?_)
                · skip
                  have ht : t = false := by simpa using hb76
                  subst ht
                  refine BlkK.ret ?_
                  refine ForK.ret ?_
                  refine Blk1K.ret ?_
                  exact Ends.fin [] (rs := []) rfl (by simp only [go_sem, hn] <;> rfl) (by simp only [go_sem, hn] <;> first | rfl | exact eqz)
                · skip
                  have ht : t = true := by simpa using hb76
                  subst ht
                  refine BlkK.nrm ?_
                  refine Exec.reg1 ?_
                  refine Run.o1 (by simp only [go_sem, hn]; (try simp (disch := omega) only [IntWalk.i64_in, IntWalk.u64_in, if_neg, if_pos])<;> rfl) ?_
                  refine Run.o1 (by simp only [go_sem, hn] <;> rfl) ?_
                  refine Run.nil ?_
                  refine ForK.nxt ?_ ?_ ?_
                  · omega
                  · exact Ghost.kp [0, 67, 68, 69] [900, 54] (by simp only [go_sem, hn] <;> first | exact eqz | rfl)
                  · trivial
              · skip
                have hke : k = (ntsOf a known).length := by have := ge_of_dec hb70; omega
                have hdn : (ntsV a known).drop k = [] := by rw [hke, ← ntsV_len]; exact List.drop_length
                refine Exec.exitS ?_
                refine ForK.ext ?_
                refine Blk1K.hit ?_
                exact Ends.fin0 [] (rs := []) rfl (by simp only [go_sem, hdn, lB_nil] <;> rfl) (by simp only [go_sem, hdn, lB_nil] <;> first | rfl | exact eqz)
        · skip
          refine Exec.reg ?_
          first
          | refine Run.nxtF (by simp only [go_sem] <;> rfl) (by simp only [go_sem] <;> rfl) (by simp only [go_sem] <;> rfl) (by simp) (by simp) (mM_keys (lastT a.ns known a.ns.length)) (by simpa only [List.length_map] using hall) (by simp only [go_sem] <;> rfl) ?_
          | (refine Run.nxtT (by simp only [go_sem] <;> rfl) (by simp only [go_sem] <;> rfl) (by simp only [go_sem] <;> rfl) (by simp) (by simp) (mM_keys (lastT a.ns known a.ns.length)) (by simpa only [List.length_map] using hall) (fun i q hq hi => ?_)
             obtain ⟨b, hb, rfl⟩ := mM_at hq)
          refine Run.o1 (by simp only [go_sem, gt_iff_lt] <;> rfl) ?_
          refine Run.nil ?_
          refine Exec.cndS (by simp only [go_sem, gt_iff_lt] <;> rfl) (fun hb58 => ?_) (fun hb58 => ?_)
          · skip
            have hgl : (t ++ [i]).getLast? = some i := by simp
            have hk1 : (Value.int IntKind.i64 b.day).oneCell' = true := rfl
            have hil : i < (lastT a.ns known a.ns.length).length := (List.getElem?_eq_some_iff.1 hb).1
            have hnd := nodup_snoc hX.1 hi
            have hbn : ∀ j ∈ t ++ [i], j < (lastT a.ns known a.ns.length).length := by
              intro j hj
              rcases List.mem_append.1 hj with hj | hj
              · exact hX.2 j hj
              · have : j = i := by simpa using hj
                omega
            have hlb := nodup_bnd hnd hbn
            have hlb2 : (t ++ [i]).length = t.length + 1 := by simp
            have hcn := cameN_snoc (t := t) hb
            have hcl2 := cameN_len (lastT a.ns known a.ns.length) t
            refine Exec.skipS ?_
            refine Exec.blk1 ?_
            refine Exec.reg ?_
            iterate 4 (refine Run.o1 (by simp only [go_sem, gt_iff_lt, hgl, hk1, hb, hcl2, List.length_map] <;> rfl) ?_)
            refine Run.nil ?_
            refine Exec.reg1 ?_
            iterate 3 (refine Run.o1 (by simp only [go_sem, gt_iff_lt, hgl, hk1, hb, hcl2, List.length_map] <;> rfl) ?_)
            refine Run.o1 (by simp only [go_sem, gt_iff_lt, hgl, hk1, hb, hcl2, List.length_map]; (try simp (disch := omega) only [if_pos]); (try simp only [go_sem, gt_iff_lt, hgl, hk1, hb, hcl2, List.length_map]) <;> first | (refine ite_run ⟨by (try simp only [List.length_append, List.length_drop, List.length_take, List.length_map, List.length_cons, List.length_nil, List.length_replicate, List.length_set, List.length_range, Nat.zero_add]); omega, by (try simp only [List.length_append, List.length_drop, List.length_take, List.length_map, List.length_cons, List.length_nil, List.length_replicate, List.length_set, List.length_range, Nat.zero_add]); omega, by repeat (first | exact al_nil | assumption | refine al_app ?_ ?_ | refine al_drop ?_ | refine al_take ?_ | exact al_map (fun _ => rfl) | exact al_rep rfl | refine al_cons rfl ?_)⟩ ?_; simp only [go_sem, gt_iff_lt, hgl, hk1, hb, hcl2, List.length_map] <;> rfl) | (refine ite_run ⟨by (try simp only [List.length_append, List.length_drop, List.length_take, List.length_map, List.length_cons, List.length_nil, List.length_replicate, List.length_set, List.length_range, Nat.zero_add]); omega, by repeat (first | exact al_nil | assumption | refine al_app ?_ ?_ | refine al_drop ?_ | refine al_take ?_ | exact al_map (fun _ => rfl) | exact al_rep rfl | refine al_cons rfl ?_)⟩ ?_; simp only [go_sem, gt_iff_lt, hgl, hk1, hb, hcl2, List.length_map] <;> rfl) | rfl) ?_
            refine Run.o1 (by simp only [go_sem, gt_iff_lt, hgl, hk1, hb, hcl2, List.length_map] <;> rfl) ?_
            refine Run.nil ?_
            refine Blk1K.nrm ?_
            refine WhlK.nxt ((t ++ [i])) ?_ ?_ ?_
            · omega
            · exact ⟨hnd, hbn⟩
            · exact Ghost.kp [0, 9, 56] [900, 14, 54, 56] (by simp only [go_sem, gt_iff_lt, hgl, hk1, hb, hcl2, List.length_map] <;> first | ((repeat' (first | with_reducible_and_instances rfl | refine st_eq ?_ ?_ ?_ | refine ret_eq ?_ | refine tup_eq ?_ | refine tm_eq ?_ ?_ | refine arr_eq ?_ | refine cells_eq ?_ | refine val_eq ?_ | refine ls_eq ?_ ?_ | refine own_eq ?_ ?_ | refine sl_eq ?_ | refine b_eq ?_ | (refine i_eq ?_; omega))); (all_goals (first | omega | (rw [hcn]; simp [encNt]; done) | (simp [hcn, encNt]; done)))) | rfl)
          · exact absurd hb58 (by simp)

end Go.Mw

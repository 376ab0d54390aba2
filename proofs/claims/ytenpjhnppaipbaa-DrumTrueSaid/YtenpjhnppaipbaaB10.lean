/- Contracts of the functions that the drum reaches: what a reading can stand for. -/
import Derived.Test.YtenpjhnppaipbaaB9
import Derived.Test.YtenpjhnppaipbaaB7
set_option linter.unusedSimpArgs false
set_option linter.unusedVariables false
set_option linter.unusedSectionVars false
set_option linter.deprecated false
namespace Go.Mw
open Go.Proofs
open Go.Dr
attribute [local go_sem] encTot
theorem tot_top {m : Int} : ∀ {r : List Int} {b pw : Int} {ch : Bool} {lo hi : Int} {e : Int × Int × Int}, (∀ x ∈ r, 0 ≤ x ∧ x ≤ 9) → 0 ≤ pw → e ∈ totR m r b pw ch lo hi → b ≤ e.1 ∧ e.1 + pw ≤ b + pw * pow10 r.length
  | [], b, pw, ch, lo, hi, e, _, hp, h => by
    unfold totR at h
    rw [List.mem_singleton.1 h]
    simp only [List.length_nil, pow10_zero, Int.mul_one]
    omega
  | x :: r, b, pw, ch, lo, hi, e, hf, hp, h => by
    have hx := hf x (by simp)
    have hr : ∀ y ∈ r, 0 ≤ y ∧ y ≤ 9 := fun y hy => hf y (List.mem_cons_of_mem _ hy)
    have e10 : pw * pow10 (x :: r).length = 10 * pw * pow10 r.length := by
      rw [List.length_cons, pow10_succ, ← Int.mul_assoc, Int.mul_comm pw 10]
    have key : ∀ {d : Int} {ch lo hi}, 0 ≤ d → d ≤ 9 → e ∈ totR m r (b + d * pw) (10 * pw) ch lo hi → b ≤ e.1 ∧ e.1 + pw ≤ b + pw * pow10 (x :: r).length := fun {d ch lo hi} h0 h9 h => by
      have ih := tot_top hr (by omega) h
      have h1 : 0 ≤ d * pw := Int.mul_nonneg h0 hp
      have h2 : d * pw ≤ 9 * pw := Int.mul_le_mul_of_nonneg_right h9 hp
      rw [e10]
      omega
    cases ch with
    | false =>
      rw [totR_f] at h
      exact key hx.1 hx.2 h
    | true =>
      rw [totR_t] at h
      rcases List.mem_append.1 h with h | h
      · split at h
        · cases h
        · exact key hx.1 hx.2 h
      · split at h
        · cases h
        · exact key (by omega) (by omega) h
def rawK (m x : Int) (fs : List Int) (k : Nat) : List Go.Dr.Span := ((totL m fs).take k).flatMap (rawE x m)
def innK (m x : Int) (e : Int × Int × Int) (j : Nat) : List Go.Dr.Span := ((firstR x m).take j).flatMap (meetS e.1 (canS e))
theorem rawK_zero (m x : Int) (fs : List Int) : rawK m x fs 0 = [] := rfl
theorem innK_zero (m x : Int) (e : Int × Int × Int) : innK m x e 0 = [] := rfl
theorem rawK_succ {m x : Int} {fs : List Int} {k : Nat} {e : Int × Int × Int} (h : (totL m fs)[k]? = some e) : rawK m x fs (k + 1) = rawK m x fs k ++ rawE x m e := by
  unfold rawK; rw [take_succ_snoc h, List.flatMap_append]; simp
theorem innK_succ {m x : Int} {e : Int × Int × Int} {j : Nat} {s : Go.Dr.Span} (h : (firstR x m)[j]? = some s) : innK m x e (j + 1) = innK m x e j ++ meetS e.1 (canS e) s := by
  unfold innK; rw [take_succ_snoc h, List.flatMap_append]; simp
theorem innK_end (m x : Int) (e : Int × Int × Int) : innK m x e (firstR x m).length = rawE x m e := by unfold innK rawE; rw [List.take_length]
theorem rawK_end {m x : Int} {fs : List Int} (h : fs[0]? = some x) : rawK m x fs (totL m fs).length = rawR fs m := by unfold rawK rawR; rw [List.take_length, h]; rfl
theorem encTot_get {l : List (Int × Int × Int)} {k : Nat} {v : List AV} (h : (l.map encTot)[k]? = some v) : ∃ e, l[k]? = some e ∧ v = encTot e := by
  rw [List.getElem?_map] at h
  cases he : l[k]? with
  | none => rw [he] at h; simp at h
  | some e => rw [he] at h; simp at h; exact ⟨e, rfl, h.symm⟩
theorem rawK_len (m x : Int) (fs : List Int) (k : Nat) : (rawK m x fs k).length ≤ k * 2 := by
  have h := fm_len (rawE_len x m) ((totL m fs).take k)
  have h2 : ((totL m fs).take k).length ≤ k := by simp; omega
  unfold rawK
  omega
theorem innK_len (m x : Int) (e : Int × Int × Int) (j : Nat) : (innK m x e j).length ≤ j := by
  have h1 : ∀ s, (meetS e.1 (canS e) s).length ≤ 1 := fun s => by unfold meetS; split <;> simp
  have h := fm_len h1 ((firstR x m).take j)
  have h2 : ((firstR x m).take j).length ≤ j := by simp; omega
  unfold innK
  omega
theorem fitl_bnd {fs : List Int} {m : Int} (hf : figsB fs = true) (hm : 0 ≤ m ∧ m ≤ 999) : ∀ s ∈ fitL fs m, 0 ≤ s.lo ∧ s.hi ≤ 1000000000 ∧ s.lo ≤ s.hi := fun s hs => by
  have hk := fit_ok hf hm
  have hok := hk.1.2 s hs
  have h1 := (hk.2 s.lo).1 ⟨s, hs, Int.le_refl _, hok⟩
  have h2 := (hk.2 s.hi).1 ⟨s, hs, hok, Int.le_refl _⟩
  have h3 := (pow_le6 (figs_iff.1 hf).2.2).2
  omega
theorem raw_bnd {fs : List Int} {m : Int} (hf : figsB fs = true) (hm : 0 ≤ m ∧ m ≤ 999) {s : Go.Dr.Span} (hs : s ∈ rawR fs m) : 0 ≤ s.lo ∧ s.hi ≤ 1000000000 := by
  have hok := raw_ok hs
  have h1 := (raw_mem hf hm).1 ⟨s, hs, Int.le_refl _, hok⟩
  have h2 := (raw_mem hf hm).1 ⟨s, hs, hok, Int.le_refl _⟩
  have h3 := (pow_le6 (figs_iff.1 hf).2.2).2
  omega
theorem len_fit (fs : List Int) (m : Int) : (fitR fs m).1.length ≤ 100 := by
  unfold fitR
  split
  · simp
  rename_i h
  split
  · simp
  split
  · simp
  · have h1 := raw_len (m := m) (fs := fs) (by simpa using h)
    have h2 := join_len (isortE ltS (rawR fs m)) _ (Nat.le_refl _)
    rw [List.take_length, Go.Mw.len_isortE] at h2
    show (joinR _).length ≤ 100
    omega
set_option maxRecDepth 20000 in
set_option maxHeartbeats 16000000 in
/-- meterworks/drum.Fit -/
theorem c_drum_Fit (fs : List Int) (m : Int) (hl : fs.length ≤ 1000) : Contract Try.prog 17 [.leaf (.d (intsD fs)), .int m] (fitV (fitR fs m)) [] := by
  refine con_of follows_mixed Try.func17 rfl (by simp only [List.length_cons, List.length_nil, Try.ntmps17]; omega) (by kernel_rfl) rfl ?_
  refine Exec.reg ?_
  iterate 2 (refine Run.op (by simp only [go_sem] <;> rfl) (by simp only [go_sem] <;> rfl) ?_)
  refine Run.nil ?_
  refine Exec.blk ?_
  by_cases hln : inD (fs.length : Int) 1 6 = true
  · skip
    have hal := any_all (p := fun s => inD s 0 9) fs
    refine Exec.reg ?_
    iterate 2 (refine Run.op (by simp only [go_sem, hln, hal, Bool.not_true, Bool.not_not] <;> rfl) (by simp only [go_sem] <;> rfl) ?_)
    refine Run.cal (c_drum_within _ _ _) (by simp only [go_sem]) (by simp only [go_sem, hln, hal, Bool.not_true, Bool.not_not] <;> rfl) (by exact ⟨by first | exact WkR.pure rfl | exact WkR.nil _ | exact WkR.int (by first | omega | (simp; done) | (simp; omega)), by first | exact WkR.pure rfl | exact WkR.nil _ | exact WkR.int (by first | omega | (simp; done) | (simp; omega)), by first | exact WkR.pure rfl | exact WkR.nil _ | exact WkR.int (by first | omega | (simp; done) | (simp; omega)), trivial⟩) (fr0) (by simp only [go_sem, hln, hal, Bool.not_true, Bool.not_not] <;> rfl) ?_
    iterate 2 (refine Run.op (by simp only [go_sem, hln, hal, Bool.not_true, Bool.not_not] <;> rfl) (by simp only [go_sem] <;> rfl) ?_)
    refine Run.yes (by simp only [go_sem] <;> rfl) (by simp only [go_sem, hln, hal, Bool.not_true, Bool.not_not] <;> rfl) (by simp only [go_sem] <;> rfl) ?_
    refine Run.calw (by simp only [go_sem] <;> rfl) (c_ContainsFunc_int (fun s => !inD s 0 9) (ds := []) (by simp only [go_sem]) c_Fit_1 fs hl) (by simp only [go_sem]) (by simp only [go_sem, hln, hal, Bool.not_true, Bool.not_not] <;> rfl) (by simp only [go_sem, hln, hal, Bool.not_true, Bool.not_not] <;> rfl) (by exact ⟨by first | exact WkR.pure rfl | exact WkR.nil _ | exact WkR.int (by first | omega | (simp; done) | (simp; omega)), by first | exact WkR.pure rfl | exact WkR.nil _ | exact WkR.int (by first | omega | (simp; done) | (simp; omega)), trivial⟩) (fr0) (by simp only [go_sem, hln, hal, Bool.not_true, Bool.not_not] <;> rfl) ?_
    iterate 2 (refine Run.op (by simp only [go_sem, hln, hal, Bool.not_true, Bool.not_not] <;> rfl) (by simp only [go_sem] <;> rfl) ?_)
    refine Run.nil ?_
    refine Exec.cnd (by simp only [go_sem, hln, hal, Bool.not_true, Bool.not_not] <;> rfl) (fun hb13 => ?_) (fun hb13 => ?_)
    · skip
      have hfg : figsB fs = false := by unfold figsB; rw [hln, Bool.and_true]; simpa using hb13
      have hr : fitR fs m = ([], 1) := by unfold fitR; rw [if_pos hfg]
      refine Exec.reg ?_
      iterate 2 (refine Run.op (by simp only [go_sem, hln, hal, Bool.not_true, Bool.not_not, hr] <;> rfl) (by simp only [go_sem] <;> rfl) ?_)
      refine Run.nild 4 2 (by simp only [go_sem] <;> rfl) (by simp only [go_sem] <;> rfl) ?_
      refine Run.nil ?_
      refine BlkK.ret ?_
      exact Ends.fin [] (rs := [.tmp 4, .tmp 5]) rfl (by simp only [go_sem, hln, hal, Bool.not_true, Bool.not_not, hr] <;> rfl) (by simp only [go_sem, hln, hal, Bool.not_true, Bool.not_not, hr] <;> first | rfl | ((repeat' (first | with_reducible_and_instances rfl | refine st_eq ?_ ?_ ?_ | refine ret_eq ?_ | refine tup_eq ?_ | refine tm_eq ?_ ?_ | refine arr_eq ?_ | refine cells_eq ?_ | refine val_eq ?_ | refine ls_eq ?_ ?_ | refine own_eq ?_ ?_ | refine sl_eq ?_ | refine b_eq ?_ | (refine i_eq ?_; omega))); done))
    · skip
      have hf : figsB fs = true := by unfold figsB; rw [hln, Bool.and_true]; simpa using hb13
      obtain ⟨hfs, hl1, hl6⟩ := figs_iff.1 hf
      refine Exec.reg ?_
      refine Run.op (by simp only [go_sem, hln, hal, Bool.not_true, Bool.not_not] <;> rfl) (by simp only [go_sem] <;> rfl) ?_
      refine Run.cal (c_drum_within _ _ _) (by simp only [go_sem]) (by simp only [go_sem, hln, hal, Bool.not_true, Bool.not_not] <;> rfl) (by exact ⟨by first | exact WkR.pure rfl | exact WkR.nil _ | exact WkR.int (by first | omega | (simp; done) | (simp; omega)), by first | exact WkR.pure rfl | exact WkR.nil _ | exact WkR.int (by first | omega | (simp; done) | (simp; omega)), by first | exact WkR.pure rfl | exact WkR.nil _ | exact WkR.int (by first | omega | (simp; done) | (simp; omega)), trivial⟩) (fr0) (by simp only [go_sem, hln, hal, Bool.not_true, Bool.not_not] <;> rfl) ?_
      iterate 2 (refine Run.op (by simp only [go_sem, hln, hal, Bool.not_true, Bool.not_not] <;> rfl) (by simp only [go_sem] <;> rfl) ?_)
      refine Run.nil ?_
      refine Exec.cnd (by simp only [go_sem, hln, hal, Bool.not_true, Bool.not_not] <;> rfl) (fun hb22 => ?_) (fun hb22 => ?_)
      · skip
        have hmi : inD m 0 999 = false := by simpa using hb22
        have hr : fitR fs m = ([], 2) := by unfold fitR; rw [if_neg (by simp [hf]), if_pos hmi]
        refine Exec.reg ?_
        iterate 2 (refine Run.op (by simp only [go_sem, hln, hal, Bool.not_true, Bool.not_not, hr] <;> rfl) (by simp only [go_sem] <;> rfl) ?_)
        refine Run.nild 4 2 (by simp only [go_sem] <;> rfl) (by simp only [go_sem] <;> rfl) ?_
        refine Run.nil ?_
        refine BlkK.ret ?_
        exact Ends.fin [] (rs := [.tmp 4, .tmp 5]) rfl (by simp only [go_sem, hln, hal, Bool.not_true, Bool.not_not, hr] <;> rfl) (by simp only [go_sem, hln, hal, Bool.not_true, Bool.not_not, hr] <;> first | rfl | ((repeat' (first | with_reducible_and_instances rfl | refine st_eq ?_ ?_ ?_ | refine ret_eq ?_ | refine tup_eq ?_ | refine tm_eq ?_ ?_ | refine arr_eq ?_ | refine cells_eq ?_ | refine val_eq ?_ | refine ls_eq ?_ ?_ | refine own_eq ?_ ?_ | refine sl_eq ?_ | refine b_eq ?_ | (refine i_eq ?_; omega))); done))
      · skip
        have hmi : inD m 0 999 = true := by simpa using hb22
        have hm := inD_iff.1 hmi
        obtain ⟨x, hx⟩ : ∃ x, fs[0]? = some x := ⟨_, List.getElem?_eq_getElem (by omega)⟩
        have hxb := hfs x (List.mem_of_getElem? hx)
        refine BlkK.nrm ?_
        refine Exec.opk 20 ?_
        refine OpenK.op (by simp only [go_sem, hln, hal, Bool.not_true, Bool.not_not, hx, pick_max, pick_min, Int.toNat_zero] <;> rfl) (by simp only [go_sem] <;> rfl) (by simp only [go_sem] <;> rfl) ?_
        refine OpenK.op (by simp only [go_sem, hln, hal, Bool.not_true, Bool.not_not, hx, pick_max, pick_min, Int.toNat_zero]; (try simp (disch := omega) only [if_pos]); (try simp only [go_sem, hln, hal, Bool.not_true, Bool.not_not, hx, pick_max, pick_min, Int.toNat_zero])<;> rfl) (by simp only [go_sem] <;> rfl) (by simp only [go_sem] <;> rfl) ?_
        refine OpenK.op (by simp only [go_sem, hln, hal, Bool.not_true, Bool.not_not, hx, pick_max, pick_min, Int.toNat_zero] <;> rfl) (by simp only [go_sem] <;> rfl) (by simp only [go_sem] <;> rfl) ?_
        refine OpenK.op (by simp only [go_sem, hln, hal, Bool.not_true, Bool.not_not, hx, pick_max, pick_min, Int.toNat_zero]; (try simp (disch := omega) only [IntWalk.i64_in, IntWalk.u64_in, if_neg, if_pos])<;> rfl) (by simp only [go_sem] <;> rfl) (by simp only [go_sem] <;> rfl) ?_
        refine OpenK.op (by simp only [go_sem, hln, hal, Bool.not_true, Bool.not_not, hx, pick_max, pick_min, Int.toNat_zero] <;> rfl) (by simp only [go_sem] <;> rfl) (by simp only [go_sem] <;> rfl) ?_
        refine OpenK.op (by simp only [go_sem, hln, hal, Bool.not_true, Bool.not_not, hx, pick_max, pick_min, Int.toNat_zero]; (try simp (disch := omega) only [IntWalk.i64_in, IntWalk.u64_in, if_neg, if_pos])<;> rfl) (by simp only [go_sem] <;> rfl) (by simp only [go_sem] <;> rfl) ?_
        refine OpenK.op (by simp only [go_sem, hln, hal, Bool.not_true, Bool.not_not, hx, pick_max, pick_min, Int.toNat_zero] <;> rfl) (by simp only [go_sem] <;> rfl) (by simp only [go_sem] <;> rfl) ?_
        refine OpenK.op (by simp only [go_sem, hln, hal, Bool.not_true, Bool.not_not, hx, pick_max, pick_min, Int.toNat_zero] <;> rfl) (by simp only [go_sem] <;> rfl) (by simp only [go_sem] <;> rfl) ?_
        refine OpenK.op (by simp only [go_sem, hln, hal, Bool.not_true, Bool.not_not, hx, pick_max, pick_min, Int.toNat_zero]; (try simp (disch := omega) only [if_pos]); (try simp only [go_sem, hln, hal, Bool.not_true, Bool.not_not, hx, pick_max, pick_min, Int.toNat_zero])<;> rfl) (by simp only [go_sem] <;> rfl) (by simp only [go_sem] <;> rfl) ?_
        refine OpenK.op (by simp only [go_sem, hln, hal, Bool.not_true, Bool.not_not, hx, pick_max, pick_min, Int.toNat_zero] <;> rfl) (by simp only [go_sem] <;> rfl) (by simp only [go_sem] <;> rfl) ?_
        refine OpenK.op (by simp only [go_sem, hln, hal, Bool.not_true, Bool.not_not, hx, pick_max, pick_min, Int.toNat_zero]; (try simp (disch := omega) only [IntWalk.i64_in, IntWalk.u64_in, if_neg, if_pos])<;> rfl) (by simp only [go_sem] <;> rfl) (by simp only [go_sem] <;> rfl) ?_
        refine OpenK.op (by simp only [go_sem, hln, hal, Bool.not_true, Bool.not_not, hx, pick_max, pick_min, Int.toNat_zero] <;> rfl) (by simp only [go_sem] <;> rfl) (by simp only [go_sem] <;> rfl) ?_
        refine OpenK.op (by simp only [go_sem, hln, hal, Bool.not_true, Bool.not_not, hx, pick_max, pick_min, Int.toNat_zero]; (try simp (disch := omega) only [IntWalk.i64_in, IntWalk.u64_in, if_neg, if_pos])<;> rfl) (by simp only [go_sem] <;> rfl) (by simp only [go_sem] <;> rfl) ?_
        refine OpenK.op (by simp only [go_sem, hln, hal, Bool.not_true, Bool.not_not, hx, pick_max, pick_min, Int.toNat_zero] <;> rfl) (by simp only [go_sem] <;> rfl) (by simp only [go_sem] <;> rfl) ?_
        refine OpenK.op (by simp only [go_sem, hln, hal, Bool.not_true, Bool.not_not, hx, pick_max, pick_min, Int.toNat_zero] <;> rfl) (by simp only [go_sem] <;> rfl) (by simp only [go_sem] <;> rfl) ?_
        refine OpenK.op (by simp only [go_sem, hln, hal, Bool.not_true, Bool.not_not, hx, pick_max, pick_min, Int.toNat_zero] <;> rfl) (by simp only [go_sem] <;> rfl) (by simp only [go_sem] <;> rfl) ?_
        refine OpenK.op (by simp only [go_sem, hln, hal, Bool.not_true, Bool.not_not, hx, pick_max, pick_min, Int.toNat_zero] <;> rfl) (by simp only [go_sem] <;> rfl) (by simp only [go_sem] <;> rfl) ?_
        refine OpenK.op (by simp only [go_sem, hln, hal, Bool.not_true, Bool.not_not, hx, pick_max, pick_min, Int.toNat_zero] <;> rfl) (by simp only [go_sem] <;> rfl) (by simp only [go_sem] <;> rfl) ?_
        refine OpenK.nil (OpenE.finT (by kernel_rfl) (by kernel_rfl) (by kernel_rfl) ?_)
        refine Exec.assocS ?_
        refine Exec.reg ?_
        refine Run.op (by simp only [go_sem, hln, hal, Bool.not_true, Bool.not_not, hx, pick_max, pick_min, Int.toNat_zero] <;> rfl) (by simp only [go_sem] <;> rfl) ?_
        refine Run.op (by simp only [go_sem, hln, hal, Bool.not_true, Bool.not_not, hx, pick_max, pick_min, Int.toNat_zero]; (try simp (disch := omega) only [if_pos]); (try simp only [go_sem, hln, hal, Bool.not_true, Bool.not_not, hx, pick_max, pick_min, Int.toNat_zero])<;> rfl) (by simp only [go_sem] <;> rfl) ?_
        iterate 3 (refine Run.op (by simp only [go_sem, hln, hal, Bool.not_true, Bool.not_not, hx, pick_max, pick_min, Int.toNat_zero] <;> rfl) (by simp only [go_sem] <;> rfl) ?_)
        refine Run.gop (by simp only [go_sem] <;> rfl) (by simp only [go_sem, hln, hal, Bool.not_true, Bool.not_not, hx, pick_max, pick_min, Int.toNat_zero] <;> rfl) (by simp only [go_sem] <;> rfl) ?_
        refine Run.gop (by simp only [go_sem] <;> rfl) (by simp only [go_sem, hln, hal, Bool.not_true, Bool.not_not, hx, pick_max, pick_min, Int.toNat_zero] <;> rfl) (by simp only [go_sem] <;> rfl) ?_
        refine Run.op (by simp only [go_sem, hln, hal, Bool.not_true, Bool.not_not, hx, pick_max, pick_min, Int.toNat_zero] <;> rfl) (by simp only [go_sem] <;> rfl) ?_
        refine Run.nil ?_
        refine Exec.joinA [0, 1, 6] [6, 41] (fun (u1 : Unit) => [.obj 6 (.cells [.own 41 0 (firstR x m).length (firstR x m).length]), .obj 41 (.arr 45 2 ((firstR x m).map encSpan))]) (fun (u1 : Unit) => True) (fun u1 => by simp only [go_sem] <;> rfl) ?_ (fun u1 hj => ?_)
        · skip
          refine Exec.cnd (by simp only [go_sem, hln, hal, Bool.not_true, Bool.not_not, hx, pick_max, pick_min, Int.toNat_zero] <;> rfl) (fun hb49 => ?_) (fun hb49 => ?_)
          · skip
            have hc0 : x = 0 ∧ 0 < m := by simpa using hb49
            have hfi : firstR x m = [⟨max 0 (x * 1000 - m), min 9999 (x * 1000 + m)⟩, ⟨10000 - m, 9999⟩] := by unfold firstR; rw [if_pos hc0]
            refine Exec.reg1 ?_
            iterate 2 (refine Run.op (by simp only [go_sem, hln, hal, Bool.not_true, Bool.not_not, hx, pick_max, pick_min, Int.toNat_zero, hfi] <;> rfl) (by simp only [go_sem] <;> rfl) ?_)
            refine Run.op (by simp only [go_sem, hln, hal, Bool.not_true, Bool.not_not, hx, pick_max, pick_min, Int.toNat_zero, hfi]; (try simp (disch := omega) only [IntWalk.i64_in, IntWalk.u64_in, if_neg, if_pos])<;> rfl) (by simp only [go_sem] <;> rfl) ?_
            iterate 2 (refine Run.op (by simp only [go_sem, hln, hal, Bool.not_true, Bool.not_not, hx, pick_max, pick_min, Int.toNat_zero, hfi] <;> rfl) (by simp only [go_sem] <;> rfl) ?_)
            refine Run.op (by simp only [go_sem, hln, hal, Bool.not_true, Bool.not_not, hx, pick_max, pick_min, Int.toNat_zero, hfi]; (try simp (disch := omega) only [if_pos]); (try simp only [go_sem, hln, hal, Bool.not_true, Bool.not_not, hx, pick_max, pick_min, Int.toNat_zero, hfi]) <;> first | (refine ite_run ⟨by (try simp only [List.length_append, List.length_drop, List.length_take, List.length_map, List.length_cons, List.length_nil, List.length_replicate, List.length_set, List.length_range, Nat.zero_add]); omega, by (try simp only [List.length_append, List.length_drop, List.length_take, List.length_map, List.length_cons, List.length_nil, List.length_replicate, List.length_set, List.length_range, Nat.zero_add]); omega, by repeat (first | exact al_nil | assumption | refine al_app ?_ ?_ | refine al_drop ?_ | refine al_take ?_ | exact al_map (fun _ => rfl) | exact al_rep rfl | refine al_cons rfl ?_)⟩ ?_; simp only [go_sem, hln, hal, Bool.not_true, Bool.not_not, hx, pick_max, pick_min, Int.toNat_zero, hfi] <;> rfl) | (refine ite_run ⟨by (try simp only [List.length_append, List.length_drop, List.length_take, List.length_map, List.length_cons, List.length_nil, List.length_replicate, List.length_set, List.length_range, Nat.zero_add]); omega, by repeat (first | exact al_nil | assumption | refine al_app ?_ ?_ | refine al_drop ?_ | refine al_take ?_ | exact al_map (fun _ => rfl) | exact al_rep rfl | refine al_cons rfl ?_)⟩ ?_; simp only [go_sem, hln, hal, Bool.not_true, Bool.not_not, hx, pick_max, pick_min, Int.toNat_zero, hfi] <;> rfl) | rfl) (by simp only [go_sem] <;> rfl) ?_
            refine Run.op (by simp only [go_sem, hln, hal, Bool.not_true, Bool.not_not, hx, pick_max, pick_min, Int.toNat_zero, hfi] <;> rfl) (by simp only [go_sem] <;> rfl) ?_
            refine Run.nil ?_
            refine JoinK.nrm (()) ?_ ?_
            · trivial
            · exact Ghost.kp [0, 1, 6] [6, 41] (by simp only [go_sem, hln, hal, Bool.not_true, Bool.not_not, hx, pick_max, pick_min, Int.toNat_zero, hfi]; first | ((repeat' (first | with_reducible_and_instances rfl | refine st_eq ?_ ?_ ?_ | refine ret_eq ?_ | refine tup_eq ?_ | refine tm_eq ?_ ?_ | refine arr_eq ?_ | refine cells_eq ?_ | refine val_eq ?_ | refine ls_eq ?_ ?_ | refine own_eq ?_ ?_ | refine sl_eq ?_ | refine b_eq ?_ | (refine i_eq ?_; omega))); done) | rfl)
          · skip
            have hc0 : ¬ (x = 0 ∧ 0 < m) := by simpa using hb49
            have hfi : firstR x m = [⟨max 0 (x * 1000 - m), min 9999 (x * 1000 + m)⟩] := by unfold firstR; rw [if_neg hc0]
            refine JoinK.nrm (()) ?_ ?_
            · trivial
            · exact Ghost.kp [0, 1, 6] [6, 41] (by simp only [go_sem, hln, hal, Bool.not_true, Bool.not_not, hx, pick_max, pick_min, Int.toNat_zero, hfi]; first | ((repeat' (first | with_reducible_and_instances rfl | refine st_eq ?_ ?_ ?_ | refine ret_eq ?_ | refine tup_eq ?_ | refine tm_eq ?_ ?_ | refine arr_eq ?_ | refine cells_eq ?_ | refine val_eq ?_ | refine ls_eq ?_ ?_ | refine own_eq ?_ ?_ | refine sl_eq ?_ | refine b_eq ?_ | (refine i_eq ?_; omega))); done) | rfl)
        · skip
          refine Exec.reg ?_
          refine Run.op (by simp only [go_sem, hln, hal, Bool.not_true, Bool.not_not, hx, pick_max, pick_min, Int.toNat_zero] <;> rfl) (by simp only [go_sem] <;> rfl) ?_
          refine Run.nil ?_
          refine Exec.assocS ?_
          refine Exec.reg ?_
          refine Run.nilC 7 0 1000 45 2 (by simp only [go_sem] <;> rfl) (by simp only [go_sem] <;> rfl) (by simp only [go_sem] <;> rfl) (by omega) (by omega) (by simp only [go_sem] <;> rfl) ?_
          iterate 2 (refine Run.op (by simp only [go_sem, hln, hal, Bool.not_true, Bool.not_not, hx, pick_max, pick_min, Int.toNat_zero] <;> rfl) (by simp only [go_sem] <;> rfl) ?_)
          refine Run.cal (c_drum_totals fs m) (by simp only [go_sem]) (by simp only [go_sem, hln, hal, Bool.not_true, Bool.not_not, hx, pick_max, pick_min, Int.toNat_zero] <;> rfl) (by exact ⟨by first | exact WkR.pure rfl | exact WkR.nil _ | exact WkR.int (by first | omega | (simp; done) | (simp; omega)), by first | exact WkR.pure rfl | exact WkR.nil _ | exact WkR.int (by first | omega | (simp; done) | (simp; omega)), trivial⟩) (fr0) (by simp only [go_sem, hln, hal, Bool.not_true, Bool.not_not, hx, pick_max, pick_min, Int.toNat_zero] <;> rfl) ?_
          refine Run.nil ?_
          refine Exec.blk ?_
          refine Exec.rangeL 52 [.pt [intsD fs], .pt [.i m]] 900 ((totL m fs).map encTot) [6, 7, 58] [6, 41, 7, 1000] (fun k => [.obj 7 (.cells [.own 1000 0 (rawK m x fs k).length (rawK m x fs k).length]), .obj 1000 (.arr 45 2 ((rawK m x fs k).map encSpan))]) (fun _ => True) (fun k => by simp only [go_sem] <;> rfl) (by simp only [go_sem, hln, hal, Bool.not_true, Bool.not_not, hx, pick_max, pick_min, Int.toNat_zero, rawK_zero, List.map_nil, List.length_nil] <;> rfl) (fun _ => by rfl) (fun _ => by rfl) rfl (by simp only [go_sem] <;> rfl) (by simp only [go_sem]) (c_totals_1 fs m hm hf) (by decide +kernel) ?_ (fun k v hv hX => ?_) (fun hX => ?_)
          · trivial
          · skip
            obtain ⟨e, he, rfl⟩ := encTot_get hv
            have hem := List.mem_of_getElem? he
            have het : 0 ≤ e.1 ∧ e.1 + 10000 ≤ 0 + 10000 * pow10 (fs.drop 1).length := tot_top (m := m) (fun y hy => hfs y (List.mem_of_mem_drop hy)) (by decide) hem
            have hpd := pow_le6 (k := (fs.drop 1).length) (by rw [List.length_drop]; omega)
            have hpe : pow10 (fs.drop 1).length ≤ 100000 := by
              have := pow10_le (show (fs.drop 1).length ≤ 5 by rw [List.length_drop]; omega)
              have e5 : pow10 5 = 100000 := by decide
              omega
            have hes : 0 ≤ e.2.1 ∧ e.2.1 ≤ e.2.2 ∧ e.2.2 ≤ 999 := tot_span hm (by decide) hem
            have hrl := rawK_len m x fs k
            have hkl : k < (totL m fs).length := (List.getElem?_eq_some_iff.1 he).1
            have htl2 : (totL m fs).length ≤ 6 := by
              have := tot_len (m := m) (fs := fs.drop 1) (b := 0) (pw := 10000) (ch := true) (lo := 0) (hi := 999) fun y hy => hfs y (List.mem_of_mem_drop hy)
              rw [if_pos rfl, List.length_drop] at this
              unfold totL
              omega
            have hrs := rawK_succ (x := x) he
            have hcn : canS e = ⟨if e.2.1 = 0 then 0 else 9000 + e.2.1, 9000 + e.2.2⟩ := rfl
            refine ⟨rfl, ?_⟩
            refine Exec.reg ?_
            refine Run.op (by simp only [go_sem, hln, hal, Bool.not_true, Bool.not_not, hx, pick_max, pick_min, Int.toNat_zero] <;> rfl) (by simp only [go_sem] <;> rfl) ?_
            refine Run.nil ?_
            refine Exec.reg1 ?_
            iterate 2 (refine Run.op (by simp only [go_sem, hln, hal, Bool.not_true, Bool.not_not, hx, pick_max, pick_min, Int.toNat_zero] <;> rfl) (by simp only [go_sem] <;> rfl) ?_)
            refine Run.nil ?_
            refine ⟨rfl, ?_⟩
            refine Exec.blk1 ?_
            refine Exec.reg ?_
            iterate 2 (refine Run.op (by simp only [go_sem, hln, hal, Bool.not_true, Bool.not_not, hx, pick_max, pick_min, Int.toNat_zero] <;> rfl) (by simp only [go_sem] <;> rfl) ?_)
            refine Run.op (by simp only [go_sem, hln, hal, Bool.not_true, Bool.not_not, hx, pick_max, pick_min, Int.toNat_zero]; (try simp (disch := omega) only [IntWalk.i64_in, IntWalk.u64_in, if_neg, if_pos])<;> rfl) (by simp only [go_sem] <;> rfl) ?_
            iterate 2 (refine Run.op (by simp only [go_sem, hln, hal, Bool.not_true, Bool.not_not, hx, pick_max, pick_min, Int.toNat_zero] <;> rfl) (by simp only [go_sem] <;> rfl) ?_)
            refine Run.op (by simp only [go_sem, hln, hal, Bool.not_true, Bool.not_not, hx, pick_max, pick_min, Int.toNat_zero]; (try simp (disch := omega) only [IntWalk.i64_in, IntWalk.u64_in, if_neg, if_pos])<;> rfl) (by simp only [go_sem] <;> rfl) ?_
            iterate 3 (refine Run.op (by simp only [go_sem, hln, hal, Bool.not_true, Bool.not_not, hx, pick_max, pick_min, Int.toNat_zero] <;> rfl) (by simp only [go_sem] <;> rfl) ?_)
            refine Run.nil ?_
            refine Exec.assocS ?_
            refine Exec.reg ?_
            iterate 3 (refine Run.op (by simp only [go_sem, hln, hal, Bool.not_true, Bool.not_not, hx, pick_max, pick_min, Int.toNat_zero] <;> rfl) (by simp only [go_sem] <;> rfl) ?_)
            refine Run.nil ?_
            refine Exec.joinA [0, 1, 6, 7, 8, 9, 10, 58] [6, 41, 7, 1000, 10] (fun (u2 : Unit) => [.obj 10 (.cells [.d (.i (canS e).lo), .d (.i (canS e).hi)])]) (fun (u2 : Unit) => True) (fun u2 => by simp only [go_sem] <;> rfl) ?_ (fun u2 hj => ?_)
            · skip
              refine Exec.cnd (by simp only [go_sem, hln, hal, Bool.not_true, Bool.not_not, hx, pick_max, pick_min, Int.toNat_zero] <;> rfl) (fun hb70 => ?_) (fun hb70 => ?_)
              · skip
                have hz : e.2.1 = 0 := by simpa using hb70
                have hcl : (canS e).lo = 0 := if_pos hz
                have hch : (canS e).hi = 9000 + e.2.2 := rfl
                refine Exec.reg1 ?_
                iterate 2 (refine Run.op (by simp only [go_sem, hln, hal, Bool.not_true, Bool.not_not, hx, pick_max, pick_min, Int.toNat_zero, hcl, hch] <;> rfl) (by simp only [go_sem] <;> rfl) ?_)
                refine Run.nil ?_
                refine JoinK.nrm (()) ?_ ?_
                · trivial
                · exact Ghost.kp [0, 1, 6, 7, 8, 9, 10, 58] [6, 41, 7, 1000, 10] (by simp only [go_sem, hln, hal, Bool.not_true, Bool.not_not, hx, pick_max, pick_min, Int.toNat_zero, hcl, hch]; first | ((repeat' (first | with_reducible_and_instances rfl | refine st_eq ?_ ?_ ?_ | refine ret_eq ?_ | refine tup_eq ?_ | refine tm_eq ?_ ?_ | refine arr_eq ?_ | refine cells_eq ?_ | refine val_eq ?_ | refine ls_eq ?_ ?_ | refine own_eq ?_ ?_ | refine sl_eq ?_ | refine b_eq ?_ | (refine i_eq ?_; omega))); done) | rfl)
              · skip
                have hz : ¬ e.2.1 = 0 := by simpa using hb70
                have hcl : (canS e).lo = 9000 + e.2.1 := if_neg hz
                have hch : (canS e).hi = 9000 + e.2.2 := rfl
                refine JoinK.nrm (()) ?_ ?_
                · trivial
                · exact Ghost.kp [0, 1, 6, 7, 8, 9, 10, 58] [6, 41, 7, 1000, 10] (by simp only [go_sem, hln, hal, Bool.not_true, Bool.not_not, hx, pick_max, pick_min, Int.toNat_zero, hcl, hch]; first | ((repeat' (first | with_reducible_and_instances rfl | refine st_eq ?_ ?_ ?_ | refine ret_eq ?_ | refine tup_eq ?_ | refine tm_eq ?_ ?_ | refine arr_eq ?_ | refine cells_eq ?_ | refine val_eq ?_ | refine ls_eq ?_ ?_ | refine own_eq ?_ ?_ | refine sl_eq ?_ | refine b_eq ?_ | (refine i_eq ?_; omega))); done) | rfl)
            · skip
              refine Exec.reg ?_
              iterate 3 (refine Run.op (by simp only [go_sem, hln, hal, Bool.not_true, Bool.not_not, hx, pick_max, pick_min, Int.toNat_zero] <;> rfl) (by simp only [go_sem] <;> rfl) ?_)
              refine Run.nil ?_
              refine Exec.blk1 ?_
              refine Exec.forA [6, 7, 8, 10, 58, 72, 73, 74] [6, 41, 7, 1000, 10] ((firstR x m).length) (fun j => [.slot 74 (.int j), .obj 7 (.cells [.own 1000 0 (rawK m x fs k ++ innK m x e j).length (rawK m x fs k ++ innK m x e j).length]), .obj 1000 (.arr 45 2 ((rawK m x fs k ++ innK m x e j).map encSpan))]) (fun _ => True) (fun j => by simp only [go_sem] <;> rfl) (by simp only [go_sem, hln, hal, Bool.not_true, Bool.not_not, hx, pick_max, pick_min, Int.toNat_zero, innK_zero, List.append_nil, Int.natCast_zero] <;> rfl) ?_ (fun j hj Xj => ?_)
              · trivial
              · skip
                refine Exec.reg ?_
                refine Run.op (by simp only [go_sem, hln, hal, Bool.not_true, Bool.not_not, hx, pick_max, pick_min, Int.toNat_zero] <;> rfl) (by simp only [go_sem] <;> rfl) ?_
                refine Run.nil ?_
                refine Exec.cndS (by simp only [go_sem, hln, hal, Bool.not_true, Bool.not_not, hx, pick_max, pick_min, Int.toNat_zero] <;> rfl) (fun hb75 => ?_) (fun hb75 => ?_)
                · skip
                  have hlt := lt_of_dec hb75
                  obtain ⟨s, hs⟩ : ∃ s, (firstR x m)[j]? = some s := ⟨_, List.getElem?_eq_getElem hlt⟩
                  have hsb := first_in (List.mem_of_getElem? hs) hm
                  have hin := innK_succ (e := e) hs
                  have hil := innK_len m x e j
                  have hf2 : (firstR x m).length ≤ 2 := by unfold firstR; split <;> simp
                  have hcl2 : 0 ≤ (canS e).lo ∧ (canS e).lo ≤ 9999 ∧ 0 ≤ (canS e).hi ∧ (canS e).hi ≤ 9999 := by unfold canS; simp only; split <;> omega
                  refine Exec.skipS ?_
                  refine Exec.blk ?_
                  refine Exec.reg ?_
                  refine Run.op (by simp only [go_sem, hln, hal, Bool.not_true, Bool.not_not, hx, pick_max, pick_min, Int.toNat_zero, hs]; (try simp (disch := omega) only [if_pos]); (try simp only [go_sem, hln, hal, Bool.not_true, Bool.not_not, hx, pick_max, pick_min, Int.toNat_zero, hs])<;> rfl) (by simp only [go_sem] <;> rfl) ?_
                  iterate 3 (refine Run.op (by simp only [go_sem, hln, hal, Bool.not_true, Bool.not_not, hx, pick_max, pick_min, Int.toNat_zero, hs] <;> rfl) (by simp only [go_sem] <;> rfl) ?_)
                  refine Run.nil ?_
                  refine Exec.reg ?_
                  iterate 12 (refine Run.op (by simp only [go_sem, hln, hal, Bool.not_true, Bool.not_not, hx, pick_max, pick_min, Int.toNat_zero, hs] <;> rfl) (by simp only [go_sem] <;> rfl) ?_)
                  refine Run.nil ?_
                  refine Exec.reg ?_
                  iterate 5 (refine Run.op (by simp only [go_sem, hln, hal, Bool.not_true, Bool.not_not, hx, pick_max, pick_min, Int.toNat_zero, hs] <;> rfl) (by simp only [go_sem] <;> rfl) ?_)
                  refine Run.nil ?_
                  refine Exec.cnd (by simp only [go_sem, hln, hal, Bool.not_true, Bool.not_not, hx, pick_max, pick_min, Int.toNat_zero, hs] <;> rfl) (fun hb93 => ?_) (fun hb93 => ?_)
                  · skip
                    have hle : max s.lo (canS e).lo ≤ min s.hi (canS e).hi := of_decide_eq_true hb93
                    have hms : meetS e.1 (canS e) s = [⟨e.1 + max s.lo (canS e).lo, e.1 + min s.hi (canS e).hi⟩] := if_pos hle
                    rw [hms] at hin
                    refine Exec.reg1 ?_
                    iterate 4 (refine Run.op (by simp only [go_sem, hln, hal, Bool.not_true, Bool.not_not, hx, pick_max, pick_min, Int.toNat_zero, hs] <;> rfl) (by simp only [go_sem] <;> rfl) ?_)
                    refine Run.op (by simp only [go_sem, hln, hal, Bool.not_true, Bool.not_not, hx, pick_max, pick_min, Int.toNat_zero, hs]; (try simp (disch := omega) only [IntWalk.i64_in, IntWalk.u64_in, if_neg, if_pos])<;> rfl) (by simp only [go_sem] <;> rfl) ?_
                    iterate 3 (refine Run.op (by simp only [go_sem, hln, hal, Bool.not_true, Bool.not_not, hx, pick_max, pick_min, Int.toNat_zero, hs] <;> rfl) (by simp only [go_sem] <;> rfl) ?_)
                    refine Run.op (by simp only [go_sem, hln, hal, Bool.not_true, Bool.not_not, hx, pick_max, pick_min, Int.toNat_zero, hs]; (try simp (disch := omega) only [IntWalk.i64_in, IntWalk.u64_in, if_neg, if_pos])<;> rfl) (by simp only [go_sem] <;> rfl) ?_
                    iterate 2 (refine Run.op (by simp only [go_sem, hln, hal, Bool.not_true, Bool.not_not, hx, pick_max, pick_min, Int.toNat_zero, hs] <;> rfl) (by simp only [go_sem] <;> rfl) ?_)
                    refine Run.op (by simp only [go_sem, hln, hal, Bool.not_true, Bool.not_not, hx, pick_max, pick_min, Int.toNat_zero, hs]; (try simp (disch := omega) only [if_pos]); (try simp only [go_sem, hln, hal, Bool.not_true, Bool.not_not, hx, pick_max, pick_min, Int.toNat_zero, hs]) <;> first | (refine ite_run ⟨by (try simp only [List.length_append, List.length_drop, List.length_take, List.length_map, List.length_cons, List.length_nil, List.length_replicate, List.length_set, List.length_range, Nat.zero_add]); omega, by (try simp only [List.length_append, List.length_drop, List.length_take, List.length_map, List.length_cons, List.length_nil, List.length_replicate, List.length_set, List.length_range, Nat.zero_add]); omega, by repeat (first | exact al_nil | assumption | refine al_app ?_ ?_ | refine al_drop ?_ | refine al_take ?_ | exact al_map (fun _ => rfl) | exact al_rep rfl | refine al_cons rfl ?_)⟩ ?_; simp only [go_sem, hln, hal, Bool.not_true, Bool.not_not, hx, pick_max, pick_min, Int.toNat_zero, hs] <;> rfl) | (refine ite_run ⟨by (try simp only [List.length_append, List.length_drop, List.length_take, List.length_map, List.length_cons, List.length_nil, List.length_replicate, List.length_set, List.length_range, Nat.zero_add]); omega, by repeat (first | exact al_nil | assumption | refine al_app ?_ ?_ | refine al_drop ?_ | refine al_take ?_ | exact al_map (fun _ => rfl) | exact al_rep rfl | refine al_cons rfl ?_)⟩ ?_; simp only [go_sem, hln, hal, Bool.not_true, Bool.not_not, hx, pick_max, pick_min, Int.toNat_zero, hs] <;> rfl) | rfl) (by simp only [go_sem] <;> rfl) ?_
                    refine Run.op (by simp only [go_sem, hln, hal, Bool.not_true, Bool.not_not, hx, pick_max, pick_min, Int.toNat_zero, hs] <;> rfl) (by simp only [go_sem] <;> rfl) ?_
                    refine Run.nil ?_
                    refine BlkK.nrm ?_
                    refine Exec.reg1 ?_
                    refine Run.op (by simp only [go_sem, hln, hal, Bool.not_true, Bool.not_not, hx, pick_max, pick_min, Int.toNat_zero, hs]; (try simp (disch := omega) only [IntWalk.i64_in, IntWalk.u64_in, if_neg, if_pos])<;> rfl) (by simp only [go_sem] <;> rfl) ?_
                    refine Run.op (by simp only [go_sem, hln, hal, Bool.not_true, Bool.not_not, hx, pick_max, pick_min, Int.toNat_zero, hs] <;> rfl) (by simp only [go_sem] <;> rfl) ?_
                    refine Run.nil ?_
                    refine ForK.nxt ?_ ?_ ?_
                    · omega
                    · exact Ghost.kp [6, 7, 8, 10, 58, 72, 73, 74] [6, 41, 7, 1000, 10] (by simp only [go_sem, hln, hal, Bool.not_true, Bool.not_not, hx, pick_max, pick_min, Int.toNat_zero, hs]; first | ((repeat' (first | with_reducible_and_instances rfl | refine st_eq ?_ ?_ ?_ | refine ret_eq ?_ | refine tup_eq ?_ | refine tm_eq ?_ ?_ | refine arr_eq ?_ | refine cells_eq ?_ | refine val_eq ?_ | refine ls_eq ?_ ?_ | refine own_eq ?_ ?_ | refine sl_eq ?_ | refine b_eq ?_ | (refine i_eq ?_; omega))); (all_goals (first | (simp [hin, encSpan]; done) | (simp [hin, encSpan]; omega)))) | rfl)
                    · trivial
                  · skip
                    have hle : ¬ max s.lo (canS e).lo ≤ min s.hi (canS e).hi := of_decide_eq_false hb93
                    have hms : meetS e.1 (canS e) s = [] := if_neg hle
                    rw [hms, List.append_nil] at hin
                    refine BlkK.nrm ?_
                    refine Exec.reg1 ?_
                    refine Run.op (by simp only [go_sem, hln, hal, Bool.not_true, Bool.not_not, hx, pick_max, pick_min, Int.toNat_zero, hs, hin]; (try simp (disch := omega) only [IntWalk.i64_in, IntWalk.u64_in, if_neg, if_pos])<;> rfl) (by simp only [go_sem] <;> rfl) ?_
                    refine Run.op (by simp only [go_sem, hln, hal, Bool.not_true, Bool.not_not, hx, pick_max, pick_min, Int.toNat_zero, hs, hin] <;> rfl) (by simp only [go_sem] <;> rfl) ?_
                    refine Run.nil ?_
                    refine ForK.nxt ?_ ?_ ?_
                    · omega
                    · exact Ghost.kp [6, 7, 8, 10, 58, 72, 73, 74] [6, 41, 7, 1000, 10] (by simp only [go_sem, hln, hal, Bool.not_true, Bool.not_not, hx, pick_max, pick_min, Int.toNat_zero, hs, hin]; first | ((repeat' (first | with_reducible_and_instances rfl | refine st_eq ?_ ?_ ?_ | refine ret_eq ?_ | refine tup_eq ?_ | refine tm_eq ?_ ?_ | refine arr_eq ?_ | refine cells_eq ?_ | refine val_eq ?_ | refine ls_eq ?_ ?_ | refine own_eq ?_ ?_ | refine sl_eq ?_ | refine b_eq ?_ | (refine i_eq ?_; omega))); done) | rfl)
                    · trivial
                · skip
                  have hje : j = (firstR x m).length := by have := ge_of_dec hb75; omega
                  subst hje
                  have hie := innK_end m x e
                  refine Exec.exitS ?_
                  refine ForK.ext ?_
                  refine Blk1K.hit ?_
                  refine Blk1K.nrm ?_
                  refine RngK.nrm ?_ ?_
                  · exact Ghost.kl [6, 41, 7, 1000] (by simp only [go_sem, hln, hal, Bool.not_true, Bool.not_not, hx, pick_max, pick_min, Int.toNat_zero, hie, hrs]; first | ((repeat' (first | with_reducible_and_instances rfl | refine st_eq ?_ ?_ ?_ | refine ret_eq ?_ | refine tup_eq ?_ | refine tm_eq ?_ ?_ | refine arr_eq ?_ | refine cells_eq ?_ | refine val_eq ?_ | refine ls_eq ?_ ?_ | refine own_eq ?_ ?_ | refine sl_eq ?_ | refine b_eq ?_ | (refine i_eq ?_; omega))); done) | rfl)
                  · trivial
          · skip
            have hrE : rawK m x fs ((totL m fs).map encTot).length = rawR fs m := by rw [List.length_map]; exact rawK_end hx
            have hrl : (rawR fs m).length ≤ 12 := raw_len hf
            simp only [hrE]
            have hta : List.take (rawR fs m).length (List.map encSpan (isortE (fun x y => decide (cmpS x y < 0)) (rawR fs m))) = List.map encSpan (isortE ltS (rawR fs m)) := by rw [List.take_of_length_le (by rw [List.length_map, len_isortE]; exact Nat.le_refl _)]; rfl
            have hjo : joinR (isortE ltS (rawR fs m)) = fitL fs m := rfl
            refine BlkK.nrm ?_
            refine Exec.reg ?_
            refine Run.op (by simp only [go_sem, hln, hal, Bool.not_true, Bool.not_not, hx, pick_max, pick_min, Int.toNat_zero, hjo] <;> rfl) (by simp only [go_sem] <;> rfl) ?_
            refine Run.lendA 900 1000 (c_SortFunc_Span cmpS (ds := []) (by simp only [go_sem]) c_Fit_2 (rawR fs m) (raw_len hf)) (by simp [len_isortE]) (by simp only [go_sem]) (by simp only [go_sem] <;> rfl) (by simp only [go_sem, hln, hal, Bool.not_true, Bool.not_not, hx, pick_max, pick_min, Int.toNat_zero, hjo] <;> rfl) (by simp only [go_sem, hln, hal, Bool.not_true, Bool.not_not, hx, pick_max, pick_min, Int.toNat_zero, hjo] <;> rfl) (by exact ⟨by first | exact WkR.pure rfl | exact WkR.of rfl rfl | exact WkR.nil _ | exact WkR.int (by first | omega | (simp; done) | (simp; omega)), by first | exact WkR.pure rfl | exact WkR.of rfl rfl | exact WkR.nil _ | exact WkR.int (by first | omega | (simp; done) | (simp; omega)), trivial⟩) (by simp only [go_sem, hln, hal, Bool.not_true, Bool.not_not, hx, pick_max, pick_min, Int.toNat_zero, hjo] <;> rfl) ?_
            refine Run.nil ?_
            refine Exec.assocS ?_
            refine Exec.reg ?_
            refine Run.frz 1000 (by simp only [go_sem, len_isortE, hta] <;> rfl) ?_
            refine Run.op (by simp only [go_sem, hln, hal, Bool.not_true, Bool.not_not, hx, pick_max, pick_min, Int.toNat_zero, hjo] <;> rfl) (by simp only [go_sem] <;> rfl) ?_
            refine Run.cal (c_join (isortE ltS (rawR fs m)) (by rw [len_isortE]; omega) (fun s hs => by have := raw_bnd hf hm ((mem_isort _).1 hs); have := raw_ok ((mem_isort _).1 hs); omega)) (by simp only [go_sem]) (by simp only [go_sem, hln, hal, Bool.not_true, Bool.not_not, hx, pick_max, pick_min, Int.toNat_zero, hjo] <;> rfl) (by exact ⟨by first | exact WkR.pure rfl | exact WkR.nil _ | exact WkR.int (by first | omega | (simp; done) | (simp; omega)), trivial⟩) (fr0) (by simp only [go_sem, hln, hal, Bool.not_true, Bool.not_not, hx, pick_max, pick_min, Int.toNat_zero, hjo] <;> rfl) ?_
            refine Run.op (by simp only [go_sem, hln, hal, Bool.not_true, Bool.not_not, hx, pick_max, pick_min, Int.toNat_zero, hjo] <;> rfl) (by simp only [go_sem] <;> rfl) ?_
            refine Run.nil ?_
            refine Exec.assocS ?_
            refine Exec.reg ?_
            iterate 3 (refine Run.op (by simp only [go_sem, hln, hal, Bool.not_true, Bool.not_not, hx, pick_max, pick_min, Int.toNat_zero, hjo] <;> rfl) (by simp only [go_sem] <;> rfl) ?_)
            refine Run.nil ?_
            refine Exec.cndS (by simp only [go_sem, hln, hal, Bool.not_true, Bool.not_not, hx, pick_max, pick_min, Int.toNat_zero, hjo] <;> rfl) (fun hb113 => ?_) (fun hb113 => ?_)
            · skip
              have hn : fitL fs m = [] := List.eq_nil_of_length_eq_zero (Int.ofNat_inj.1 (by simpa using hb113))
              have hr : fitR fs m = ([], 4) := by rw [fit_is hf hm, hn]; rfl
              refine Exec.assocS ?_
              refine Exec.reg ?_
              iterate 2 (refine Run.op (by simp only [go_sem, hln, hal, Bool.not_true, Bool.not_not, hx, pick_max, pick_min, Int.toNat_zero, hjo, hr] <;> rfl) (by simp only [go_sem] <;> rfl) ?_)
              refine Run.nild 4 2 (by simp only [go_sem] <;> rfl) (by simp only [go_sem] <;> rfl) ?_
              refine Run.nil ?_
              refine Exec.retS ?_
              exact Ends.fin [] (rs := [.tmp 4, .tmp 5]) rfl (by simp only [go_sem, hln, hal, Bool.not_true, Bool.not_not, hx, pick_max, pick_min, Int.toNat_zero, hjo, hr] <;> rfl) (by simp only [go_sem, hln, hal, Bool.not_true, Bool.not_not, hx, pick_max, pick_min, Int.toNat_zero, hjo, hr] <;> first | rfl | ((repeat' (first | with_reducible_and_instances rfl | refine st_eq ?_ ?_ ?_ | refine ret_eq ?_ | refine tup_eq ?_ | refine tm_eq ?_ ?_ | refine arr_eq ?_ | refine cells_eq ?_ | refine val_eq ?_ | refine ls_eq ?_ ?_ | refine own_eq ?_ ?_ | refine sl_eq ?_ | refine b_eq ?_ | (refine i_eq ?_; omega))); done))
            · skip
              have hn : ¬ fitL fs m = [] := fun h => by rw [h] at hb113; simp at hb113
              have hr : fitR fs m = (fitL fs m, 0) := by rw [fit_is hf hm, if_neg hn]
              refine Exec.skipS ?_
              refine Exec.reg ?_
              iterate 3 (refine Run.op (by simp only [go_sem, hln, hal, Bool.not_true, Bool.not_not, hx, pick_max, pick_min, Int.toNat_zero, hjo, hr] <;> rfl) (by simp only [go_sem] <;> rfl) ?_)
              refine Run.nil ?_
              exact Ends.fin [] (rs := [.tmp 4, .tmp 5]) rfl (by simp only [go_sem, hln, hal, Bool.not_true, Bool.not_not, hx, pick_max, pick_min, Int.toNat_zero, hjo, hr] <;> rfl) (by simp only [go_sem, hln, hal, Bool.not_true, Bool.not_not, hx, pick_max, pick_min, Int.toNat_zero, hjo, hr] <;> first | rfl | ((repeat' (first | with_reducible_and_instances rfl | refine st_eq ?_ ?_ ?_ | refine ret_eq ?_ | refine tup_eq ?_ | refine tm_eq ?_ ?_ | refine arr_eq ?_ | refine cells_eq ?_ | refine val_eq ?_ | refine ls_eq ?_ ?_ | refine own_eq ?_ ?_ | refine sl_eq ?_ | refine b_eq ?_ | (refine i_eq ?_; omega))); done))
  · skip
    have hl2 : inD (fs.length : Int) 1 6 = false := by simpa using hln
    have hfg : figsB fs = false := by unfold figsB; rw [hl2, Bool.and_false]
    refine Exec.reg ?_
    iterate 2 (refine Run.op (by simp only [go_sem, hl2, Bool.not_false] <;> rfl) (by simp only [go_sem] <;> rfl) ?_)
    refine Run.cal (c_drum_within _ _ _) (by simp only [go_sem]) (by simp only [go_sem, hl2, Bool.not_false] <;> rfl) (by exact ⟨by first | exact WkR.pure rfl | exact WkR.nil _ | exact WkR.int (by first | omega | (simp; done) | (simp; omega)), by first | exact WkR.pure rfl | exact WkR.nil _ | exact WkR.int (by first | omega | (simp; done) | (simp; omega)), by first | exact WkR.pure rfl | exact WkR.nil _ | exact WkR.int (by first | omega | (simp; done) | (simp; omega)), trivial⟩) (fr0) (by simp only [go_sem, hl2, Bool.not_false] <;> rfl) ?_
    iterate 2 (refine Run.op (by simp only [go_sem, hl2, Bool.not_false] <;> rfl) (by simp only [go_sem] <;> rfl) ?_)
    refine Run.skp (by simp only [go_sem] <;> rfl) (by simp only [go_sem] <;> rfl) ?_
    refine Run.skp (by simp only [go_sem] <;> rfl) (by simp only [go_sem] <;> rfl) ?_
    iterate 2 (refine Run.op (by simp only [go_sem, hl2, Bool.not_false] <;> rfl) (by simp only [go_sem] <;> rfl) ?_)
    refine Run.nil ?_
    refine Exec.cnd (by simp only [go_sem, hl2, Bool.not_false] <;> rfl) (fun hb13 => ?_) (fun hb13 => ?_)
    · skip
      have hr : fitR fs m = ([], 1) := by unfold fitR; rw [if_pos hfg]
      refine Exec.reg ?_
      iterate 2 (refine Run.op (by simp only [go_sem, hl2, Bool.not_false, hr] <;> rfl) (by simp only [go_sem] <;> rfl) ?_)
      refine Run.nild 4 2 (by simp only [go_sem] <;> rfl) (by simp only [go_sem] <;> rfl) ?_
      refine Run.nil ?_
      refine BlkK.ret ?_
      exact Ends.fin [] (rs := [.tmp 4, .tmp 5]) rfl (by simp only [go_sem, hl2, Bool.not_false, hr] <;> rfl) (by simp only [go_sem, hl2, Bool.not_false, hr] <;> first | rfl | ((repeat' (first | with_reducible_and_instances rfl | refine st_eq ?_ ?_ ?_ | refine ret_eq ?_ | refine tup_eq ?_ | refine tm_eq ?_ ?_ | refine arr_eq ?_ | refine cells_eq ?_ | refine val_eq ?_ | refine ls_eq ?_ ?_ | refine own_eq ?_ ?_ | refine sl_eq ?_ | refine b_eq ?_ | (refine i_eq ?_; omega))); done))
    · exact absurd hb13 (by simp)

end Go.Mw
namespace Go.Mw
open Go.Proofs
open Go.Dr
attribute [local go_sem] decide_true beq_self_eq_true bne_self_eq_false
theorem len_placesR (r : Reg) (t : Int) : (placesR r t).1.length ≤ 100000 := by
  unfold placesR
  split
  · simp
  rename_i h
  split
  · simp
  · have := (reg_iff.1 (show regB r = true by simpa using h)).1
    rw [places_len]; omega
theorem len_runR (r : Reg) (l : List Int) : (runR r l).2.1.length ≤ 100000 := by
  unfold runR
  split
  · rename_i h
    have := (reg_iff.1 (err_zero h).1).1
    rw [List.length_map, places_len]; omega
  · simp
set_option maxRecDepth 20000 in
/-- meterworks/meterworkslaw02.span -/
theorem c_law_span (a b : Int) : Contract Try.prog 26 [.int a, .int b] (spanV ⟨a, b⟩) [] := by
  refine con_of follows_mixed Try.func26 rfl (by simp only [List.length_cons, List.length_nil, Try.ntmps26]; omega) (by kernel_rfl) rfl ?_
  refine Exec.reg ?_
  refine Run.op (by simp only [go_sem] <;> rfl) (by simp only [go_sem] <;> rfl) ?_
  refine Run.nil ?_
  refine Exec.reg ?_
  iterate 4 (refine Run.op (by simp only [go_sem] <;> rfl) (by simp only [go_sem] <;> rfl) ?_)
  refine Run.nil ?_
  exact Ends.fin [] (rs := [.cell 4 45]) rfl (by simp only [go_sem] <;> rfl) (by simp only [go_sem] <;> first | rfl | ((repeat' (first | with_reducible_and_instances rfl | refine st_eq ?_ ?_ ?_ | refine ret_eq ?_ | refine tup_eq ?_ | refine tm_eq ?_ ?_ | refine arr_eq ?_ | refine cells_eq ?_ | refine val_eq ?_ | refine ls_eq ?_ ?_ | refine own_eq ?_ ?_ | refine sl_eq ?_ | refine b_eq ?_ | (refine i_eq ?_; omega))); done))

theorem s_places : placesR ⟨3, 199400⟩ 209400 = ([9400, 400, 2000], 0) := by decide +kernel
theorem s_run : runR ⟨3, 199400⟩ [100] = (199500, [0, 0, 2], 0) := by decide +kernel
theorem s_fit : fitR [0, 0, 2] 600 = ([⟨199400, 200600⟩, ⟨209400, 209600⟩, ⟨299400, 299600⟩], 0) := by decide +kernel
theorem s_pulses : pulsesR ⟨1, 0⟩ [5010, -20, 20] 5000 = (1, 3, 0) := by decide +kernel
set_option maxRecDepth 20000 in
set_option maxHeartbeats 16000000 in
/-- meterworks/meterworkslaw02.awake -/
theorem c_law_awake : Contract Try.prog 9 [] (.bool true) [] := by
  refine con_of follows_mixed Try.func9 rfl (by simp only [List.length_cons, List.length_nil, Try.ntmps9]; omega) (by kernel_rfl) rfl ?_
  refine Exec.reg ?_
  refine Run.op (by simp only [go_sem, s_places, s_run, s_fit, s_pulses, decide_true] <;> rfl) (by simp only [go_sem] <;> rfl) ?_
  refine Run.nil ?_
  refine Exec.reg ?_
  iterate 3 (refine Run.op (by simp only [go_sem, s_places, s_run, s_fit, s_pulses, decide_true] <;> rfl) (by simp only [go_sem] <;> rfl) ?_)
  refine Run.nil ?_
  refine Exec.reg ?_
  refine Run.op (by simp only [go_sem, s_places, s_run, s_fit, s_pulses, decide_true] <;> rfl) (by simp only [go_sem] <;> rfl) ?_
  refine Run.cal (c_drum_Places ⟨3, 199400⟩ 209400) (by simp only [go_sem]) (by simp only [go_sem, s_places, s_run, s_fit, s_pulses, decide_true] <;> rfl) (by exact ⟨by first | exact WkR.pure rfl | exact WkR.nil _ | exact WkR.int (by first | omega | (simp; done) | (simp; omega)), by first | exact WkR.pure rfl | exact WkR.nil _ | exact WkR.int (by first | omega | (simp; done) | (simp; omega)), trivial⟩) (fr0) (by simp only [go_sem, s_places, s_run, s_fit, s_pulses, decide_true] <;> rfl) ?_
  iterate 5 (refine Run.op (by simp only [go_sem, s_places, s_run, s_fit, s_pulses, decide_true] <;> rfl) (by simp only [go_sem] <;> rfl) ?_)
  refine Run.nil ?_
  refine Exec.reg ?_
  iterate 2 (refine Run.op (by simp only [go_sem, s_places, s_run, s_fit, s_pulses, decide_true] <;> rfl) (by simp only [go_sem] <;> rfl) ?_)
  refine Run.frz 20 (by simp only [go_sem] <;> rfl) ?_
  refine Run.cal (c_drum_Run ⟨3, 199400⟩ [100] (by decide)) (by simp only [go_sem]) (by simp only [go_sem, s_places, s_run, s_fit, s_pulses, decide_true] <;> rfl) (by exact ⟨by first | exact WkR.pure rfl | exact WkR.nil _ | exact WkR.int (by first | omega | (simp; done) | (simp; omega)), by first | exact WkR.pure rfl | exact WkR.nil _ | exact WkR.int (by first | omega | (simp; done) | (simp; omega)), trivial⟩) (fr0) (by simp only [go_sem, s_places, s_run, s_fit, s_pulses, decide_true] <;> rfl) ?_
  iterate 7 (refine Run.op (by simp only [go_sem, s_places, s_run, s_fit, s_pulses, decide_true] <;> rfl) (by simp only [go_sem] <;> rfl) ?_)
  refine Run.nil ?_
  refine Exec.reg ?_
  refine Run.op (by simp only [go_sem, s_places, s_run, s_fit, s_pulses, decide_true] <;> rfl) (by simp only [go_sem] <;> rfl) ?_
  refine Run.frz 26 (by simp only [go_sem] <;> rfl) ?_
  refine Run.cal (c_drum_Fit [0, 0, 2] 600 (by decide)) (by simp only [go_sem]) (by simp only [go_sem, s_places, s_run, s_fit, s_pulses, decide_true] <;> rfl) (by exact ⟨by first | exact WkR.pure rfl | exact WkR.nil _ | exact WkR.int (by first | omega | (simp; done) | (simp; omega)), by first | exact WkR.pure rfl | exact WkR.nil _ | exact WkR.int (by first | omega | (simp; done) | (simp; omega)), trivial⟩) (fr0) (by simp only [go_sem, s_places, s_run, s_fit, s_pulses, decide_true] <;> rfl) ?_
  iterate 5 (refine Run.op (by simp only [go_sem, s_places, s_run, s_fit, s_pulses, decide_true] <;> rfl) (by simp only [go_sem] <;> rfl) ?_)
  refine Run.nil ?_
  refine Exec.reg ?_
  iterate 2 (refine Run.op (by simp only [go_sem, s_places, s_run, s_fit, s_pulses, decide_true] <;> rfl) (by simp only [go_sem] <;> rfl) ?_)
  refine Run.frz 32 (by simp only [go_sem] <;> rfl) ?_
  refine Run.cal (c_drum_Pulses ⟨1, 0⟩ [5010, -20, 20] 5000 (by decide)) (by simp only [go_sem]) (by simp only [go_sem, s_places, s_run, s_fit, s_pulses, decide_true] <;> rfl) (by exact ⟨by first | exact WkR.pure rfl | exact WkR.nil _ | exact WkR.int (by first | omega | (simp; done) | (simp; omega)), by first | exact WkR.pure rfl | exact WkR.nil _ | exact WkR.int (by first | omega | (simp; done) | (simp; omega)), by first | exact WkR.pure rfl | exact WkR.nil _ | exact WkR.int (by first | omega | (simp; done) | (simp; omega)), trivial⟩) (fr0) (by simp only [go_sem, s_places, s_run, s_fit, s_pulses, decide_true] <;> rfl) ?_
  iterate 7 (refine Run.op (by simp only [go_sem, s_places, s_run, s_fit, s_pulses, decide_true] <;> rfl) (by simp only [go_sem] <;> rfl) ?_)
  refine Run.nil ?_
  refine Exec.reg ?_
  iterate 2 (refine Run.op (by simp only [go_sem, s_places, s_run, s_fit, s_pulses, decide_true] <;> rfl) (by simp only [go_sem] <;> rfl) ?_)
  refine Run.frz 38 (by simp only [go_sem] <;> rfl) ?_
  refine Run.cal (c_meterworksref02_Ints [9400, 400, 2000] [9400, 400, 2000] (by decide) (by decide)) (by simp only [go_sem]) (by simp only [go_sem, s_places, s_run, s_fit, s_pulses, decide_true] <;> rfl) (by exact ⟨by first | exact WkR.pure rfl | exact WkR.nil _ | exact WkR.int (by first | omega | (simp; done) | (simp; omega)), by first | exact WkR.pure rfl | exact WkR.nil _ | exact WkR.int (by first | omega | (simp; done) | (simp; omega)), trivial⟩) (fr0) (by simp only [go_sem, s_places, s_run, s_fit, s_pulses, decide_true] <;> rfl) ?_
  refine Run.op (by simp only [go_sem, s_places, s_run, s_fit, s_pulses, decide_true] <;> rfl) (by simp only [go_sem] <;> rfl) ?_
  refine Run.yes (by simp only [go_sem] <;> rfl) (by simp only [go_sem, s_places, s_run, s_fit, s_pulses, decide_true] <;> rfl) (by simp only [go_sem] <;> rfl) ?_
  refine Run.yes (by simp only [go_sem] <;> rfl) (by simp only [go_sem, s_places, s_run, s_fit, s_pulses, decide_true] <;> rfl) (by simp only [go_sem] <;> rfl) ?_
  iterate 2 (refine Run.op (by simp only [go_sem, s_places, s_run, s_fit, s_pulses, decide_true] <;> rfl) (by simp only [go_sem] <;> rfl) ?_)
  refine Run.yes (by simp only [go_sem] <;> rfl) (by simp only [go_sem, s_places, s_run, s_fit, s_pulses, decide_true] <;> rfl) (by simp only [go_sem] <;> rfl) ?_
  refine Run.yes (by simp only [go_sem] <;> rfl) (by simp only [go_sem, s_places, s_run, s_fit, s_pulses, decide_true] <;> rfl) (by simp only [go_sem] <;> rfl) ?_
  iterate 2 (refine Run.op (by simp only [go_sem, s_places, s_run, s_fit, s_pulses, decide_true] <;> rfl) (by simp only [go_sem] <;> rfl) ?_)
  refine Run.yes (by simp only [go_sem] <;> rfl) (by simp only [go_sem, s_places, s_run, s_fit, s_pulses, decide_true] <;> rfl) (by simp only [go_sem] <;> rfl) ?_
  refine Run.yes (by simp only [go_sem] <;> rfl) (by simp only [go_sem, s_places, s_run, s_fit, s_pulses, decide_true] <;> rfl) (by simp only [go_sem] <;> rfl) ?_
  refine Run.frz 50 (by simp only [go_sem] <;> rfl) ?_
  refine Run.calw (by simp only [go_sem] <;> rfl) (c_meterworksref02_Ints [0, 0, 2] [0, 0, 2] (by decide) (by decide)) (by simp only [go_sem]) (by simp only [go_sem, s_places, s_run, s_fit, s_pulses, decide_true] <;> rfl) (by simp only [go_sem, s_places, s_run, s_fit, s_pulses, decide_true] <;> rfl) (by exact ⟨by first | exact WkR.pure rfl | exact WkR.nil _ | exact WkR.int (by first | omega | (simp; done) | (simp; omega)), by first | exact WkR.pure rfl | exact WkR.nil _ | exact WkR.int (by first | omega | (simp; done) | (simp; omega)), trivial⟩) (fr0) (by simp only [go_sem, s_places, s_run, s_fit, s_pulses, decide_true] <;> rfl) ?_
  iterate 2 (refine Run.op (by simp only [go_sem, s_places, s_run, s_fit, s_pulses, decide_true] <;> rfl) (by simp only [go_sem] <;> rfl) ?_)
  refine Run.yes (by simp only [go_sem] <;> rfl) (by simp only [go_sem, s_places, s_run, s_fit, s_pulses, decide_true] <;> rfl) (by simp only [go_sem] <;> rfl) ?_
  refine Run.yes (by simp only [go_sem] <;> rfl) (by simp only [go_sem, s_places, s_run, s_fit, s_pulses, decide_true] <;> rfl) (by simp only [go_sem] <;> rfl) ?_
  iterate 2 (refine Run.op (by simp only [go_sem, s_places, s_run, s_fit, s_pulses, decide_true] <;> rfl) (by simp only [go_sem] <;> rfl) ?_)
  refine Run.yes (by simp only [go_sem] <;> rfl) (by simp only [go_sem, s_places, s_run, s_fit, s_pulses, decide_true] <;> rfl) (by simp only [go_sem] <;> rfl) ?_
  refine Run.calw (by simp only [go_sem] <;> rfl) (c_law_span 199400 200600) (by simp only [go_sem]) (by simp only [go_sem, s_places, s_run, s_fit, s_pulses, decide_true] <;> rfl) (by simp only [go_sem, s_places, s_run, s_fit, s_pulses, decide_true] <;> rfl) (by exact ⟨by first | exact WkR.pure rfl | exact WkR.nil _ | exact WkR.int (by first | omega | (simp; done) | (simp; omega)), by first | exact WkR.pure rfl | exact WkR.nil _ | exact WkR.int (by first | omega | (simp; done) | (simp; omega)), trivial⟩) (fr0) (by simp only [go_sem, s_places, s_run, s_fit, s_pulses, decide_true] <;> rfl) ?_
  refine Run.calw (by simp only [go_sem] <;> rfl) (c_law_span 209400 209600) (by simp only [go_sem]) (by simp only [go_sem, s_places, s_run, s_fit, s_pulses, decide_true] <;> rfl) (by simp only [go_sem, s_places, s_run, s_fit, s_pulses, decide_true] <;> rfl) (by exact ⟨by first | exact WkR.pure rfl | exact WkR.nil _ | exact WkR.int (by first | omega | (simp; done) | (simp; omega)), by first | exact WkR.pure rfl | exact WkR.nil _ | exact WkR.int (by first | omega | (simp; done) | (simp; omega)), trivial⟩) (fr0) (by simp only [go_sem, s_places, s_run, s_fit, s_pulses, decide_true] <;> rfl) ?_
  refine Run.calw (by simp only [go_sem] <;> rfl) (c_law_span 299400 299600) (by simp only [go_sem]) (by simp only [go_sem, s_places, s_run, s_fit, s_pulses, decide_true] <;> rfl) (by simp only [go_sem, s_places, s_run, s_fit, s_pulses, decide_true] <;> rfl) (by exact ⟨by first | exact WkR.pure rfl | exact WkR.nil _ | exact WkR.int (by first | omega | (simp; done) | (simp; omega)), by first | exact WkR.pure rfl | exact WkR.nil _ | exact WkR.int (by first | omega | (simp; done) | (simp; omega)), trivial⟩) (fr0) (by simp only [go_sem, s_places, s_run, s_fit, s_pulses, decide_true] <;> rfl) ?_
  refine Run.yes (by simp only [go_sem] <;> rfl) (by simp only [go_sem, s_places, s_run, s_fit, s_pulses, decide_true] <;> rfl) (by simp only [go_sem] <;> rfl) ?_
  refine Run.frz 62 (by simp only [go_sem] <;> rfl) ?_
  refine Run.calw (by simp only [go_sem] <;> rfl) (c_meterworksref02_Spans [⟨199400, 200600⟩, ⟨209400, 209600⟩, ⟨299400, 299600⟩] [⟨199400, 200600⟩, ⟨209400, 209600⟩, ⟨299400, 299600⟩] (by decide) (by decide)) (by simp only [go_sem]) (by simp only [go_sem, s_places, s_run, s_fit, s_pulses, decide_true] <;> rfl) (by simp only [go_sem, s_places, s_run, s_fit, s_pulses, decide_true] <;> rfl) (by exact ⟨by first | exact WkR.pure rfl | exact WkR.nil _ | exact WkR.int (by first | omega | (simp; done) | (simp; omega)), by first | exact WkR.pure rfl | exact WkR.nil _ | exact WkR.int (by first | omega | (simp; done) | (simp; omega)), trivial⟩) (fr0) (by simp only [go_sem, s_places, s_run, s_fit, s_pulses, decide_true] <;> rfl) ?_
  iterate 2 (refine Run.op (by simp only [go_sem, s_places, s_run, s_fit, s_pulses, decide_true] <;> rfl) (by simp only [go_sem] <;> rfl) ?_)
  refine Run.yes (by simp only [go_sem] <;> rfl) (by simp only [go_sem, s_places, s_run, s_fit, s_pulses, decide_true] <;> rfl) (by simp only [go_sem] <;> rfl) ?_
  refine Run.yes (by simp only [go_sem] <;> rfl) (by simp only [go_sem, s_places, s_run, s_fit, s_pulses, decide_true] <;> rfl) (by simp only [go_sem] <;> rfl) ?_
  iterate 2 (refine Run.op (by simp only [go_sem, s_places, s_run, s_fit, s_pulses, decide_true] <;> rfl) (by simp only [go_sem] <;> rfl) ?_)
  refine Run.yes (by simp only [go_sem] <;> rfl) (by simp only [go_sem, s_places, s_run, s_fit, s_pulses, decide_true] <;> rfl) (by simp only [go_sem] <;> rfl) ?_
  refine Run.yes (by simp only [go_sem] <;> rfl) (by simp only [go_sem, s_places, s_run, s_fit, s_pulses, decide_true] <;> rfl) (by simp only [go_sem] <;> rfl) ?_
  iterate 2 (refine Run.op (by simp only [go_sem, s_places, s_run, s_fit, s_pulses, decide_true] <;> rfl) (by simp only [go_sem] <;> rfl) ?_)
  refine Run.yes (by simp only [go_sem] <;> rfl) (by simp only [go_sem, s_places, s_run, s_fit, s_pulses, decide_true] <;> rfl) (by simp only [go_sem] <;> rfl) ?_
  refine Run.yes (by simp only [go_sem] <;> rfl) (by simp only [go_sem, s_places, s_run, s_fit, s_pulses, decide_true] <;> rfl) (by simp only [go_sem] <;> rfl) ?_
  iterate 2 (refine Run.op (by simp only [go_sem, s_places, s_run, s_fit, s_pulses, decide_true] <;> rfl) (by simp only [go_sem] <;> rfl) ?_)
  refine Run.yes (by simp only [go_sem] <;> rfl) (by simp only [go_sem, s_places, s_run, s_fit, s_pulses, decide_true] <;> rfl) (by simp only [go_sem] <;> rfl) ?_
  refine Run.yes (by simp only [go_sem] <;> rfl) (by simp only [go_sem, s_places, s_run, s_fit, s_pulses, decide_true] <;> rfl) (by simp only [go_sem] <;> rfl) ?_
  iterate 2 (refine Run.op (by simp only [go_sem, s_places, s_run, s_fit, s_pulses, decide_true] <;> rfl) (by simp only [go_sem] <;> rfl) ?_)
  refine Run.nil ?_
  exact Ends.fin [] (rs := [.tmp 0]) rfl (by simp only [go_sem, s_places, s_run, s_fit, s_pulses, decide_true] <;> rfl) (by simp only [go_sem, s_places, s_run, s_fit, s_pulses, decide_true] <;> first | rfl | ((repeat' (first | with_reducible_and_instances rfl | refine st_eq ?_ ?_ ?_ | refine ret_eq ?_ | refine tup_eq ?_ | refine tm_eq ?_ ?_ | refine arr_eq ?_ | refine cells_eq ?_ | refine val_eq ?_ | refine ls_eq ?_ ?_ | refine own_eq ?_ ?_ | refine sl_eq ?_ | refine b_eq ?_ | (refine i_eq ?_; omega))); done))

set_option maxRecDepth 20000 in
set_option maxHeartbeats 16000000 in
/-- meterworks/meterworkslaw02.DrumRuns -/
theorem c_law_DrumRuns (r : Reg) (t : Int) (l : List Int) (at_ : Int) : Contract Try.prog 3 [regV r, .int t, .leaf (.d (intsD l)), .int at_] (.bool true) [] := by
  refine con_of follows_mixed Try.func3 rfl (by simp only [List.length_cons, List.length_nil, Try.ntmps3]; omega) (by kernel_rfl) rfl ?_
  refine Exec.reg ?_
  iterate 2 (refine Run.op (by simp only [go_sem] <;> rfl) (by simp only [go_sem] <;> rfl) ?_)
  refine Run.nil ?_
  refine Exec.assocS ?_
  refine Exec.reg ?_
  iterate 3 (refine Run.op (by simp only [go_sem] <;> rfl) (by simp only [go_sem] <;> rfl) ?_)
  refine Run.nil ?_
  refine Exec.cndS (by simp only [go_sem] <;> rfl) (fun hb27 => ?_) (fun hb27 => ?_)
  · skip
    refine Exec.assocS ?_
    refine Exec.reg ?_
    refine Run.cal (c_law_awake) (by simp only [go_sem]) (by simp only [go_sem] <;> rfl) (by exact trivial) (fr0) (by simp only [go_sem] <;> rfl) ?_
    refine Run.op (by simp only [go_sem] <;> rfl) (by simp only [go_sem] <;> rfl) ?_
    refine Run.nil ?_
    refine Exec.retS ?_
    exact Ends.fin [] (rs := [.tmp 8]) rfl (by simp only [go_sem] <;> rfl) (by simp only [go_sem] <;> first | rfl | ((repeat' (first | with_reducible_and_instances rfl | refine st_eq ?_ ?_ ?_ | refine ret_eq ?_ | refine tup_eq ?_ | refine tm_eq ?_ ?_ | refine arr_eq ?_ | refine cells_eq ?_ | refine val_eq ?_ | refine ls_eq ?_ ?_ | refine own_eq ?_ ?_ | refine sl_eq ?_ | refine b_eq ?_ | (refine i_eq ?_; omega))); done))
  · skip
    have hl : l.length ≤ 1000 := by have := of_decide_eq_false hb27; omega
    refine Exec.skipS ?_
    refine Exec.reg ?_
    iterate 2 (refine Run.op (by simp only [go_sem, decide_true, beq_self_eq_true] <;> rfl) (by simp only [go_sem] <;> rfl) ?_)
    refine Run.cal (c_drum_Places r t) (by simp only [go_sem]) (by simp only [go_sem, decide_true, beq_self_eq_true] <;> rfl) (by exact ⟨by first | exact WkR.pure rfl | exact WkR.nil _ | exact WkR.int (by first | omega | (simp; done) | (simp; omega)), by first | exact WkR.pure rfl | exact WkR.nil _ | exact WkR.int (by first | omega | (simp; done) | (simp; omega)), trivial⟩) (fr0) (by simp only [go_sem, decide_true, beq_self_eq_true] <;> rfl) ?_
    iterate 5 (refine Run.op (by simp only [go_sem, decide_true, beq_self_eq_true] <;> rfl) (by simp only [go_sem] <;> rfl) ?_)
    refine Run.nil ?_
    refine Exec.reg ?_
    iterate 2 (refine Run.op (by simp only [go_sem, decide_true, beq_self_eq_true] <;> rfl) (by simp only [go_sem] <;> rfl) ?_)
    refine Run.cal (c_meterworksref02_Places r t) (by simp only [go_sem]) (by simp only [go_sem, decide_true, beq_self_eq_true] <;> rfl) (by exact ⟨by first | exact WkR.pure rfl | exact WkR.nil _ | exact WkR.int (by first | omega | (simp; done) | (simp; omega)), by first | exact WkR.pure rfl | exact WkR.nil _ | exact WkR.int (by first | omega | (simp; done) | (simp; omega)), trivial⟩) (fr0) (by simp only [go_sem, decide_true, beq_self_eq_true] <;> rfl) ?_
    iterate 5 (refine Run.op (by simp only [go_sem, decide_true, beq_self_eq_true] <;> rfl) (by simp only [go_sem] <;> rfl) ?_)
    refine Run.nil ?_
    refine Exec.reg ?_
    iterate 2 (refine Run.op (by simp only [go_sem, decide_true, beq_self_eq_true] <;> rfl) (by simp only [go_sem] <;> rfl) ?_)
    refine Run.cal (c_drum_Run r l hl) (by simp only [go_sem]) (by simp only [go_sem, decide_true, beq_self_eq_true] <;> rfl) (by exact ⟨by first | exact WkR.pure rfl | exact WkR.nil _ | exact WkR.int (by first | omega | (simp; done) | (simp; omega)), by first | exact WkR.pure rfl | exact WkR.nil _ | exact WkR.int (by first | omega | (simp; done) | (simp; omega)), trivial⟩) (fr0) (by simp only [go_sem, decide_true, beq_self_eq_true] <;> rfl) ?_
    iterate 7 (refine Run.op (by simp only [go_sem, decide_true, beq_self_eq_true] <;> rfl) (by simp only [go_sem] <;> rfl) ?_)
    refine Run.nil ?_
    refine Exec.reg ?_
    iterate 2 (refine Run.op (by simp only [go_sem, decide_true, beq_self_eq_true] <;> rfl) (by simp only [go_sem] <;> rfl) ?_)
    refine Run.cal (c_meterworksref02_Run r l hl) (by simp only [go_sem]) (by simp only [go_sem, decide_true, beq_self_eq_true] <;> rfl) (by exact ⟨by first | exact WkR.pure rfl | exact WkR.nil _ | exact WkR.int (by first | omega | (simp; done) | (simp; omega)), by first | exact WkR.pure rfl | exact WkR.nil _ | exact WkR.int (by first | omega | (simp; done) | (simp; omega)), trivial⟩) (fr0) (by simp only [go_sem, decide_true, beq_self_eq_true] <;> rfl) ?_
    iterate 7 (refine Run.op (by simp only [go_sem, decide_true, beq_self_eq_true] <;> rfl) (by simp only [go_sem] <;> rfl) ?_)
    refine Run.nil ?_
    refine Exec.reg ?_
    iterate 3 (refine Run.op (by simp only [go_sem, decide_true, beq_self_eq_true] <;> rfl) (by simp only [go_sem] <;> rfl) ?_)
    refine Run.cal (c_drum_Pulses r l at_ hl) (by simp only [go_sem]) (by simp only [go_sem, decide_true, beq_self_eq_true] <;> rfl) (by exact ⟨by first | exact WkR.pure rfl | exact WkR.nil _ | exact WkR.int (by first | omega | (simp; done) | (simp; omega)), by first | exact WkR.pure rfl | exact WkR.nil _ | exact WkR.int (by first | omega | (simp; done) | (simp; omega)), by first | exact WkR.pure rfl | exact WkR.nil _ | exact WkR.int (by first | omega | (simp; done) | (simp; omega)), trivial⟩) (fr0) (by simp only [go_sem, decide_true, beq_self_eq_true] <;> rfl) ?_
    iterate 7 (refine Run.op (by simp only [go_sem, decide_true, beq_self_eq_true] <;> rfl) (by simp only [go_sem] <;> rfl) ?_)
    refine Run.nil ?_
    refine Exec.reg ?_
    iterate 3 (refine Run.op (by simp only [go_sem, decide_true, beq_self_eq_true] <;> rfl) (by simp only [go_sem] <;> rfl) ?_)
    refine Run.cal (c_meterworksref02_Pulses r l at_ hl) (by simp only [go_sem]) (by simp only [go_sem, decide_true, beq_self_eq_true] <;> rfl) (by exact ⟨by first | exact WkR.pure rfl | exact WkR.nil _ | exact WkR.int (by first | omega | (simp; done) | (simp; omega)), by first | exact WkR.pure rfl | exact WkR.nil _ | exact WkR.int (by first | omega | (simp; done) | (simp; omega)), by first | exact WkR.pure rfl | exact WkR.nil _ | exact WkR.int (by first | omega | (simp; done) | (simp; omega)), trivial⟩) (fr0) (by simp only [go_sem, decide_true, beq_self_eq_true] <;> rfl) ?_
    iterate 7 (refine Run.op (by simp only [go_sem, decide_true, beq_self_eq_true] <;> rfl) (by simp only [go_sem] <;> rfl) ?_)
    refine Run.nil ?_
    refine Exec.reg ?_
    iterate 2 (refine Run.op (by simp only [go_sem, decide_true, beq_self_eq_true] <;> rfl) (by simp only [go_sem] <;> rfl) ?_)
    refine Run.cal (c_meterworksref02_Ints (placesR r t).1 (placesR r t).1 (len_placesR r t) (len_placesR r t)) (by simp only [go_sem]) (by simp only [go_sem, decide_true, beq_self_eq_true] <;> rfl) (by exact ⟨by first | exact WkR.pure rfl | exact WkR.nil _ | exact WkR.int (by first | omega | (simp; done) | (simp; omega)), by first | exact WkR.pure rfl | exact WkR.nil _ | exact WkR.int (by first | omega | (simp; done) | (simp; omega)), trivial⟩) (fr0) (by simp only [go_sem, decide_true, beq_self_eq_true] <;> rfl) ?_
    refine Run.op (by simp only [go_sem, decide_true, beq_self_eq_true] <;> rfl) (by simp only [go_sem] <;> rfl) ?_
    refine Run.yes (by simp only [go_sem] <;> rfl) (by simp only [go_sem, decide_true, beq_self_eq_true] <;> rfl) (by simp only [go_sem] <;> rfl) ?_
    refine Run.yes (by simp only [go_sem] <;> rfl) (by simp only [go_sem, decide_true, beq_self_eq_true] <;> rfl) (by simp only [go_sem] <;> rfl) ?_
    refine Run.yes (by simp only [go_sem] <;> rfl) (by simp only [go_sem, decide_true, beq_self_eq_true] <;> rfl) (by simp only [go_sem] <;> rfl) ?_
    iterate 2 (refine Run.op (by simp only [go_sem, decide_true, beq_self_eq_true] <;> rfl) (by simp only [go_sem] <;> rfl) ?_)
    refine Run.yes (by simp only [go_sem] <;> rfl) (by simp only [go_sem, decide_true, beq_self_eq_true] <;> rfl) (by simp only [go_sem] <;> rfl) ?_
    refine Run.yes (by simp only [go_sem] <;> rfl) (by simp only [go_sem, decide_true, beq_self_eq_true] <;> rfl) (by simp only [go_sem] <;> rfl) ?_
    refine Run.yes (by simp only [go_sem] <;> rfl) (by simp only [go_sem, decide_true, beq_self_eq_true] <;> rfl) (by simp only [go_sem] <;> rfl) ?_
    iterate 2 (refine Run.op (by simp only [go_sem, decide_true, beq_self_eq_true] <;> rfl) (by simp only [go_sem] <;> rfl) ?_)
    refine Run.yes (by simp only [go_sem] <;> rfl) (by simp only [go_sem, decide_true, beq_self_eq_true] <;> rfl) (by simp only [go_sem] <;> rfl) ?_
    refine Run.yes (by simp only [go_sem] <;> rfl) (by simp only [go_sem, decide_true, beq_self_eq_true] <;> rfl) (by simp only [go_sem] <;> rfl) ?_
    refine Run.calw (by simp only [go_sem] <;> rfl) (c_meterworksref02_Ints (runR r l).2.1 (runR r l).2.1 (len_runR r l) (len_runR r l)) (by simp only [go_sem]) (by simp only [go_sem, decide_true, beq_self_eq_true] <;> rfl) (by simp only [go_sem, decide_true, beq_self_eq_true] <;> rfl) (by exact ⟨by first | exact WkR.pure rfl | exact WkR.nil _ | exact WkR.int (by first | omega | (simp; done) | (simp; omega)), by first | exact WkR.pure rfl | exact WkR.nil _ | exact WkR.int (by first | omega | (simp; done) | (simp; omega)), trivial⟩) (fr0) (by simp only [go_sem, decide_true, beq_self_eq_true] <;> rfl) ?_
    iterate 2 (refine Run.op (by simp only [go_sem, decide_true, beq_self_eq_true] <;> rfl) (by simp only [go_sem] <;> rfl) ?_)
    refine Run.yes (by simp only [go_sem] <;> rfl) (by simp only [go_sem, decide_true, beq_self_eq_true] <;> rfl) (by simp only [go_sem] <;> rfl) ?_
    refine Run.yes (by simp only [go_sem] <;> rfl) (by simp only [go_sem, decide_true, beq_self_eq_true] <;> rfl) (by simp only [go_sem] <;> rfl) ?_
    refine Run.yes (by simp only [go_sem] <;> rfl) (by simp only [go_sem, decide_true, beq_self_eq_true] <;> rfl) (by simp only [go_sem] <;> rfl) ?_
    iterate 2 (refine Run.op (by simp only [go_sem, decide_true, beq_self_eq_true] <;> rfl) (by simp only [go_sem] <;> rfl) ?_)
    refine Run.yes (by simp only [go_sem] <;> rfl) (by simp only [go_sem, decide_true, beq_self_eq_true] <;> rfl) (by simp only [go_sem] <;> rfl) ?_
    refine Run.yes (by simp only [go_sem] <;> rfl) (by simp only [go_sem, decide_true, beq_self_eq_true] <;> rfl) (by simp only [go_sem] <;> rfl) ?_
    refine Run.yes (by simp only [go_sem] <;> rfl) (by simp only [go_sem, decide_true, beq_self_eq_true] <;> rfl) (by simp only [go_sem] <;> rfl) ?_
    iterate 2 (refine Run.op (by simp only [go_sem, decide_true, beq_self_eq_true] <;> rfl) (by simp only [go_sem] <;> rfl) ?_)
    refine Run.yes (by simp only [go_sem] <;> rfl) (by simp only [go_sem, decide_true, beq_self_eq_true] <;> rfl) (by simp only [go_sem] <;> rfl) ?_
    refine Run.yes (by simp only [go_sem] <;> rfl) (by simp only [go_sem, decide_true, beq_self_eq_true] <;> rfl) (by simp only [go_sem] <;> rfl) ?_
    refine Run.yes (by simp only [go_sem] <;> rfl) (by simp only [go_sem, decide_true, beq_self_eq_true] <;> rfl) (by simp only [go_sem] <;> rfl) ?_
    iterate 2 (refine Run.op (by simp only [go_sem, decide_true, beq_self_eq_true] <;> rfl) (by simp only [go_sem] <;> rfl) ?_)
    refine Run.yes (by simp only [go_sem] <;> rfl) (by simp only [go_sem, decide_true, beq_self_eq_true] <;> rfl) (by simp only [go_sem] <;> rfl) ?_
    refine Run.yes (by simp only [go_sem] <;> rfl) (by simp only [go_sem, decide_true, beq_self_eq_true] <;> rfl) (by simp only [go_sem] <;> rfl) ?_
    refine Run.yes (by simp only [go_sem] <;> rfl) (by simp only [go_sem, decide_true, beq_self_eq_true] <;> rfl) (by simp only [go_sem] <;> rfl) ?_
    iterate 2 (refine Run.op (by simp only [go_sem, decide_true, beq_self_eq_true] <;> rfl) (by simp only [go_sem] <;> rfl) ?_)
    refine Run.calw (by simp only [go_sem] <;> rfl) (c_law_awake) (by simp only [go_sem]) (by simp only [go_sem, decide_true, beq_self_eq_true] <;> rfl) (by simp only [go_sem, decide_true, beq_self_eq_true] <;> rfl) (by exact trivial) (fr0) (by simp only [go_sem, decide_true, beq_self_eq_true] <;> rfl) ?_
    iterate 2 (refine Run.op (by simp only [go_sem, decide_true, beq_self_eq_true] <;> rfl) (by simp only [go_sem] <;> rfl) ?_)
    refine Run.nil ?_
    exact Ends.fin [] (rs := [.tmp 8]) rfl (by simp only [go_sem, decide_true, beq_self_eq_true] <;> rfl) (by simp only [go_sem, decide_true, beq_self_eq_true] <;> first | rfl | ((repeat' (first | with_reducible_and_instances rfl | refine st_eq ?_ ?_ ?_ | refine ret_eq ?_ | refine tup_eq ?_ | refine tm_eq ?_ ?_ | refine arr_eq ?_ | refine cells_eq ?_ | refine val_eq ?_ | refine ls_eq ?_ ?_ | refine own_eq ?_ ?_ | refine sl_eq ?_ | refine b_eq ?_ | (refine i_eq ?_; omega))); done))

end Go.Mw

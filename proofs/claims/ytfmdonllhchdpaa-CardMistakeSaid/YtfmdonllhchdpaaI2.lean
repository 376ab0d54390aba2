/- The statements about the card: mistakes. -/
import Derived.Test.YtfmdonllhchdpaaI1
import Derived.Test.YtfmdonllhchdpaaB3
set_option linter.unusedSimpArgs false
set_option linter.unusedVariables false
set_option linter.unusedSectionVars false
set_option linter.deprecated false
namespace Go.Mw
open Go.Proofs
attribute [local go_sem] decide_true beq_self_eq_true bne_self_eq_false
theorem swF_zero (w : Walk) (a : Nat) : swF w a 0 = none := rfl
theorem cpF_zero (w : Walk) (a : Nat) : cpF w a 0 = none := rfl
theorem ltF_zero (w : Walk) (a : Nat) (n : Int) : ltF w a n 0 = true := rfl
theorem swW_none (w : Walk) (a : Nat) : swW w a none = w.readings := rfl
theorem cpW_none (w : Walk) (a : Nat) : cpW w a none = w.readings := rfl
theorem any_takeM {p : Repair → Bool} {l : List Repair} {k : Nat} {x : Repair} (h : l[k]? = some x) : (l.take (k + 1)).any p = ((l.take k).any p || p x) := by
  rw [take_succ' h, List.any_append]; simp
theorem want_len (w : Walk) (k a : Nat) (d : Int) : (wantL w k a d).length ≤ w.readings.length := by
  unfold wantL
  split
  · simp; omega
  · split <;> simp
theorem sw_yes {w : Walk} {a k : Nat} (h : swF w a k = none) (hc : swC w a (a + 1 + k) = true) : swF w a (k + 1) = some (a + 1 + k) := by
  show (match swF w a k with | some b => some b | none => _) = _
  rw [h]; exact if_pos hc
theorem sw_no {w : Walk} {a k : Nat} (h : swF w a k = none) (hc : swC w a (a + 1 + k) = false) : swF w a (k + 1) = none := by
  show (match swF w a k with | some b => some b | none => _) = _
  rw [h]; exact if_neg (by rw [hc]; decide)
theorem cp_yes {w : Walk} {a k : Nat} (h : cpF w a k = none) (hc : (rd w (a - 1 - k)).house = (rd w a).house) : cpF w a (k + 1) = some (a - 1 - k) := by
  show (match cpF w a k with | some b => some b | none => _) = _
  rw [h]; exact if_pos hc
theorem cp_no {w : Walk} {a k : Nat} (h : cpF w a k = none) (hc : ¬ (rd w (a - 1 - k)).house = (rd w a).house) : cpF w a (k + 1) = none := by
  show (match cpF w a k with | some b => some b | none => _) = _
  rw [h]; exact if_neg hc
theorem lt_and (w : Walk) (a : Nat) (n : Int) (k : Nat) : ltF w a n (k + 1) = (ltF w a n k && ltC w a n (a + 1 + k)) := rfl
theorem fndB_mk (k a B x y z u : Int) : fndB k a B ⟨x, y, z, u⟩ = ((x == k && y == a) && ((x == 2 && decide (z ≤ B) && decide (B ≤ u)) || (x != 2 && z == B))) := rfl
theorem list_one {α : Type} {p : α → Bool} {l : List α} (h : l.any p = true) (hl : ¬ 1 < l.length) : ∃ y, l = [y] := by
  match l, h, hl with
  | [], h, _ => cases h
  | [y], _, _ => exact ⟨y, rfl⟩
  | _ :: _ :: _, _, hl => exact absurd (by simp) hl
set_option maxRecDepth 20000 in
set_option maxHeartbeats 64000000 in
/-- meterworks/meterworkslaw12.CardMistake -/
theorem c_law_CardMistake (rates : List Span) (by0 : List Nat) (kN wN dN : Nat) (hL : rates.length ≤ 9223372036854775807) (hl : by0.length ≤ 9223372036854775807) (hb : ∀ n ∈ by0, n ≤ 65535) (b1 : kN ≤ 255) (b2 : wN ≤ 255) (b3 : dN ≤ 255) : Contract Try.prog 7 [.leaf (.d (.sl 2 (rates.map encSpan))), .leaf (.d (.sl 1 (by0.map encU16))), .raw (.int .u8 (kN : Int)), .raw (.int .u8 (wN : Int)), .raw (.int .u8 (dN : Int))] (.bool true) [] := by
  rcases (show by0.length = 0 ∨ (by0.length ≠ 0 ∧ rates.length = 0) ∨ (by0.length ≠ 0 ∧ rates.length ≠ 0) from if h : by0.length = 0 then .inl h else if h2 : rates.length = 0 then .inr (.inl ⟨h, h2⟩) else .inr (.inr ⟨h, h2⟩)) with hz | ⟨hz, hy⟩ | ⟨hz, hy⟩
  · skip
    have g1 : ((by0.length : Int) == 0) = true := by rw [beq_iff_eq]; omega
    refine con_of follows_mixed Try.func7 rfl (by simp only [List.length_cons, List.length_nil, Try.ntmps7]; omega) (by kernel_rfl) rfl ?_
    refine Exec.reg ?_
    refine Run.op (by simp only [go_sem] <;> rfl) (by simp only [go_sem] <;> rfl) ?_
    refine Run.nil ?_
    refine Exec.assocS ?_
    refine Exec.reg ?_
    refine Run.op (by simp only [go_sem] <;> rfl) (by simp only [go_sem] <;> rfl) ?_
    iterate 3 (refine Run.op (by simp only [go_sem, g1] <;> rfl) (by simp only [go_sem] <;> rfl) ?_)
    iterate 3 (refine Run.skp (by simp only [go_sem] <;> rfl) (by simp only [go_sem] <;> rfl) ?_)
    iterate 2 (refine Run.op (by simp only [go_sem, g1] <;> rfl) (by simp only [go_sem] <;> rfl) ?_)
    iterate 3 (refine Run.skp (by simp only [go_sem] <;> rfl) (by simp only [go_sem] <;> rfl) ?_)
    refine Run.op (by simp only [go_sem, g1] <;> rfl) (by simp only [go_sem] <;> rfl) ?_
    refine Run.nil ?_
    refine Exec.cndS (by simp only [go_sem, g1] <;> rfl) (fun hb50 => ?_) (fun hb50 => ?_)
    · skip
      refine Exec.assocS ?_
      refine Exec.reg ?_
      refine Run.cal (c_law_alive) (by simp only [go_sem]) (by simp only [go_sem, g1] <;> rfl) (by exact trivial) (fr0) (by simp only [go_sem, g1] <;> rfl) ?_
      refine Run.op (by simp only [go_sem] <;> rfl) (by simp only [go_sem] <;> rfl) ?_
      refine Run.nil ?_
      refine Exec.retS ?_
      exact Ends.fin [] (rs := [.tmp 10]) rfl (by simp only [go_sem, g1] <;> rfl) (by simp only [go_sem, g1] <;> first | rfl | ((repeat' (first | with_reducible_and_instances rfl | refine st_eq ?_ ?_ ?_ | refine ret_eq ?_ | refine tup_eq ?_ | refine tm_eq ?_ ?_ | refine arr_eq ?_ | refine cells_eq ?_ | refine val_eq ?_ | refine ls_eq ?_ ?_ | refine own_eq ?_ ?_ | refine sl_eq ?_ | refine b_eq ?_ | (refine i_eq ?_; omega))); done))
    · exact absurd hb50 (by simp)
  · skip
    have g1 : ((by0.length : Int) == 0) = false := by rw [beq_eq_false_iff_ne]; omega
    have g2 : ((rates.length : Int) == 0) = true := by rw [beq_iff_eq]; omega
    refine con_of follows_mixed Try.func7 rfl (by simp only [List.length_cons, List.length_nil, Try.ntmps7]; omega) (by kernel_rfl) rfl ?_
    refine Exec.reg ?_
    refine Run.op (by simp only [go_sem] <;> rfl) (by simp only [go_sem] <;> rfl) ?_
    refine Run.nil ?_
    refine Exec.assocS ?_
    refine Exec.reg ?_
    refine Run.op (by simp only [go_sem] <;> rfl) (by simp only [go_sem] <;> rfl) ?_
    iterate 3 (refine Run.op (by simp only [go_sem, g1, g2] <;> rfl) (by simp only [go_sem] <;> rfl) ?_)
    refine Run.yes (by simp only [go_sem] <;> rfl) (by simp only [go_sem] <;> rfl) (by simp only [go_sem] <;> rfl) ?_
    iterate 2 (refine Run.yes (by simp only [go_sem] <;> rfl) (by simp only [go_sem, g1, g2] <;> rfl) (by simp only [go_sem] <;> rfl) ?_)
    iterate 2 (refine Run.op (by simp only [go_sem, g1, g2] <;> rfl) (by simp only [go_sem] <;> rfl) ?_)
    iterate 3 (refine Run.skp (by simp only [go_sem] <;> rfl) (by simp only [go_sem] <;> rfl) ?_)
    refine Run.op (by simp only [go_sem, g1, g2] <;> rfl) (by simp only [go_sem] <;> rfl) ?_
    refine Run.nil ?_
    refine Exec.cndS (by simp only [go_sem, g1, g2] <;> rfl) (fun hb50 => ?_) (fun hb50 => ?_)
    · skip
      refine Exec.assocS ?_
      refine Exec.reg ?_
      refine Run.cal (c_law_alive) (by simp only [go_sem]) (by simp only [go_sem, g1, g2] <;> rfl) (by exact trivial) (fr0) (by simp only [go_sem, g1, g2] <;> rfl) ?_
      refine Run.op (by simp only [go_sem] <;> rfl) (by simp only [go_sem] <;> rfl) ?_
      refine Run.nil ?_
      refine Exec.retS ?_
      exact Ends.fin [] (rs := [.tmp 10]) rfl (by simp only [go_sem, g1, g2] <;> rfl) (by simp only [go_sem, g1, g2] <;> first | rfl | ((repeat' (first | with_reducible_and_instances rfl | refine st_eq ?_ ?_ ?_ | refine ret_eq ?_ | refine tup_eq ?_ | refine tm_eq ?_ ?_ | refine arr_eq ?_ | refine cells_eq ?_ | refine val_eq ?_ | refine ls_eq ?_ ?_ | refine own_eq ?_ ?_ | refine sl_eq ?_ | refine b_eq ?_ | (refine i_eq ?_; omega))); done))
    · exact absurd hb50 (by simp)
  · skip
    have g1 : ((by0.length : Int) == 0) = false := by rw [beq_eq_false_iff_ne]; omega
    have g2 : ((rates.length : Int) == 0) = false := by rw [beq_eq_false_iff_ne]; omega
    refine con_of follows_mixed Try.func7 rfl (by simp only [List.length_cons, List.length_nil, Try.ntmps7]; omega) (by kernel_rfl) rfl ?_
    refine Exec.reg ?_
    refine Run.op (by simp only [go_sem] <;> rfl) (by simp only [go_sem] <;> rfl) ?_
    refine Run.nil ?_
    refine Exec.assocS ?_
    refine Exec.reg ?_
    refine Run.op (by simp only [go_sem] <;> rfl) (by simp only [go_sem] <;> rfl) ?_
    iterate 3 (refine Run.op (by simp only [go_sem, g1, g2] <;> rfl) (by simp only [go_sem] <;> rfl) ?_)
    refine Run.yes (by simp only [go_sem] <;> rfl) (by simp only [go_sem] <;> rfl) (by simp only [go_sem] <;> rfl) ?_
    iterate 2 (refine Run.yes (by simp only [go_sem] <;> rfl) (by simp only [go_sem, g1, g2] <;> rfl) (by simp only [go_sem] <;> rfl) ?_)
    iterate 2 (refine Run.op (by simp only [go_sem, g1, g2] <;> rfl) (by simp only [go_sem] <;> rfl) ?_)
    refine Run.yes (by simp only [go_sem] <;> rfl) (by simp only [go_sem] <;> rfl) (by simp only [go_sem] <;> rfl) ?_
    refine Run.calw (by simp only [go_sem] <;> rfl) (c_law_legal rates hL) (by simp only [go_sem]) (by simp only [go_sem, g1, g2] <;> rfl) (by simp only [go_sem, g1, g2] <;> rfl) (by exact ⟨by first | exact WkR.pure rfl | exact WkR.nil _ | exact WkR.int (by first | omega | (simp; done) | (simp; omega)), trivial⟩) (fr0) (by simp only [go_sem, g1, g2] <;> rfl) ?_
    refine Run.yes (by simp only [go_sem] <;> rfl) (by simp only [go_sem, g1, g2] <;> rfl) (by simp only [go_sem] <;> rfl) ?_
    refine Run.op (by simp only [go_sem, g1, g2] <;> rfl) (by simp only [go_sem] <;> rfl) ?_
    refine Run.nil ?_
    refine Exec.cndS (by simp only [go_sem, g1, g2] <;> rfl) (fun hb50 => ?_) (fun hb50 => ?_)
    · skip
      refine Exec.assocS ?_
      refine Exec.reg ?_
      refine Run.cal (c_law_alive) (by simp only [go_sem]) (by simp only [go_sem, g1, g2] <;> rfl) (by exact trivial) (fr0) (by simp only [go_sem, g1, g2] <;> rfl) ?_
      refine Run.op (by simp only [go_sem] <;> rfl) (by simp only [go_sem] <;> rfl) ?_
      refine Run.nil ?_
      refine Exec.retS ?_
      exact Ends.fin [] (rs := [.tmp 10]) rfl (by simp only [go_sem, g1, g2] <;> rfl) (by simp only [go_sem, g1, g2] <;> first | rfl | ((repeat' (first | with_reducible_and_instances rfl | refine st_eq ?_ ?_ ?_ | refine ret_eq ?_ | refine tup_eq ?_ | refine tm_eq ?_ ?_ | refine arr_eq ?_ | refine cells_eq ?_ | refine val_eq ?_ | refine ls_eq ?_ ?_ | refine own_eq ?_ ?_ | refine sl_eq ?_ | refine b_eq ?_ | (refine i_eq ?_; omega))); done))
    have hw : walkB ⟨rates, []⟩ = true := by simpa using hb50
    have hro := rates_ok hw
    have hr8 : rates.length ≤ 8 := hro.1.2
    have hal := allR_len rates by0 4
    have htr : ∀ r ∈ allR rates by0 4, TrueIn rates by0 r := all_true 4 (Nat.le_refl _)
    have hor := (all_ord rates by0 4).1
    obtain ⟨rl, hrl⟩ : ∃ l, allR rates by0 4 = l := ⟨_, rfl⟩
    rw [hrl] at hal htr hor
    have hwW : walkB (⟨rates, rl⟩ : Walk) = true := true_walk hw hal htr
    have hfW : fitsS (⟨rates, rl⟩ : Walk) = true := true_fits hw htr
    have hasc : AscW (⟨rates, rl⟩ : Walk) := ordW_asc (ordW_of (w := (⟨rates, rl⟩ : Walk)) hor)
    refine Exec.skipS ?_
    refine Exec.reg ?_
    iterate 2 (refine Run.op (by simp only [go_sem] <;> rfl) (by simp only [go_sem] <;> rfl) ?_)
    refine Run.cal (c_law_round rates by0 hro.1.2 hro.2 (by omega) hl hb) (by simp only [go_sem]) (by simp only [go_sem, g1, g2, hrl] <;> rfl) (by exact ⟨by first | exact WkR.pure rfl | exact WkR.nil _ | exact WkR.int (by first | omega | (simp; done) | (simp; omega)), by first | exact WkR.pure rfl | exact WkR.nil _ | exact WkR.int (by first | omega | (simp; done) | (simp; omega)), trivial⟩) (fr0) (by simp only [go_sem, g1, g2, hrl] <;> rfl) ?_
    refine Run.op (by simp only [go_sem] <;> rfl) (by simp only [go_sem] <;> rfl) ?_
    iterate 2 (refine Run.op (by simp only [go_sem, g1, g2, hrl] <;> rfl) (by simp only [go_sem] <;> rfl) ?_)
    iterate 3 (refine Run.op (by simp only [go_sem] <;> rfl) (by simp only [go_sem] <;> rfl) ?_)
    refine Run.nil ?_
    refine Exec.assocS ?_
    refine Exec.reg ?_
    refine Run.op (by simp only [go_sem] <;> rfl) (by simp only [go_sem] <;> rfl) ?_
    iterate 3 (refine Run.op (by simp only [go_sem, g1, g2, hrl] <;> rfl) (by simp only [go_sem] <;> rfl) ?_)
    refine Run.nil ?_
    refine Exec.cndS (by simp only [go_sem, g1, g2, hrl] <;> rfl) (fun hb61 => ?_) (fun hb61 => ?_)
    · skip
      refine Exec.assocS ?_
      refine Exec.reg ?_
      refine Run.cal (c_law_alive) (by simp only [go_sem]) (by simp only [go_sem, g1, g2, hrl] <;> rfl) (by exact trivial) (fr0) (by simp only [go_sem, g1, g2, hrl] <;> rfl) ?_
      refine Run.op (by simp only [go_sem] <;> rfl) (by simp only [go_sem] <;> rfl) ?_
      refine Run.nil ?_
      refine Exec.retS ?_
      exact Ends.fin [] (rs := [.tmp 10]) rfl (by simp only [go_sem, g1, g2, hrl] <;> rfl) (by simp only [go_sem, g1, g2, hrl] <;> first | rfl | ((repeat' (first | with_reducible_and_instances rfl | refine st_eq ?_ ?_ ?_ | refine ret_eq ?_ | refine tup_eq ?_ | refine tm_eq ?_ ?_ | refine arr_eq ?_ | refine cells_eq ?_ | refine val_eq ?_ | refine ls_eq ?_ ?_ | refine own_eq ?_ ?_ | refine sl_eq ?_ | refine b_eq ?_ | (refine i_eq ?_; omega))); done))
    have hpos : 0 < rl.length := by
      have : ¬ (rl.length : Int) = 0 := by simpa using hb61
      omega
    obtain ⟨aN, haN⟩ : ∃ aN, wN % rl.length = aN := ⟨_, rfl⟩
    obtain ⟨kd, hkN⟩ : ∃ kd, kN % 3 = kd := ⟨_, rfl⟩
    obtain ⟨dM, hdM⟩ : ∃ dM, dN % 30 = dM := ⟨_, rfl⟩
    obtain ⟨nD, hnD⟩ : ∃ nD, 1 + dM = nD := ⟨_, rfl⟩
    have ha : aN < rl.length := by rw [← haN]; exact Nat.mod_lt _ hpos
    have hk3 : kd < 3 := by rw [← hkN]; exact Nat.mod_lt _ (by omega)
    have hd30 : dM < 30 := by rw [← hdM]; exact Nat.mod_lt _ (by omega)
    have f1 : ((wN : Nat) : Int).tmod ((rl.length : Nat) : Int) = (aN : Int) := by rw [tmod_n, haN]
    have f2 : ((kN : Nat) : Int).tmod 3 = (kd : Int) := by rw [← hkN]; exact tmod_n _ 3
    have f3 : ((dN : Nat) : Int).tmod 30 = (dM : Int) := by rw [← hdM]; exact tmod_n _ 30
    have f4 : (1 : Int) + (dM : Int) = (nD : Int) := by omega
    have hzr : ¬ ((rl.length : Nat) : Int) = 0 := by omega
    have hsa : rl[aN]? = some (rd (⟨rates, rl⟩ : Walk) aN) := rd_get (w := (⟨rates, rl⟩ : Walk)) ha
    have hra : 0 ≤ (rd (⟨rates, rl⟩ : Walk) aN).house ∧ (rd (⟨rates, rl⟩ : Walk) aN).house < (rates.length : Int) ∧ 0 ≤ (rd (⟨rates, rl⟩ : Walk) aN).day ∧ (rd (⟨rates, rl⟩ : Walk) aN).day ≤ 131072 ∧ 0 ≤ (rd (⟨rates, rl⟩ : Walk) aN).shows ∧ (rd (⟨rates, rl⟩ : Walk) aN).shows ≤ 1073741824 := read_ok hwW (i := aN) ha
    have hda : (rd (⟨rates, rl⟩ : Walk) aN).day ≤ 1000 := by
      obtain ⟨i, d, _, hd, he⟩ := htr _ (rd_mem (w := (⟨rates, rl⟩ : Walk)) ha)
      rw [he]; simp only; omega
    have hwl : ∀ d, (wantL (⟨rates, rl⟩ : Walk) kd aN d).length ≤ rl.length := fun d => want_len _ _ _ _
    refine Exec.skipS ?_
    refine Exec.reg ?_
    refine Run.op (by simp only [go_sem, g1, g2, hrl, f1, f2, f3, f4, hzr, hsa] <;> rfl) (by simp only [go_sem] <;> rfl) ?_
    iterate 2 (refine Run.op (by simp only [go_sem] <;> rfl) (by simp only [go_sem] <;> rfl) ?_)
    refine Run.nil ?_
    refine Exec.reg ?_
    refine Run.op (by simp only [go_sem, g1, g2, hrl, f1, f2, f3, f4, hzr, hsa] <;> rfl) (by simp only [go_sem] <;> rfl) ?_
    refine Run.op (by simp only [go_sem] <;> rfl) (by simp only [go_sem] <;> rfl) ?_
    refine Run.op (by simp only [go_sem, g1, g2, hrl, f1, f2, f3, f4, hzr, hsa] <;> rfl) (by simp only [go_sem] <;> rfl) ?_
    refine Run.op (by simp only [go_sem, g1, g2, hrl, f1, f2, f3, f4, hzr, hsa]; (try simp (disch := omega) only [if_pos]); (try simp only [go_sem, g1, g2, hrl, f1, f2, f3, f4, hzr, hsa]) <;> first | (refine ite_run ⟨by (try simp only [List.length_append, List.length_drop, List.length_take, List.length_map, List.length_cons, List.length_nil, List.length_replicate, List.length_set, List.length_range, Nat.zero_add]); omega, by (try simp only [List.length_append, List.length_drop, List.length_take, List.length_map, List.length_cons, List.length_nil, List.length_replicate, List.length_set, List.length_range, Nat.zero_add]); omega, by repeat (first | exact al_nil | assumption | refine al_app ?_ ?_ | refine al_drop ?_ | refine al_take ?_ | exact al_map (fun _ => rfl) | exact al_rep rfl | refine al_cons rfl ?_)⟩ ?_; simp only [go_sem, g1, g2, hrl, f1, f2, f3, f4, hzr, hsa] <;> rfl) | (refine ite_run ⟨by (try simp only [List.length_append, List.length_drop, List.length_take, List.length_map, List.length_cons, List.length_nil, List.length_replicate, List.length_set, List.length_range, Nat.zero_add]); omega, by repeat (first | exact al_nil | assumption | refine al_app ?_ ?_ | refine al_drop ?_ | refine al_take ?_ | exact al_map (fun _ => rfl) | exact al_rep rfl | refine al_cons rfl ?_)⟩ ?_; simp only [go_sem, g1, g2, hrl, f1, f2, f3, f4, hzr, hsa] <;> rfl) | rfl) (by simp only [go_sem] <;> rfl) ?_
    iterate 2 (refine Run.op (by simp only [go_sem] <;> rfl) (by simp only [go_sem] <;> rfl) ?_)
    refine Run.nil ?_
    refine Exec.reg ?_
    refine Run.op (by simp only [go_sem] <;> rfl) (by simp only [go_sem] <;> rfl) ?_
    refine Run.op (by simp only [go_sem, g1, g2, hrl, f1, f2, f3, f4, hzr, hsa]; (try simp (disch := omega) only [IntWalk.i64_in, IntWalk.u64_in, if_neg, if_pos])<;> rfl) (by simp only [go_sem] <;> rfl) ?_
    refine Run.op (by simp only [go_sem] <;> rfl) (by simp only [go_sem] <;> rfl) ?_
    iterate 2 (refine Run.op (by simp only [go_sem, g1, g2, hrl, f1, f2, f3, f4, hzr, hsa] <;> rfl) (by simp only [go_sem] <;> rfl) ?_)
    refine Run.op (by simp only [go_sem, g1, g2, hrl, f1, f2, f3, f4, hzr, hsa]; (try simp (disch := omega) only [IntWalk.i64_in, IntWalk.u64_in, if_neg, if_pos])<;> rfl) (by simp only [go_sem] <;> rfl) ?_
    refine Run.op (by simp only [go_sem] <;> rfl) (by simp only [go_sem] <;> rfl) ?_
    refine Run.nil ?_
    refine Exec.reg ?_
    refine Run.op (by simp only [go_sem] <;> rfl) (by simp only [go_sem] <;> rfl) ?_
    refine Run.op (by simp only [go_sem, g1, g2, hrl, f1, f2, f3, f4, hzr, hsa] <;> rfl) (by simp only [go_sem] <;> rfl) ?_
    refine Run.op (by simp only [go_sem] <;> rfl) (by simp only [go_sem] <;> rfl) ?_
    refine Run.op (by simp only [go_sem, g1, g2, hrl, f1, f2, f3, f4, hzr, hsa]; (try simp (disch := omega) only [if_pos]); (try simp only [go_sem, g1, g2, hrl, f1, f2, f3, f4, hzr, hsa])<;> rfl) (by simp only [go_sem] <;> rfl) ?_
    refine Run.op (by simp only [go_sem] <;> rfl) (by simp only [go_sem] <;> rfl) ?_
    refine Run.nil ?_
    refine Exec.reg ?_
    refine Run.op (by simp only [go_sem] <;> rfl) (by simp only [go_sem] <;> rfl) ?_
    iterate 2 (refine Run.op (by simp only [go_sem, g1, g2, hrl, f1, f2, f3, f4, hzr, hsa]; (try simp (disch := omega) only [IntWalk.i64_in, IntWalk.u64_in, if_neg, if_pos])<;> rfl) (by simp only [go_sem] <;> rfl) ?_)
    iterate 4 (refine Run.op (by simp only [go_sem] <;> rfl) (by simp only [go_sem] <;> rfl) ?_)
    refine Run.nil ?_
    refine Exec.reg ?_
    refine Run.op (by simp only [go_sem] <;> rfl) (by simp only [go_sem] <;> rfl) ?_
    refine Run.nil ?_
    refine Exec.assocS ?_
    refine Exec.reg ?_
    refine Run.op (by simp only [go_sem] <;> rfl) (by simp only [go_sem] <;> rfl) ?_
    refine Run.op (by simp only [go_sem, g1, g2, hrl, f1, f2, f3, f4, hzr, hsa] <;> rfl) (by simp only [go_sem] <;> rfl) ?_
    refine Run.nil ?_
    refine Exec.joinA [0, 11, 13, 14, 16, 17] [11, 13, 16, 64] (fun (o : List Reading × Bool × Nat) => [.slot 17 (.bool o.2.1), .obj 16 (.cells [.d (.i ((kd : Nat) : Int)), .d (.i ((aN : Nat) : Int)), .d (.i ((o.2.2 : Nat) : Int)), .d (.i 0)]), .obj 64 (.arr 46 3 ((o.1).map encReading))]) (fun (o : List Reading × Bool × Nat) => MistP (⟨rates, rl⟩ : Walk) kd aN o.1 o.2.1 o.2.2) (fun o => by simp only [go_sem] <;> rfl) ?_ (fun o hj => ?_)
    · skip
      refine Exec.blk1 ?_
      refine Exec.reg ?_
      refine Run.op (by simp only [go_sem, g1, g2, hrl, f1, f2, f3, f4, hzr, hsa] <;> rfl) (by simp only [go_sem] <;> rfl) ?_
      refine Run.op (by simp only [go_sem] <;> rfl) (by simp only [go_sem] <;> rfl) ?_
      refine Run.nil ?_
      refine Exec.cnd (by simp only [go_sem, g1, g2, hrl, f1, f2, f3, f4, hzr, hsa] <;> rfl) (fun hb86 => ?_) (fun hb86 => ?_)
      · skip
        have hkd9 : ((kd : Nat) : Int) = 0 := by simpa using hb86
        have hkd : kd = 0 := by omega
        refine Exec.reg ?_
        refine Run.op (by simp only [go_sem] <;> rfl) (by simp only [go_sem] <;> rfl) ?_
        refine Run.op (by simp only [go_sem, g1, g2, hrl, f1, f2, f3, f4, hzr, hsa]; (try simp (disch := omega) only [IntWalk.i64_in, IntWalk.u64_in, if_neg, if_pos])<;> rfl) (by simp only [go_sem] <;> rfl) ?_
        refine Run.op (by simp only [go_sem] <;> rfl) (by simp only [go_sem] <;> rfl) ?_
        refine Run.nil ?_
        refine Exec.blk1 ?_
        refine Exec.forA [0, 11, 13, 14, 15, 16, 17, 18] [11, 13, 16, 64] (rl.length - (aN + 1)) (fun k => [.slot 18 (.int ((aN : Int) + 1 + (k : Int))), .slot 17 (.bool (swF (⟨rates, rl⟩ : Walk) aN k).isSome), .obj 16 (.cells [.d (.i ((kd : Nat) : Int)), .d (.i ((aN : Nat) : Int)), .d (.i (((swF (⟨rates, rl⟩ : Walk) aN k).getD 0 : Nat) : Int)), .d (.i 0)]), .obj 64 (.arr 46 3 ((swW (⟨rates, rl⟩ : Walk) aN (swF (⟨rates, rl⟩ : Walk) aN k)).map encReading))]) (fun _ => True) (fun k => by simp only [go_sem] <;> rfl) (by simp only [go_sem, g1, g2, hrl, f1, f2, f3, f4, hzr, hsa, Int.natCast_zero, Int.add_zero, swF_zero, Option.isSome_none, Option.getD_none, swW_none] <;> rfl) ?_ (fun k hk hX => ?_)
        · trivial
        refine Exec.assocS ?_
        by_cases hsf : (swF (⟨rates, rl⟩ : Walk) aN k).isSome = true
        · skip
          obtain ⟨bS, hbS⟩ := Option.isSome_iff_exists.1 hsf
          refine Exec.reg ?_
          iterate 2 (refine Run.op (by simp only [go_sem] <;> rfl) (by simp only [go_sem] <;> rfl) ?_)
          iterate 4 (refine Run.op (by simp only [go_sem, g1, g2, hrl, f1, f2, f3, f4, hzr, hsa, hbS, Option.isSome_some, Option.getD_some] <;> rfl) (by simp only [go_sem] <;> rfl) ?_)
          refine Run.gop (by simp only [go_sem] <;> rfl) (by simp only [go_sem] <;> rfl) (by simp only [go_sem] <;> rfl) ?_
          refine Run.gop (by simp only [go_sem] <;> rfl) (by simp only [go_sem, g1, g2, hrl, f1, f2, f3, f4, hzr, hsa, hbS, Option.isSome_some, Option.getD_some] <;> rfl) (by simp only [go_sem] <;> rfl) ?_
          refine Run.op (by simp only [go_sem, g1, g2, hrl, f1, f2, f3, f4, hzr, hsa, hbS, Option.isSome_some, Option.getD_some] <;> rfl) (by simp only [go_sem] <;> rfl) ?_
          refine Run.nil ?_
          refine Exec.cndS (by simp only [go_sem, g1, g2, hrl, f1, f2, f3, f4, hzr, hsa, hbS, Option.isSome_some, Option.getD_some] <;> rfl) (fun hb98 => ?_) (fun hb98 => ?_)
          · skip
            exact absurd hb98 (by simp)
          refine Exec.exitS ?_
          refine ForK.ext ?_
          refine Blk1K.hit ?_
          refine Blk1K.nrm ?_
          refine JoinK.nrm ((swW (⟨rates, rl⟩ : Walk) aN (some bS), true, bS)) ?_ ?_
          · exact (by rw [hkd]; exact mist_sw hwW hfW (o := some bS) (fun b h => by have h1 := swF_some (hbS.trans h); exact ⟨⟨by omega, by show b < rl.length; omega⟩, h1.2⟩))
          · exact Ghost.kp [0, 11, 13, 14, 16, 17] [11, 13, 16, 64] (by simp only [go_sem, g1, g2, hrl, f1, f2, f3, f4, hzr, hsa, hbS, Option.isSome_some, Option.getD_some]; first | ((repeat' (first | with_reducible_and_instances rfl | refine st_eq ?_ ?_ ?_ | refine ret_eq ?_ | refine tup_eq ?_ | refine tm_eq ?_ ?_ | refine arr_eq ?_ | refine cells_eq ?_ | refine val_eq ?_ | refine ls_eq ?_ ?_ | refine own_eq ?_ ?_ | refine sl_eq ?_ | refine b_eq ?_ | (refine i_eq ?_; omega))); done) | rfl)
        have hsn : swF (⟨rates, rl⟩ : Walk) aN k = none := by simpa using hsf
        simp only [hsn, Option.isSome_none, Option.getD_none, swW_none]
        refine Exec.reg ?_
        iterate 2 (refine Run.op (by simp only [go_sem] <;> rfl) (by simp only [go_sem] <;> rfl) ?_)
        iterate 4 (refine Run.op (by simp only [go_sem, g1, g2, hrl, f1, f2, f3, f4, hzr, hsa, hsn, Option.isSome_none, Option.getD_none, swW_none] <;> rfl) (by simp only [go_sem] <;> rfl) ?_)
        refine Run.gop (by simp only [go_sem] <;> rfl) (by simp only [go_sem] <;> rfl) (by simp only [go_sem] <;> rfl) ?_
        refine Run.gop (by simp only [go_sem] <;> rfl) (by simp only [go_sem, g1, g2, hrl, f1, f2, f3, f4, hzr, hsa, hsn, Option.isSome_none, Option.getD_none, swW_none] <;> rfl) (by simp only [go_sem] <;> rfl) ?_
        refine Run.op (by simp only [go_sem, g1, g2, hrl, f1, f2, f3, f4, hzr, hsa, hsn, Option.isSome_none, Option.getD_none, swW_none] <;> rfl) (by simp only [go_sem] <;> rfl) ?_
        refine Run.nil ?_
        refine Exec.cndS (by simp only [go_sem, g1, g2, hrl, f1, f2, f3, f4, hzr, hsa, hsn, Option.isSome_none, Option.getD_none, swW_none] <;> rfl) (fun hb98 => ?_) (fun hb98 => ?_)
        · skip
          have hlt : aN + 1 + k < rl.length := by
            have h0 : (aN : Int) + 1 + (k : Int) < (rl.length : Int) := by simpa using hb98
            omega
          have hsb : rl[aN + 1 + k]? = some (rd (⟨rates, rl⟩ : Walk) (aN + 1 + k)) := rd_get (w := (⟨rates, rl⟩ : Walk)) hlt
          have hrb := read_ok hwW (i := aN + 1 + k) hlt
          have t1 : ((aN : Int) + 1 + (k : Int)).toNat = aN + 1 + k := by omega
          have hne : aN ≠ aN + 1 + k := by omega
          refine Exec.skipS ?_
          refine Exec.blk ?_
          refine Exec.reg ?_
          iterate 3 (refine Run.op (by simp only [go_sem, g1, g2, hrl, f1, f2, f3, f4, hzr, hsa, hsn, Option.isSome_none, Option.getD_none, swW_none, t1, hsb, List.getElem?_set_ne hne] <;> rfl) (by simp only [go_sem] <;> rfl) ?_)
          refine Run.op (by simp only [go_sem, g1, g2, hrl, f1, f2, f3, f4, hzr, hsa, hsn, Option.isSome_none, Option.getD_none, swW_none, t1, hsb, List.getElem?_set_ne hne]; (try simp (disch := omega) only [if_pos]); (try simp only [go_sem, g1, g2, hrl, f1, f2, f3, f4, hzr, hsa, hsn, Option.isSome_none, Option.getD_none, swW_none, t1, hsb, List.getElem?_set_ne hne])<;> rfl) (by simp only [go_sem] <;> rfl) ?_
          refine Run.op (by simp only [go_sem, g1, g2, hrl, f1, f2, f3, f4, hzr, hsa, hsn, Option.isSome_none, Option.getD_none, swW_none, t1, hsb, List.getElem?_set_ne hne] <;> rfl) (by simp only [go_sem] <;> rfl) ?_
          refine Run.nil ?_
          by_cases hdy : (rd (⟨rates, rl⟩ : Walk) (aN + 1 + k)).day = (rd (⟨rates, rl⟩ : Walk) aN).day
          · skip
            have g8 : ((rd (⟨rates, rl⟩ : Walk) (aN + 1 + k)).day == (rd (⟨rates, rl⟩ : Walk) aN).day) = true := by simpa using hdy
            refine Exec.opk 23 ?_
            iterate 10 (refine OpenK.op (by simp only [go_sem, g1, g2, hrl, f1, f2, f3, f4, hzr, hsa, hsn, Option.isSome_none, Option.getD_none, swW_none, t1, hsb, List.getElem?_set_ne hne, g8] <;> rfl) (by simp only [go_sem] <;> rfl) (by simp only [go_sem] <;> rfl) ?_)
            iterate 8 (refine OpenK.yes (by simp only [go_sem] <;> rfl) (by simp only [go_sem, g1, g2, hrl, f1, f2, f3, f4, hzr, hsa, hsn, Option.isSome_none, Option.getD_none, swW_none, t1, hsb, List.getElem?_set_ne hne, g8] <;> rfl) (by simp only [go_sem] <;> rfl) (by simp only [go_sem] <;> rfl) ?_)
            refine OpenK.yes (by simp only [go_sem] <;> rfl) (by simp only [go_sem, g1, g2, hrl, f1, f2, f3, f4, hzr, hsa, hsn, Option.isSome_none, Option.getD_none, swW_none, t1, hsb, List.getElem?_set_ne hne, g8]; (try simp (disch := omega) only [IntWalk.i64_in, IntWalk.u64_in, if_neg, if_pos])<;> rfl) (by simp only [go_sem] <;> rfl) (by simp only [go_sem] <;> rfl) ?_
            refine OpenK.yes (by simp only [go_sem] <;> rfl) (by simp only [go_sem, g1, g2, hrl, f1, f2, f3, f4, hzr, hsa, hsn, Option.isSome_none, Option.getD_none, swW_none, t1, hsb, List.getElem?_set_ne hne, g8] <;> rfl) (by simp only [go_sem] <;> rfl) (by simp only [go_sem] <;> rfl) ?_
            refine OpenK.op (by simp only [go_sem, g1, g2, hrl, f1, f2, f3, f4, hzr, hsa, hsn, Option.isSome_none, Option.getD_none, swW_none, t1, hsb, List.getElem?_set_ne hne, g8] <;> rfl) (by simp only [go_sem] <;> rfl) (by simp only [go_sem] <;> rfl) ?_
            refine OpenK.nil (OpenE.finT (by kernel_rfl) (by kernel_rfl) (by kernel_rfl) ?_)
            refine Exec.cnd (by simp only [go_sem, g1, g2, hrl, f1, f2, f3, f4, hzr, hsa, hsn, Option.isSome_none, Option.getD_none, swW_none, t1, hsb, List.getElem?_set_ne hne, g8] <;> rfl) (fun hb125 => ?_) (fun hb125 => ?_)
            · skip
              have hcE : (rd (⟨rates, rl⟩ : Walk) (aN + 1 + k)).house = (rd (⟨rates, rl⟩ : Walk) aN).house + 1 := by simpa using hb125
              have e := sw_yes hsn (by unfold swC; rw [g8, hcE]; simp)
              refine Exec.opk 18 ?_
              iterate 16 (refine OpenK.op (by simp only [go_sem, g1, g2, hrl, f1, f2, f3, f4, hzr, hsa, hsn, Option.isSome_none, Option.getD_none, swW_none, t1, hsb, List.getElem?_set_ne hne, g8, e, Option.isSome_some, Option.getD_some] <;> rfl) (by simp only [go_sem] <;> rfl) (by simp only [go_sem] <;> rfl) ?_)
              refine OpenK.nil (OpenE.fin (by decide +kernel) (by decide +kernel) ?_)
              refine Exec.reg1 ?_
              iterate 4 (refine Run.op (by simp only [go_sem, g1, g2, hrl, f1, f2, f3, f4, hzr, hsa, hsn, Option.isSome_none, Option.getD_none, swW_none, t1, hsb, List.getElem?_set_ne hne, g8, e, Option.isSome_some, Option.getD_some] <;> rfl) (by simp only [go_sem] <;> rfl) ?_)
              refine Run.nil ?_
              refine BlkK.nrm ?_
              refine Exec.reg1 ?_
              refine Run.op (by simp only [go_sem] <;> rfl) (by simp only [go_sem] <;> rfl) ?_
              refine Run.op (by simp only [go_sem, g1, g2, hrl, f1, f2, f3, f4, hzr, hsa, hsn, Option.isSome_none, Option.getD_none, swW_none, t1, hsb, List.getElem?_set_ne hne, g8, e, Option.isSome_some, Option.getD_some]; (try simp (disch := omega) only [IntWalk.i64_in, IntWalk.u64_in, if_neg, if_pos])<;> rfl) (by simp only [go_sem] <;> rfl) ?_
              refine Run.op (by simp only [go_sem] <;> rfl) (by simp only [go_sem] <;> rfl) ?_
              refine Run.nil ?_
              refine ForK.nxt ?_ ?_ ?_
              · omega
              · exact Ghost.kp [0, 11, 13, 14, 15, 16, 17, 18] [11, 13, 16, 64] (by simp only [go_sem, g1, g2, hrl, f1, f2, f3, f4, hzr, hsa, hsn, Option.isSome_none, Option.getD_none, swW_none, t1, hsb, List.getElem?_set_ne hne, g8, e, Option.isSome_some, Option.getD_some]; first | ((repeat' (first | with_reducible_and_instances rfl | refine st_eq ?_ ?_ ?_ | refine ret_eq ?_ | refine tup_eq ?_ | refine tm_eq ?_ ?_ | refine arr_eq ?_ | refine cells_eq ?_ | refine val_eq ?_ | refine ls_eq ?_ ?_ | refine own_eq ?_ ?_ | refine sl_eq ?_ | refine b_eq ?_ | (refine i_eq ?_; omega))); (all_goals (first | omega | (simp [swW, cpW, encReading, List.map_set]; try omega)))) | rfl)
              · trivial
            have hcE : ¬ (rd (⟨rates, rl⟩ : Walk) (aN + 1 + k)).house = (rd (⟨rates, rl⟩ : Walk) aN).house + 1 := by simpa using hb125
            have e := sw_no hsn (by unfold swC; rw [g8]; simpa using hcE)
            refine BlkK.nrm ?_
            refine Exec.reg1 ?_
            refine Run.op (by simp only [go_sem] <;> rfl) (by simp only [go_sem] <;> rfl) ?_
            refine Run.op (by simp only [go_sem, g1, g2, hrl, f1, f2, f3, f4, hzr, hsa, hsn, Option.isSome_none, Option.getD_none, swW_none, t1, hsb, List.getElem?_set_ne hne, g8, e]; (try simp (disch := omega) only [IntWalk.i64_in, IntWalk.u64_in, if_neg, if_pos])<;> rfl) (by simp only [go_sem] <;> rfl) ?_
            refine Run.op (by simp only [go_sem] <;> rfl) (by simp only [go_sem] <;> rfl) ?_
            refine Run.nil ?_
            refine ForK.nxt ?_ ?_ ?_
            · omega
            · exact Ghost.kp [0, 11, 13, 14, 15, 16, 17, 18] [11, 13, 16, 64] (by simp only [go_sem, g1, g2, hrl, f1, f2, f3, f4, hzr, hsa, hsn, Option.isSome_none, Option.getD_none, swW_none, t1, hsb, List.getElem?_set_ne hne, g8, e]; first | ((repeat' (first | with_reducible_and_instances rfl | refine st_eq ?_ ?_ ?_ | refine ret_eq ?_ | refine tup_eq ?_ | refine tm_eq ?_ ?_ | refine arr_eq ?_ | refine cells_eq ?_ | refine val_eq ?_ | refine ls_eq ?_ ?_ | refine own_eq ?_ ?_ | refine sl_eq ?_ | refine b_eq ?_ | (refine i_eq ?_; omega))); (all_goals (first | omega | (simp [swW, cpW, encReading, List.map_set]; try omega)))) | rfl)
            · trivial
          have g8 : ((rd (⟨rates, rl⟩ : Walk) (aN + 1 + k)).day == (rd (⟨rates, rl⟩ : Walk) aN).day) = false := by simpa using hdy
          refine Exec.opk 23 ?_
          iterate 10 (refine OpenK.op (by simp only [go_sem, g1, g2, hrl, f1, f2, f3, f4, hzr, hsa, hsn, Option.isSome_none, Option.getD_none, swW_none, t1, hsb, List.getElem?_set_ne hne, g8] <;> rfl) (by simp only [go_sem] <;> rfl) (by simp only [go_sem] <;> rfl) ?_)
          iterate 10 (refine OpenK.skp (by simp only [go_sem] <;> rfl) (by simp only [go_sem] <;> rfl) (by simp only [go_sem] <;> rfl) ?_)
          refine OpenK.op (by simp only [go_sem, g1, g2, hrl, f1, f2, f3, f4, hzr, hsa, hsn, Option.isSome_none, Option.getD_none, swW_none, t1, hsb, List.getElem?_set_ne hne, g8] <;> rfl) (by simp only [go_sem] <;> rfl) (by simp only [go_sem] <;> rfl) ?_
          refine OpenK.nil (OpenE.finT (by kernel_rfl) (by kernel_rfl) (by kernel_rfl) ?_)
          refine Exec.cnd (by simp only [go_sem, g1, g2, hrl, f1, f2, f3, f4, hzr, hsa, hsn, Option.isSome_none, Option.getD_none, swW_none, t1, hsb, List.getElem?_set_ne hne, g8] <;> rfl) (fun hb125 => ?_) (fun hb125 => ?_)
          · exact absurd hb125 (by simp)
          have e := sw_no hsn (by unfold swC; rw [g8, Bool.false_and])
          refine BlkK.nrm ?_
          refine Exec.reg1 ?_
          refine Run.op (by simp only [go_sem] <;> rfl) (by simp only [go_sem] <;> rfl) ?_
          refine Run.op (by simp only [go_sem, g1, g2, hrl, f1, f2, f3, f4, hzr, hsa, hsn, Option.isSome_none, Option.getD_none, swW_none, t1, hsb, List.getElem?_set_ne hne, g8, e]; (try simp (disch := omega) only [IntWalk.i64_in, IntWalk.u64_in, if_neg, if_pos])<;> rfl) (by simp only [go_sem] <;> rfl) ?_
          refine Run.op (by simp only [go_sem] <;> rfl) (by simp only [go_sem] <;> rfl) ?_
          refine Run.nil ?_
          refine ForK.nxt ?_ ?_ ?_
          · omega
          · exact Ghost.kp [0, 11, 13, 14, 15, 16, 17, 18] [11, 13, 16, 64] (by simp only [go_sem, g1, g2, hrl, f1, f2, f3, f4, hzr, hsa, hsn, Option.isSome_none, Option.getD_none, swW_none, t1, hsb, List.getElem?_set_ne hne, g8, e]; first | ((repeat' (first | with_reducible_and_instances rfl | refine st_eq ?_ ?_ ?_ | refine ret_eq ?_ | refine tup_eq ?_ | refine tm_eq ?_ ?_ | refine arr_eq ?_ | refine cells_eq ?_ | refine val_eq ?_ | refine ls_eq ?_ ?_ | refine own_eq ?_ ?_ | refine sl_eq ?_ | refine b_eq ?_ | (refine i_eq ?_; omega))); (all_goals (first | omega | (simp [swW, cpW, encReading, List.map_set]; try omega)))) | rfl)
          · trivial
        refine Exec.exitS ?_
        refine ForK.ext ?_
        refine Blk1K.hit ?_
        refine Blk1K.nrm ?_
        refine JoinK.nrm ((rl, false, 0)) ?_ ?_
        · exact (by rw [hkd]; exact mist_sw hwW hfW (o := none) (fun b h => by cases h))
        · exact Ghost.kp [0, 11, 13, 14, 16, 17] [11, 13, 16, 64] (by simp only [go_sem, g1, g2, hrl, f1, f2, f3, f4, hzr, hsa, hsn, Option.isSome_none, Option.getD_none, swW_none]; first | ((repeat' (first | with_reducible_and_instances rfl | refine st_eq ?_ ?_ ?_ | refine ret_eq ?_ | refine tup_eq ?_ | refine tm_eq ?_ ?_ | refine arr_eq ?_ | refine cells_eq ?_ | refine val_eq ?_ | refine ls_eq ?_ ?_ | refine own_eq ?_ ?_ | refine sl_eq ?_ | refine b_eq ?_ | (refine i_eq ?_; omega))); done) | rfl)
      have hkd0 : ¬ kd = 0 := fun e => by subst e; simp at hb86
      refine Exec.reg ?_
      refine Run.op (by simp only [go_sem, g1, g2, hrl, f1, f2, f3, f4, hzr, hsa] <;> rfl) (by simp only [go_sem] <;> rfl) ?_
      refine Run.op (by simp only [go_sem] <;> rfl) (by simp only [go_sem] <;> rfl) ?_
      refine Run.nil ?_
      refine Exec.cnd (by simp only [go_sem, g1, g2, hrl, f1, f2, f3, f4, hzr, hsa] <;> rfl) (fun hb142 => ?_) (fun hb142 => ?_)
      · skip
        have hkd9 : ((kd : Nat) : Int) = 1 := by simpa using hb142
        have hkd : kd = 1 := by omega
        refine Exec.reg ?_
        refine Run.op (by simp only [go_sem] <;> rfl) (by simp only [go_sem] <;> rfl) ?_
        refine Run.op (by simp only [go_sem, g1, g2, hrl, f1, f2, f3, f4, hzr, hsa]; (try simp (disch := omega) only [IntWalk.i64_in, IntWalk.u64_in, if_neg, if_pos])<;> rfl) (by simp only [go_sem] <;> rfl) ?_
        refine Run.op (by simp only [go_sem] <;> rfl) (by simp only [go_sem] <;> rfl) ?_
        refine Run.nil ?_
        refine Exec.blk1 ?_
        refine Exec.forA [0, 11, 13, 14, 15, 16, 17, 20] [11, 13, 16, 64] (aN) (fun k => [.slot 20 (.int ((aN : Int) - 1 - (k : Int))), .slot 17 (.bool (cpF (⟨rates, rl⟩ : Walk) aN k).isSome), .obj 64 (.arr 46 3 ((cpW (⟨rates, rl⟩ : Walk) aN (cpF (⟨rates, rl⟩ : Walk) aN k)).map encReading))]) (fun _ => True) (fun k => by simp only [go_sem] <;> rfl) (by simp only [go_sem, g1, g2, hrl, f1, f2, f3, f4, hzr, hsa, Int.natCast_zero, Int.sub_zero, cpF_zero, Option.isSome_none, cpW_none] <;> rfl) ?_ (fun k hk hX => ?_)
        · trivial
        refine Exec.assocS ?_
        by_cases hsf : (cpF (⟨rates, rl⟩ : Walk) aN k).isSome = true
        · skip
          obtain ⟨bS, hbS⟩ := Option.isSome_iff_exists.1 hsf
          refine Exec.reg ?_
          refine Run.op (by simp only [go_sem] <;> rfl) (by simp only [go_sem] <;> rfl) ?_
          iterate 2 (refine Run.op (by simp only [go_sem, g1, g2, hrl, f1, f2, f3, f4, hzr, hsa, hbS, Option.isSome_some] <;> rfl) (by simp only [go_sem] <;> rfl) ?_)
          refine Run.gop (by simp only [go_sem] <;> rfl) (by simp only [go_sem] <;> rfl) (by simp only [go_sem] <;> rfl) ?_
          refine Run.gop (by simp only [go_sem] <;> rfl) (by simp only [go_sem, g1, g2, hrl, f1, f2, f3, f4, hzr, hsa, hbS, Option.isSome_some] <;> rfl) (by simp only [go_sem] <;> rfl) ?_
          refine Run.op (by simp only [go_sem, g1, g2, hrl, f1, f2, f3, f4, hzr, hsa, hbS, Option.isSome_some] <;> rfl) (by simp only [go_sem] <;> rfl) ?_
          refine Run.nil ?_
          refine Exec.cndS (by simp only [go_sem, g1, g2, hrl, f1, f2, f3, f4, hzr, hsa, hbS, Option.isSome_some] <;> rfl) (fun hb151 => ?_) (fun hb151 => ?_)
          · skip
            exact absurd hb151 (by simp)
          refine Exec.exitS ?_
          refine ForK.ext ?_
          refine Blk1K.hit ?_
          refine Blk1K.nrm ?_
          refine JoinK.nrm ((cpW (⟨rates, rl⟩ : Walk) aN (some bS), true, 0)) ?_ ?_
          · exact (by rw [hkd]; exact mist_cp hwW hfW hasc ha (o := some bS) (fun b h => cpF_some hk (hbS.trans h)))
          · exact Ghost.kp [0, 11, 13, 14, 16, 17] [11, 13, 16, 64] (by simp only [go_sem, g1, g2, hrl, f1, f2, f3, f4, hzr, hsa, hbS, Option.isSome_some]; first | ((repeat' (first | with_reducible_and_instances rfl | refine st_eq ?_ ?_ ?_ | refine ret_eq ?_ | refine tup_eq ?_ | refine tm_eq ?_ ?_ | refine arr_eq ?_ | refine cells_eq ?_ | refine val_eq ?_ | refine ls_eq ?_ ?_ | refine own_eq ?_ ?_ | refine sl_eq ?_ | refine b_eq ?_ | (refine i_eq ?_; omega))); done) | rfl)
        have hsn : cpF (⟨rates, rl⟩ : Walk) aN k = none := by simpa using hsf
        simp only [hsn, Option.isSome_none, cpW_none]
        refine Exec.reg ?_
        refine Run.op (by simp only [go_sem] <;> rfl) (by simp only [go_sem] <;> rfl) ?_
        iterate 2 (refine Run.op (by simp only [go_sem, g1, g2, hrl, f1, f2, f3, f4, hzr, hsa, hsn, Option.isSome_none, cpW_none] <;> rfl) (by simp only [go_sem] <;> rfl) ?_)
        refine Run.gop (by simp only [go_sem] <;> rfl) (by simp only [go_sem] <;> rfl) (by simp only [go_sem] <;> rfl) ?_
        refine Run.gop (by simp only [go_sem] <;> rfl) (by simp only [go_sem, g1, g2, hrl, f1, f2, f3, f4, hzr, hsa, hsn, Option.isSome_none, cpW_none] <;> rfl) (by simp only [go_sem] <;> rfl) ?_
        refine Run.op (by simp only [go_sem, g1, g2, hrl, f1, f2, f3, f4, hzr, hsa, hsn, Option.isSome_none, cpW_none] <;> rfl) (by simp only [go_sem] <;> rfl) ?_
        refine Run.nil ?_
        refine Exec.cndS (by simp only [go_sem, g1, g2, hrl, f1, f2, f3, f4, hzr, hsa, hsn, Option.isSome_none, cpW_none] <;> rfl) (fun hb151 => ?_) (fun hb151 => ?_)
        · skip
          have hlt : k < aN := by
            have h0 : (aN : Int) - 1 - (k : Int) ≥ 0 := by simpa using hb151
            omega
          have hsb : rl[aN - 1 - k]? = some (rd (⟨rates, rl⟩ : Walk) (aN - 1 - k)) := rd_get (w := (⟨rates, rl⟩ : Walk)) (by show _ < rl.length; omega)
          have hrb := read_ok hwW (i := aN - 1 - k) (by show _ < rl.length; omega)
          have t1 : ((aN : Int) - 1 - (k : Int)).toNat = aN - 1 - k := by omega
          refine Exec.skipS ?_
          refine Exec.blk ?_
          refine Exec.opk 13 ?_
          iterate 3 (refine OpenK.op (by simp only [go_sem, g1, g2, hrl, f1, f2, f3, f4, hzr, hsa, hsn, Option.isSome_none, cpW_none, t1, hsb] <;> rfl) (by simp only [go_sem] <;> rfl) (by simp only [go_sem] <;> rfl) ?_)
          refine OpenK.op (by simp only [go_sem, g1, g2, hrl, f1, f2, f3, f4, hzr, hsa, hsn, Option.isSome_none, cpW_none, t1, hsb]; (try simp (disch := omega) only [if_pos]); (try simp only [go_sem, g1, g2, hrl, f1, f2, f3, f4, hzr, hsa, hsn, Option.isSome_none, cpW_none, t1, hsb])<;> rfl) (by simp only [go_sem] <;> rfl) (by simp only [go_sem] <;> rfl) ?_
          iterate 7 (refine OpenK.op (by simp only [go_sem, g1, g2, hrl, f1, f2, f3, f4, hzr, hsa, hsn, Option.isSome_none, cpW_none, t1, hsb] <;> rfl) (by simp only [go_sem] <;> rfl) (by simp only [go_sem] <;> rfl) ?_)
          refine OpenK.nil (OpenE.fin (by decide +kernel) (by decide +kernel) ?_)
          refine Exec.cnd (by simp only [go_sem, g1, g2, hrl, f1, f2, f3, f4, hzr, hsa, hsn, Option.isSome_none, cpW_none, t1, hsb] <;> rfl) (fun hb164 => ?_) (fun hb164 => ?_)
          · skip
            have hcE : (rd (⟨rates, rl⟩ : Walk) (aN - 1 - k)).house = (rd (⟨rates, rl⟩ : Walk) aN).house := by simpa using hb164
            have e := cp_yes hsn hcE
            refine Exec.reg1 ?_
            iterate 4 (refine Run.op (by simp only [go_sem, g1, g2, hrl, f1, f2, f3, f4, hzr, hsa, hsn, Option.isSome_none, cpW_none, t1, hsb, e, Option.isSome_some] <;> rfl) (by simp only [go_sem] <;> rfl) ?_)
            refine Run.op (by simp only [go_sem, g1, g2, hrl, f1, f2, f3, f4, hzr, hsa, hsn, Option.isSome_none, cpW_none, t1, hsb, e, Option.isSome_some]; (try simp (disch := omega) only [if_pos]); (try simp only [go_sem, g1, g2, hrl, f1, f2, f3, f4, hzr, hsa, hsn, Option.isSome_none, cpW_none, t1, hsb, e, Option.isSome_some])<;> rfl) (by simp only [go_sem] <;> rfl) ?_
            iterate 6 (refine Run.op (by simp only [go_sem, g1, g2, hrl, f1, f2, f3, f4, hzr, hsa, hsn, Option.isSome_none, cpW_none, t1, hsb, e, Option.isSome_some] <;> rfl) (by simp only [go_sem] <;> rfl) ?_)
            refine Run.nil ?_
            refine BlkK.nrm ?_
            refine Exec.reg1 ?_
            refine Run.op (by simp only [go_sem] <;> rfl) (by simp only [go_sem] <;> rfl) ?_
            refine Run.op (by simp only [go_sem, g1, g2, hrl, f1, f2, f3, f4, hzr, hsa, hsn, Option.isSome_none, cpW_none, t1, hsb, e, Option.isSome_some]; (try simp (disch := omega) only [IntWalk.i64_in, IntWalk.u64_in, if_neg, if_pos])<;> rfl) (by simp only [go_sem] <;> rfl) ?_
            refine Run.op (by simp only [go_sem] <;> rfl) (by simp only [go_sem] <;> rfl) ?_
            refine Run.nil ?_
            refine ForK.nxt ?_ ?_ ?_
            · omega
            · exact Ghost.kp [0, 11, 13, 14, 15, 16, 17, 20] [11, 13, 16, 64] (by simp only [go_sem, g1, g2, hrl, f1, f2, f3, f4, hzr, hsa, hsn, Option.isSome_none, cpW_none, t1, hsb, e, Option.isSome_some]; first | ((repeat' (first | with_reducible_and_instances rfl | refine st_eq ?_ ?_ ?_ | refine ret_eq ?_ | refine tup_eq ?_ | refine tm_eq ?_ ?_ | refine arr_eq ?_ | refine cells_eq ?_ | refine val_eq ?_ | refine ls_eq ?_ ?_ | refine own_eq ?_ ?_ | refine sl_eq ?_ | refine b_eq ?_ | (refine i_eq ?_; omega))); (all_goals (first | omega | (simp [swW, cpW, encReading, List.map_set]; try omega)))) | rfl)
            · trivial
          have hcE : ¬ (rd (⟨rates, rl⟩ : Walk) (aN - 1 - k)).house = (rd (⟨rates, rl⟩ : Walk) aN).house := by simpa using hb164
          have e := cp_no hsn hcE
          refine BlkK.nrm ?_
          refine Exec.reg1 ?_
          refine Run.op (by simp only [go_sem] <;> rfl) (by simp only [go_sem] <;> rfl) ?_
          refine Run.op (by simp only [go_sem, g1, g2, hrl, f1, f2, f3, f4, hzr, hsa, hsn, Option.isSome_none, cpW_none, t1, hsb, e]; (try simp (disch := omega) only [IntWalk.i64_in, IntWalk.u64_in, if_neg, if_pos])<;> rfl) (by simp only [go_sem] <;> rfl) ?_
          refine Run.op (by simp only [go_sem] <;> rfl) (by simp only [go_sem] <;> rfl) ?_
          refine Run.nil ?_
          refine ForK.nxt ?_ ?_ ?_
          · omega
          · exact Ghost.kp [0, 11, 13, 14, 15, 16, 17, 20] [11, 13, 16, 64] (by simp only [go_sem, g1, g2, hrl, f1, f2, f3, f4, hzr, hsa, hsn, Option.isSome_none, cpW_none, t1, hsb, e]; first | ((repeat' (first | with_reducible_and_instances rfl | refine st_eq ?_ ?_ ?_ | refine ret_eq ?_ | refine tup_eq ?_ | refine tm_eq ?_ ?_ | refine arr_eq ?_ | refine cells_eq ?_ | refine val_eq ?_ | refine ls_eq ?_ ?_ | refine own_eq ?_ ?_ | refine sl_eq ?_ | refine b_eq ?_ | (refine i_eq ?_; omega))); (all_goals (first | omega | (simp [swW, cpW, encReading, List.map_set]; try omega)))) | rfl)
          · trivial
        refine Exec.exitS ?_
        refine ForK.ext ?_
        refine Blk1K.hit ?_
        refine Blk1K.nrm ?_
        refine JoinK.nrm ((rl, false, 0)) ?_ ?_
        · exact (by rw [hkd]; exact mist_cp hwW hfW hasc ha (o := none) (fun b h => by cases h))
        · exact Ghost.kp [0, 11, 13, 14, 16, 17] [11, 13, 16, 64] (by simp only [go_sem, g1, g2, hrl, f1, f2, f3, f4, hzr, hsa, hsn, Option.isSome_none, cpW_none]; first | ((repeat' (first | with_reducible_and_instances rfl | refine st_eq ?_ ?_ ?_ | refine ret_eq ?_ | refine tup_eq ?_ | refine tm_eq ?_ ?_ | refine arr_eq ?_ | refine cells_eq ?_ | refine val_eq ?_ | refine ls_eq ?_ ?_ | refine own_eq ?_ ?_ | refine sl_eq ?_ | refine b_eq ?_ | (refine i_eq ?_; omega))); done) | rfl)
      have hkd1 : ¬ kd = 1 := fun e => by subst e; simp at hb142
      refine Exec.reg ?_
      refine Run.op (by simp only [go_sem, g1, g2, hrl, f1, f2, f3, f4, hzr, hsa] <;> rfl) (by simp only [go_sem] <;> rfl) ?_
      refine Run.op (by simp only [go_sem] <;> rfl) (by simp only [go_sem] <;> rfl) ?_
      refine Run.nil ?_
      refine Exec.cnd (by simp only [go_sem, g1, g2, hrl, f1, f2, f3, f4, hzr, hsa] <;> rfl) (fun hb174 => ?_) (fun hb174 => ?_)
      · skip
        have hkd : kd = 2 := by omega
        refine Exec.reg ?_
        refine Run.op (by simp only [go_sem] <;> rfl) (by simp only [go_sem] <;> rfl) ?_
        iterate 3 (refine Run.op (by simp only [go_sem, g1, g2, hrl, f1, f2, f3, f4, hzr, hsa]; (try simp (disch := omega) only [IntWalk.i64_in, IntWalk.u64_in, if_neg, if_pos])<;> rfl) (by simp only [go_sem] <;> rfl) ?_)
        refine Run.op (by simp only [go_sem] <;> rfl) (by simp only [go_sem] <;> rfl) ?_
        refine Run.nil ?_
        refine Exec.reg ?_
        refine Run.op (by simp only [go_sem] <;> rfl) (by simp only [go_sem] <;> rfl) ?_
        refine Run.nil ?_
        refine Exec.assocS ?_
        refine Exec.reg ?_
        refine Run.op (by simp only [go_sem] <;> rfl) (by simp only [go_sem] <;> rfl) ?_
        refine Run.op (by simp only [go_sem, g1, g2, hrl, f1, f2, f3, f4, hzr, hsa]; (try simp (disch := omega) only [IntWalk.i64_in, IntWalk.u64_in, if_neg, if_pos])<;> rfl) (by simp only [go_sem] <;> rfl) ?_
        refine Run.op (by simp only [go_sem] <;> rfl) (by simp only [go_sem] <;> rfl) ?_
        refine Run.nil ?_
        refine Exec.blk ?_
        refine Exec.forA [0, 11, 13, 14, 15, 16, 17, 21, 22] [11, 13, 16, 64] (rl.length - (aN + 1)) (fun k => [.slot 22 (.int ((aN : Int) + 1 + (k : Int))), .slot 17 (.bool (ltF (⟨rates, rl⟩ : Walk) aN ((nD : Nat) : Int) k))]) (fun _ => True) (fun k => by simp only [go_sem] <;> rfl) (by simp only [go_sem, g1, g2, hrl, f1, f2, f3, f4, hzr, hsa, Int.natCast_zero, Int.add_zero, ltF_zero] <;> rfl) ?_ (fun k hk hX => ?_)
        · trivial
        refine Exec.assocS ?_
        refine Exec.reg ?_
        iterate 2 (refine Run.op (by simp only [go_sem] <;> rfl) (by simp only [go_sem] <;> rfl) ?_)
        iterate 3 (refine Run.op (by simp only [go_sem, g1, g2, hrl, f1, f2, f3, f4, hzr, hsa] <;> rfl) (by simp only [go_sem] <;> rfl) ?_)
        refine Run.nil ?_
        refine Exec.cndS (by simp only [go_sem, g1, g2, hrl, f1, f2, f3, f4, hzr, hsa] <;> rfl) (fun hb186 => ?_) (fun hb186 => ?_)
        · skip
          have hlt : aN + 1 + k < rl.length := by
            have h0 : (aN : Int) + 1 + (k : Int) < (rl.length : Int) := by simpa using hb186
            omega
          have hsb : rl[aN + 1 + k]? = some (rd (⟨rates, rl⟩ : Walk) (aN + 1 + k)) := rd_get (w := (⟨rates, rl⟩ : Walk)) hlt
          have hrb := read_ok hwW (i := aN + 1 + k) hlt
          have t1 : ((aN : Int) + 1 + (k : Int)).toNat = aN + 1 + k := by omega
          refine Exec.skipS ?_
          refine Exec.blk ?_
          by_cases hlf : ltF (⟨rates, rl⟩ : Walk) aN ((nD : Nat) : Int) k = true
          · skip
            by_cases hho : (rd (⟨rates, rl⟩ : Walk) (aN + 1 + k)).house = (rd (⟨rates, rl⟩ : Walk) aN).house
            · skip
              have g9 : ((rd (⟨rates, rl⟩ : Walk) (aN + 1 + k)).house != (rd (⟨rates, rl⟩ : Walk) aN).house) = false := by simpa using hho
              have e : ltF (⟨rates, rl⟩ : Walk) aN ((nD : Nat) : Int) (k + 1) = decide ((rd (⟨rates, rl⟩ : Walk) aN).day + ((nD : Nat) : Int) < (rd (⟨rates, rl⟩ : Walk) (aN + 1 + k)).day) := by
                rw [lt_and, hlf]; simp [ltC, hho]
              refine Exec.opk1 32 ?_
              iterate 2 (refine OpenK.op (by simp only [go_sem, g1, g2, hrl, f1, f2, f3, f4, hzr, hsa, t1, hsb, hlf, g9, e] <;> rfl) (by simp only [go_sem] <;> rfl) (by simp only [go_sem] <;> rfl) ?_)
              iterate 3 (refine OpenK.yes (by simp only [go_sem] <;> rfl) (by simp only [go_sem, g1, g2, hrl, f1, f2, f3, f4, hzr, hsa, t1, hsb, hlf, g9, e] <;> rfl) (by simp only [go_sem] <;> rfl) (by simp only [go_sem] <;> rfl) ?_)
              refine OpenK.yes (by simp only [go_sem] <;> rfl) (by simp only [go_sem, g1, g2, hrl, f1, f2, f3, f4, hzr, hsa, t1, hsb, hlf, g9, e]; (try simp (disch := omega) only [if_pos]); (try simp only [go_sem, g1, g2, hrl, f1, f2, f3, f4, hzr, hsa, t1, hsb, hlf, g9, e])<;> rfl) (by simp only [go_sem] <;> rfl) (by simp only [go_sem] <;> rfl) ?_
              iterate 13 (refine OpenK.yes (by simp only [go_sem] <;> rfl) (by simp only [go_sem, g1, g2, hrl, f1, f2, f3, f4, hzr, hsa, t1, hsb, hlf, g9, e] <;> rfl) (by simp only [go_sem] <;> rfl) (by simp only [go_sem] <;> rfl) ?_)
              refine OpenK.yes (by simp only [go_sem] <;> rfl) (by simp only [go_sem, g1, g2, hrl, f1, f2, f3, f4, hzr, hsa, t1, hsb, hlf, g9, e]; (try simp (disch := omega) only [IntWalk.i64_in, IntWalk.u64_in, if_neg, if_pos])<;> rfl) (by simp only [go_sem] <;> rfl) (by simp only [go_sem] <;> rfl) ?_
              iterate 3 (refine OpenK.yes (by simp only [go_sem] <;> rfl) (by simp only [go_sem, g1, g2, hrl, f1, f2, f3, f4, hzr, hsa, t1, hsb, hlf, g9, e] <;> rfl) (by simp only [go_sem] <;> rfl) (by simp only [go_sem] <;> rfl) ?_)
              refine OpenK.yes (by simp only [go_sem] <;> rfl) (by simp only [go_sem, g1, g2, hrl, f1, f2, f3, f4, hzr, hsa, t1, hsb, hlf, g9, e]; (try simp (disch := omega) only [if_pos]); (try simp only [go_sem, g1, g2, hrl, f1, f2, f3, f4, hzr, hsa, t1, hsb, hlf, g9, e])<;> rfl) (by simp only [go_sem] <;> rfl) (by simp only [go_sem] <;> rfl) ?_
              iterate 4 (refine OpenK.yes (by simp only [go_sem] <;> rfl) (by simp only [go_sem, g1, g2, hrl, f1, f2, f3, f4, hzr, hsa, t1, hsb, hlf, g9, e] <;> rfl) (by simp only [go_sem] <;> rfl) (by simp only [go_sem] <;> rfl) ?_)
              iterate 2 (refine OpenK.op (by simp only [go_sem, g1, g2, hrl, f1, f2, f3, f4, hzr, hsa, t1, hsb, hlf, g9, e] <;> rfl) (by simp only [go_sem] <;> rfl) (by simp only [go_sem] <;> rfl) ?_)
              refine OpenK.nil (OpenE.finT (by kernel_rfl) (by kernel_rfl) (by kernel_rfl) ?_)
              refine BlkK.nrm ?_
              refine Exec.reg1 ?_
              refine Run.op (by simp only [go_sem] <;> rfl) (by simp only [go_sem] <;> rfl) ?_
              refine Run.op (by simp only [go_sem, g1, g2, hrl, f1, f2, f3, f4, hzr, hsa, t1, hsb, hlf, g9, e]; (try simp (disch := omega) only [IntWalk.i64_in, IntWalk.u64_in, if_neg, if_pos])<;> rfl) (by simp only [go_sem] <;> rfl) ?_
              refine Run.op (by simp only [go_sem] <;> rfl) (by simp only [go_sem] <;> rfl) ?_
              refine Run.nil ?_
              refine ForK.nxt ?_ ?_ ?_
              · omega
              · exact Ghost.kp [0, 11, 13, 14, 15, 16, 17, 21, 22] [11, 13, 16, 64] (by simp only [go_sem, g1, g2, hrl, f1, f2, f3, f4, hzr, hsa, t1, hsb, hlf, g9, e]; first | ((repeat' (first | with_reducible_and_instances rfl | refine st_eq ?_ ?_ ?_ | refine ret_eq ?_ | refine tup_eq ?_ | refine tm_eq ?_ ?_ | refine arr_eq ?_ | refine cells_eq ?_ | refine val_eq ?_ | refine ls_eq ?_ ?_ | refine own_eq ?_ ?_ | refine sl_eq ?_ | refine b_eq ?_ | (refine i_eq ?_; omega))); (all_goals (first | omega | (simp; try omega)))) | rfl)
              · trivial
            have g9 : ((rd (⟨rates, rl⟩ : Walk) (aN + 1 + k)).house != (rd (⟨rates, rl⟩ : Walk) aN).house) = true := by simpa using hho
            have e : ltF (⟨rates, rl⟩ : Walk) aN ((nD : Nat) : Int) (k + 1) = true := by
              rw [lt_and, hlf]; simp [ltC, hho]
            refine Exec.opk1 32 ?_
            iterate 2 (refine OpenK.op (by simp only [go_sem, g1, g2, hrl, f1, f2, f3, f4, hzr, hsa, t1, hsb, hlf, g9, e] <;> rfl) (by simp only [go_sem] <;> rfl) (by simp only [go_sem] <;> rfl) ?_)
            iterate 3 (refine OpenK.yes (by simp only [go_sem] <;> rfl) (by simp only [go_sem, g1, g2, hrl, f1, f2, f3, f4, hzr, hsa, t1, hsb, hlf, g9, e] <;> rfl) (by simp only [go_sem] <;> rfl) (by simp only [go_sem] <;> rfl) ?_)
            refine OpenK.yes (by simp only [go_sem] <;> rfl) (by simp only [go_sem, g1, g2, hrl, f1, f2, f3, f4, hzr, hsa, t1, hsb, hlf, g9, e]; (try simp (disch := omega) only [if_pos]); (try simp only [go_sem, g1, g2, hrl, f1, f2, f3, f4, hzr, hsa, t1, hsb, hlf, g9, e])<;> rfl) (by simp only [go_sem] <;> rfl) (by simp only [go_sem] <;> rfl) ?_
            iterate 8 (refine OpenK.yes (by simp only [go_sem] <;> rfl) (by simp only [go_sem, g1, g2, hrl, f1, f2, f3, f4, hzr, hsa, t1, hsb, hlf, g9, e] <;> rfl) (by simp only [go_sem] <;> rfl) (by simp only [go_sem] <;> rfl) ?_)
            iterate 13 (refine OpenK.skp (by simp only [go_sem] <;> rfl) (by simp only [go_sem] <;> rfl) (by simp only [go_sem] <;> rfl) ?_)
            refine OpenK.yes (by simp only [go_sem] <;> rfl) (by simp only [go_sem, g1, g2, hrl, f1, f2, f3, f4, hzr, hsa, t1, hsb, hlf, g9, e] <;> rfl) (by simp only [go_sem] <;> rfl) (by simp only [go_sem] <;> rfl) ?_
            iterate 2 (refine OpenK.op (by simp only [go_sem, g1, g2, hrl, f1, f2, f3, f4, hzr, hsa, t1, hsb, hlf, g9, e] <;> rfl) (by simp only [go_sem] <;> rfl) (by simp only [go_sem] <;> rfl) ?_)
            refine OpenK.nil (OpenE.finT (by kernel_rfl) (by kernel_rfl) (by kernel_rfl) ?_)
            refine BlkK.nrm ?_
            refine Exec.reg1 ?_
            refine Run.op (by simp only [go_sem] <;> rfl) (by simp only [go_sem] <;> rfl) ?_
            refine Run.op (by simp only [go_sem, g1, g2, hrl, f1, f2, f3, f4, hzr, hsa, t1, hsb, hlf, g9, e]; (try simp (disch := omega) only [IntWalk.i64_in, IntWalk.u64_in, if_neg, if_pos])<;> rfl) (by simp only [go_sem] <;> rfl) ?_
            refine Run.op (by simp only [go_sem] <;> rfl) (by simp only [go_sem] <;> rfl) ?_
            refine Run.nil ?_
            refine ForK.nxt ?_ ?_ ?_
            · omega
            · exact Ghost.kp [0, 11, 13, 14, 15, 16, 17, 21, 22] [11, 13, 16, 64] (by simp only [go_sem, g1, g2, hrl, f1, f2, f3, f4, hzr, hsa, t1, hsb, hlf, g9, e]; first | ((repeat' (first | with_reducible_and_instances rfl | refine st_eq ?_ ?_ ?_ | refine ret_eq ?_ | refine tup_eq ?_ | refine tm_eq ?_ ?_ | refine arr_eq ?_ | refine cells_eq ?_ | refine val_eq ?_ | refine ls_eq ?_ ?_ | refine own_eq ?_ ?_ | refine sl_eq ?_ | refine b_eq ?_ | (refine i_eq ?_; omega))); (all_goals (first | omega | (simp; try omega)))) | rfl)
            · trivial
          have hlf2 : ltF (⟨rates, rl⟩ : Walk) aN ((nD : Nat) : Int) k = false := by simpa using hlf
          have e := lt_and (⟨rates, rl⟩ : Walk) aN ((nD : Nat) : Int) k
          rw [hlf2, Bool.false_and] at e
          refine Exec.opk1 32 ?_
          iterate 2 (refine OpenK.op (by simp only [go_sem, g1, g2, hrl, f1, f2, f3, f4, hzr, hsa, t1, hsb, hlf2, e] <;> rfl) (by simp only [go_sem] <;> rfl) (by simp only [go_sem] <;> rfl) ?_)
          iterate 26 (refine OpenK.skp (by simp only [go_sem] <;> rfl) (by simp only [go_sem] <;> rfl) (by simp only [go_sem] <;> rfl) ?_)
          iterate 2 (refine OpenK.op (by simp only [go_sem, g1, g2, hrl, f1, f2, f3, f4, hzr, hsa, t1, hsb, hlf2, e] <;> rfl) (by simp only [go_sem] <;> rfl) (by simp only [go_sem] <;> rfl) ?_)
          refine OpenK.nil (OpenE.finT (by kernel_rfl) (by kernel_rfl) (by kernel_rfl) ?_)
          refine BlkK.nrm ?_
          refine Exec.reg1 ?_
          refine Run.op (by simp only [go_sem] <;> rfl) (by simp only [go_sem] <;> rfl) ?_
          refine Run.op (by simp only [go_sem, g1, g2, hrl, f1, f2, f3, f4, hzr, hsa, t1, hsb, hlf2, e]; (try simp (disch := omega) only [IntWalk.i64_in, IntWalk.u64_in, if_neg, if_pos])<;> rfl) (by simp only [go_sem] <;> rfl) ?_
          refine Run.op (by simp only [go_sem] <;> rfl) (by simp only [go_sem] <;> rfl) ?_
          refine Run.nil ?_
          refine ForK.nxt ?_ ?_ ?_
          · omega
          · exact Ghost.kp [0, 11, 13, 14, 15, 16, 17, 21, 22] [11, 13, 16, 64] (by simp only [go_sem, g1, g2, hrl, f1, f2, f3, f4, hzr, hsa, t1, hsb, hlf2, e]; first | ((repeat' (first | with_reducible_and_instances rfl | refine st_eq ?_ ?_ ?_ | refine ret_eq ?_ | refine tup_eq ?_ | refine tm_eq ?_ ?_ | refine arr_eq ?_ | refine cells_eq ?_ | refine val_eq ?_ | refine ls_eq ?_ ?_ | refine own_eq ?_ ?_ | refine sl_eq ?_ | refine b_eq ?_ | (refine i_eq ?_; omega))); (all_goals (first | omega | (simp; try omega)))) | rfl)
          · trivial
        have hke : k = rl.length - (aN + 1) := by
          have h0 : ¬ (aN : Int) + 1 + (k : Int) < (rl.length : Int) := by simpa using hb186
          omega
        refine Exec.exitS ?_
        refine ForK.ext ?_
        refine BlkK.hit ?_
        refine Exec.reg ?_
        refine Run.op (by simp only [go_sem] <;> rfl) (by simp only [go_sem] <;> rfl) ?_
        refine Run.nil ?_
        refine Exec.cnd (by simp only [go_sem, g1, g2, hrl, f1, f2, f3, f4, hzr, hsa] <;> rfl) (fun hb218 => ?_) (fun hb218 => ?_)
        · skip
          have hltt : ltF (⟨rates, rl⟩ : Walk) aN ((nD : Nat) : Int) k = true := hb218
          refine Exec.reg ?_
          iterate 5 (refine Run.op (by simp only [go_sem, g1, g2, hrl, f1, f2, f3, f4, hzr, hsa, hltt] <;> rfl) (by simp only [go_sem] <;> rfl) ?_)
          refine Run.op (by simp only [go_sem, g1, g2, hrl, f1, f2, f3, f4, hzr, hsa, hltt]; (try simp (disch := omega) only [IntWalk.i64_in, IntWalk.u64_in, if_neg, if_pos])<;> rfl) (by simp only [go_sem] <;> rfl) ?_
          iterate 3 (refine Run.op (by simp only [go_sem, g1, g2, hrl, f1, f2, f3, f4, hzr, hsa, hltt] <;> rfl) (by simp only [go_sem] <;> rfl) ?_)
          refine Run.nil ?_
          refine Exec.reg1 ?_
          iterate 3 (refine Run.op (by simp only [go_sem, g1, g2, hrl, f1, f2, f3, f4, hzr, hsa, hltt] <;> rfl) (by simp only [go_sem] <;> rfl) ?_)
          refine Run.nil ?_
          refine Blk1K.nrm ?_
          refine JoinK.nrm ((ltW (⟨rates, rl⟩ : Walk) aN ((nD : Nat) : Int) true, true, nD)) ?_ ?_
          · exact (by rw [hkd]; exact mist_lt hwW hfW hasc ha ⟨by omega, by omega⟩ hda (is := true) (fun _ b h1 h2 => by have h2 : b < rl.length := h2; have := ltF_all hltt (b - (aN + 1)) (by omega); rwa [show aN + 1 + (b - (aN + 1)) = b by omega] at this))
          · exact Ghost.kp [0, 11, 13, 14, 16, 17] [11, 13, 16, 64] (by simp only [go_sem, g1, g2, hrl, f1, f2, f3, f4, hzr, hsa, hltt]; first | ((repeat' (first | with_reducible_and_instances rfl | refine st_eq ?_ ?_ ?_ | refine ret_eq ?_ | refine tup_eq ?_ | refine tm_eq ?_ ?_ | refine arr_eq ?_ | refine cells_eq ?_ | refine val_eq ?_ | refine ls_eq ?_ ?_ | refine own_eq ?_ ?_ | refine sl_eq ?_ | refine b_eq ?_ | (refine i_eq ?_; omega))); (all_goals (first | omega | (simp [ltW, encReading, List.map_set]; try omega)))) | rfl)
        have hltt : ltF (⟨rates, rl⟩ : Walk) aN ((nD : Nat) : Int) k = false := by simpa using hb218
        refine Blk1K.nrm ?_
        refine JoinK.nrm ((rl, false, 0)) ?_ ?_
        · exact (by rw [hkd]; exact mist_lt hwW hfW hasc ha (n := nD) ⟨by omega, by omega⟩ hda (is := false) (fun h => by cases h))
        · exact Ghost.kp [0, 11, 13, 14, 16, 17] [11, 13, 16, 64] (by simp only [go_sem, g1, g2, hrl, f1, f2, f3, f4, hzr, hsa, hltt]; first | ((repeat' (first | with_reducible_and_instances rfl | refine st_eq ?_ ?_ ?_ | refine ret_eq ?_ | refine tup_eq ?_ | refine tm_eq ?_ ?_ | refine arr_eq ?_ | refine cells_eq ?_ | refine val_eq ?_ | refine ls_eq ?_ ?_ | refine own_eq ?_ ?_ | refine sl_eq ?_ | refine b_eq ?_ | (refine i_eq ?_; omega))); done) | rfl)
      exfalso
      have hkd : kd = 2 := by omega
      subst hkd
      exact absurd hb174 (by simp)
    obtain ⟨R, md, B⟩ := o
    simp only at hj
    have hRl : R.length = rl.length := hj.1
    have hRt : List.take rl.length (R.map encReading) = R.map encReading := List.take_of_length_le (by rw [List.length_map]; omega)
    have hBb := hj.2.2.1.2
    refine Exec.reg ?_
    refine Run.frz 64 (by simp only [go_sem, hRt] <;> rfl) ?_
    refine Run.op (by simp only [go_sem, g1, g2, hrl, f1, f2, f3, f4, hzr, hsa, hRl] <;> rfl) (by simp only [go_sem] <;> rfl) ?_
    refine Run.cal (c_card_Misfit (⟨rates, R⟩ : Walk) (by simp only; omega) (by simp only; omega) (fun _ => h20_of (by simp only; omega))) (by simp only [go_sem]) (by simp only [go_sem, g1, g2, hrl, f1, f2, f3, f4, hzr, hsa, hRl] <;> rfl) (by exact ⟨by first | exact WkR.pure rfl | exact WkR.nil _ | exact WkR.int (by first | omega | (simp; done) | (simp; omega)), trivial⟩) (fr0) (by simp only [go_sem, g1, g2, hrl, f1, f2, f3, f4, hzr, hsa, hRl] <;> rfl) ?_
    refine Run.op (by simp only [go_sem] <;> rfl) (by simp only [go_sem] <;> rfl) ?_
    iterate 3 (refine Run.op (by simp only [go_sem, g1, g2, hrl, f1, f2, f3, f4, hzr, hsa, hRl] <;> rfl) (by simp only [go_sem] <;> rfl) ?_)
    iterate 3 (refine Run.op (by simp only [go_sem] <;> rfl) (by simp only [go_sem] <;> rfl) ?_)
    refine Run.nil ?_
    refine Exec.reg ?_
    refine Run.op (by simp only [go_sem, g1, g2, hrl, f1, f2, f3, f4, hzr, hsa, hRl] <;> rfl) (by simp only [go_sem] <;> rfl) ?_
    refine Run.cal (c_card_Explain (⟨rates, R⟩ : Walk) (by simp only; omega) (by simp only; omega) (fun _ => h20_of (by simp only; omega))) (by simp only [go_sem]) (by simp only [go_sem, g1, g2, hrl, f1, f2, f3, f4, hzr, hsa, hRl] <;> rfl) (by exact ⟨by first | exact WkR.pure rfl | exact WkR.nil _ | exact WkR.int (by first | omega | (simp; done) | (simp; omega)), trivial⟩) (fr0) (by simp only [go_sem, g1, g2, hrl, f1, f2, f3, f4, hzr, hsa, hRl] <;> rfl) ?_
    refine Run.op (by simp only [go_sem] <;> rfl) (by simp only [go_sem] <;> rfl) ?_
    iterate 2 (refine Run.op (by simp only [go_sem, g1, g2, hrl, f1, f2, f3, f4, hzr, hsa, hRl] <;> rfl) (by simp only [go_sem] <;> rfl) ?_)
    iterate 2 (refine Run.op (by simp only [go_sem] <;> rfl) (by simp only [go_sem] <;> rfl) ?_)
    refine Run.nil ?_
    refine Exec.reg ?_
    refine Run.op (by simp only [go_sem, g1, g2, hrl, f1, f2, f3, f4, hzr, hsa, hRl] <;> rfl) (by simp only [go_sem] <;> rfl) ?_
    refine Run.cal (c_card_Mend (⟨rates, R⟩ : Walk) (by simp only; omega) (by simp only; omega) (fun _ => h20_of (by simp only; omega))) (by simp only [go_sem]) (by simp only [go_sem, g1, g2, hrl, f1, f2, f3, f4, hzr, hsa, hRl] <;> rfl) (by exact ⟨by first | exact WkR.pure rfl | exact WkR.nil _ | exact WkR.int (by first | omega | (simp; done) | (simp; omega)), trivial⟩) (fr0) (by simp only [go_sem, g1, g2, hrl, f1, f2, f3, f4, hzr, hsa, hRl] <;> rfl) ?_
    refine Run.op (by simp only [go_sem] <;> rfl) (by simp only [go_sem] <;> rfl) ?_
    iterate 2 (refine Run.op (by simp only [go_sem, g1, g2, hrl, f1, f2, f3, f4, hzr, hsa, hRl] <;> rfl) (by simp only [go_sem] <;> rfl) ?_)
    iterate 2 (refine Run.op (by simp only [go_sem] <;> rfl) (by simp only [go_sem] <;> rfl) ?_)
    refine Run.nil ?_
    refine Exec.assocS ?_
    by_cases hfx : fitsS (⟨rates, R⟩ : Walk) = true
    · skip
      have e1 : (misfitR (⟨rates, R⟩ : Walk)).2.2 = 4 := by rw [misfit_is hj.2.1, if_pos hfx]
      have e2 : explainR (⟨rates, R⟩ : Walk) = ([], 4) := by unfold explainR; rw [if_pos hj.2.1, if_pos hfx]
      have e3 : mendR (⟨rates, R⟩ : Walk) = ([], 4) := by unfold mendR; rw [e2]; rfl
      refine Exec.reg ?_
      refine Run.op (by simp only [go_sem] <;> rfl) (by simp only [go_sem] <;> rfl) ?_
      refine Run.op (by simp only [go_sem, g1, g2, hrl, f1, f2, f3, f4, hzr, hsa, hRl, e1, e2, e3] <;> rfl) (by simp only [go_sem] <;> rfl) ?_
      refine Run.nil ?_
      refine Exec.cndS (by simp only [go_sem, g1, g2, hrl, f1, f2, f3, f4, hzr, hsa, hRl, e1, e2, e3] <;> rfl) (fun hb246 => ?_) (fun hb246 => ?_)
      · skip
        refine Exec.assocS ?_
        refine Exec.reg ?_
        refine Run.op (by simp only [go_sem] <;> rfl) (by simp only [go_sem] <;> rfl) ?_
        iterate 2 (refine Run.op (by simp only [go_sem, g1, g2, hrl, f1, f2, f3, f4, hzr, hsa, hRl, e1, e2, e3] <;> rfl) (by simp only [go_sem] <;> rfl) ?_)
        iterate 2 (refine Run.yes (by simp only [go_sem] <;> rfl) (by simp only [go_sem] <;> rfl) (by simp only [go_sem] <;> rfl) ?_)
        refine Run.yes (by simp only [go_sem] <;> rfl) (by simp only [go_sem, g1, g2, hrl, f1, f2, f3, f4, hzr, hsa, hRl, e1, e2, e3] <;> rfl) (by simp only [go_sem] <;> rfl) ?_
        iterate 2 (refine Run.op (by simp only [go_sem, g1, g2, hrl, f1, f2, f3, f4, hzr, hsa, hRl, e1, e2, e3] <;> rfl) (by simp only [go_sem] <;> rfl) ?_)
        refine Run.yes (by simp only [go_sem] <;> rfl) (by simp only [go_sem] <;> rfl) (by simp only [go_sem] <;> rfl) ?_
        iterate 2 (refine Run.yes (by simp only [go_sem] <;> rfl) (by simp only [go_sem, g1, g2, hrl, f1, f2, f3, f4, hzr, hsa, hRl, e1, e2, e3] <;> rfl) (by simp only [go_sem] <;> rfl) ?_)
        iterate 2 (refine Run.op (by simp only [go_sem, g1, g2, hrl, f1, f2, f3, f4, hzr, hsa, hRl, e1, e2, e3] <;> rfl) (by simp only [go_sem] <;> rfl) ?_)
        refine Run.yes (by simp only [go_sem] <;> rfl) (by simp only [go_sem] <;> rfl) (by simp only [go_sem] <;> rfl) ?_
        iterate 2 (refine Run.yes (by simp only [go_sem] <;> rfl) (by simp only [go_sem, g1, g2, hrl, f1, f2, f3, f4, hzr, hsa, hRl, e1, e2, e3] <;> rfl) (by simp only [go_sem] <;> rfl) ?_)
        iterate 2 (refine Run.op (by simp only [go_sem, g1, g2, hrl, f1, f2, f3, f4, hzr, hsa, hRl, e1, e2, e3] <;> rfl) (by simp only [go_sem] <;> rfl) ?_)
        refine Run.calw (by simp only [go_sem] <;> rfl) (c_law_alive) (by simp only [go_sem]) (by simp only [go_sem, g1, g2, hrl, f1, f2, f3, f4, hzr, hsa, hRl, e1, e2, e3] <;> rfl) (by simp only [go_sem, g1, g2, hrl, f1, f2, f3, f4, hzr, hsa, hRl, e1, e2, e3] <;> rfl) (by exact trivial) (fr0) (by simp only [go_sem, g1, g2, hrl, f1, f2, f3, f4, hzr, hsa, hRl, e1, e2, e3] <;> rfl) ?_
        refine Run.op (by simp only [go_sem, g1, g2, hrl, f1, f2, f3, f4, hzr, hsa, hRl, e1, e2, e3] <;> rfl) (by simp only [go_sem] <;> rfl) ?_
        refine Run.op (by simp only [go_sem] <;> rfl) (by simp only [go_sem] <;> rfl) ?_
        refine Run.nil ?_
        refine Exec.retS ?_
        exact Ends.fin [] (rs := [.tmp 10]) rfl (by simp only [go_sem, g1, g2, hrl, f1, f2, f3, f4, hzr, hsa, hRl, e1, e2, e3] <;> rfl) (by simp only [go_sem, g1, g2, hrl, f1, f2, f3, f4, hzr, hsa, hRl, e1, e2, e3] <;> first | rfl | ((repeat' (first | with_reducible_and_instances rfl | refine st_eq ?_ ?_ ?_ | refine ret_eq ?_ | refine tup_eq ?_ | refine tm_eq ?_ ?_ | refine arr_eq ?_ | refine cells_eq ?_ | refine val_eq ?_ | refine ls_eq ?_ ?_ | refine own_eq ?_ ?_ | refine sl_eq ?_ | refine b_eq ?_ | (refine i_eq ?_; omega))); done))
      · exact absurd hb246 (by simp)
    have hfF : fitsS (⟨rates, R⟩ : Walk) = false := by simpa using hfx
    obtain ⟨m1, m2, m3, m4, m5, m6⟩ := mist_end hj ha hfF
    obtain ⟨lS, hlS⟩ : ∃ l, allS (⟨rates, R⟩ : Walk) = l := ⟨_, rfl⟩
    have hS1 : lS.length ≤ 1000 := by rw [← hlS]; exact len_all hj.2.1
    have m3' : explainR (⟨rates, R⟩ : Walk) = (lS, 0) := by rw [← hlS]; exact m3
    have m4' : lS.any (fndB ((kd : Nat) : Int) ((aN : Nat) : Int) ((B : Nat) : Int)) = true := by rw [← hlS]; exact m4
    have m5' : 1 < lS.length → mendR (⟨rates, R⟩ : Walk) = ([], 12) := by rw [← hlS]; exact m5
    refine Exec.reg ?_
    refine Run.op (by simp only [go_sem] <;> rfl) (by simp only [go_sem] <;> rfl) ?_
    refine Run.op (by simp only [go_sem, g1, g2, hrl, f1, f2, f3, f4, hzr, hsa, hRl, m1, m2, m3', Bool.not_true] <;> rfl) (by simp only [go_sem] <;> rfl) ?_
    refine Run.nil ?_
    refine Exec.cndS (by simp only [go_sem, g1, g2, hrl, f1, f2, f3, f4, hzr, hsa, hRl, m1, m2, m3', Bool.not_true] <;> rfl) (fun hb246 => ?_) (fun hb246 => ?_)
    · exact absurd hb246 (by simp)
    refine Exec.skipS ?_
    refine Exec.assocS ?_
    refine Exec.reg ?_
    refine Run.op (by simp only [go_sem] <;> rfl) (by simp only [go_sem] <;> rfl) ?_
    iterate 2 (refine Run.op (by simp only [go_sem, g1, g2, hrl, f1, f2, f3, f4, hzr, hsa, hRl, m1, m2, m3', Bool.not_true] <;> rfl) (by simp only [go_sem] <;> rfl) ?_)
    refine Run.yes (by simp only [go_sem] <;> rfl) (by simp only [go_sem] <;> rfl) (by simp only [go_sem] <;> rfl) ?_
    refine Run.yes (by simp only [go_sem] <;> rfl) (by simp only [go_sem, g1, g2, hrl, f1, f2, f3, f4, hzr, hsa, hRl, m1, m2, m3', Bool.not_true] <;> rfl) (by simp only [go_sem] <;> rfl) ?_
    iterate 2 (refine Run.op (by simp only [go_sem, g1, g2, hrl, f1, f2, f3, f4, hzr, hsa, hRl, m1, m2, m3', Bool.not_true] <;> rfl) (by simp only [go_sem] <;> rfl) ?_)
    refine Run.yes (by simp only [go_sem] <;> rfl) (by simp only [go_sem] <;> rfl) (by simp only [go_sem] <;> rfl) ?_
    refine Run.yes (by simp only [go_sem] <;> rfl) (by simp only [go_sem, g1, g2, hrl, f1, f2, f3, f4, hzr, hsa, hRl, m1, m2, m3', Bool.not_true] <;> rfl) (by simp only [go_sem] <;> rfl) ?_
    refine Run.op (by simp only [go_sem, g1, g2, hrl, f1, f2, f3, f4, hzr, hsa, hRl, m1, m2, m3', Bool.not_true] <;> rfl) (by simp only [go_sem] <;> rfl) ?_
    refine Run.nil ?_
    refine Exec.cndS (by simp only [go_sem, g1, g2, hrl, f1, f2, f3, f4, hzr, hsa, hRl, m1, m2, m3', Bool.not_true] <;> rfl) (fun hb276 => ?_) (fun hb276 => ?_)
    · exact absurd hb276 (by simp)
    refine Exec.skipS ?_
    refine Exec.reg ?_
    refine Run.op (by simp only [go_sem] <;> rfl) (by simp only [go_sem] <;> rfl) ?_
    refine Run.nil ?_
    refine Exec.assocS ?_
    refine Exec.reg ?_
    refine Run.op (by simp only [go_sem] <;> rfl) (by simp only [go_sem] <;> rfl) ?_
    refine Run.op (by simp only [go_sem, g1, g2, hrl, f1, f2, f3, f4, hzr, hsa, hRl, m1, m2, m3', Bool.not_true] <;> rfl) (by simp only [go_sem] <;> rfl) ?_
    refine Run.op (by simp only [go_sem] <;> rfl) (by simp only [go_sem] <;> rfl) ?_
    refine Run.nil ?_
    refine Exec.blk ?_
    refine Exec.forA [0, 11, 14, 16, 26, 28, 29, 30, 277, 278, 279] [11, 16] (lS.length) (fun k => [.slot 279 (.int k), .slot 30 (.bool ((lS.take k).any (fndB ((kd : Nat) : Int) ((aN : Nat) : Int) ((B : Nat) : Int))))]) (fun _ => True) (fun k => by simp only [go_sem] <;> rfl) (by simp only [go_sem, g1, g2, hrl, f1, f2, f3, f4, hzr, hsa, hRl, m1, m2, m3', Bool.not_true, List.take_zero, List.any_nil, Int.natCast_zero] <;> rfl) ?_ (fun k hk hX => ?_)
    · trivial
    refine Exec.reg ?_
    refine Run.op (by simp only [go_sem, g1, g2, hrl, f1, f2, f3, f4, hzr, hsa, hRl, m1, m2, m3', Bool.not_true] <;> rfl) (by simp only [go_sem] <;> rfl) ?_
    refine Run.nil ?_
    refine Exec.cndS (by simp only [go_sem, g1, g2, hrl, f1, f2, f3, f4, hzr, hsa, hRl, m1, m2, m3', Bool.not_true] <;> rfl) (fun hb280 => ?_) (fun hb280 => ?_)
    · skip
      have hlt := lt_of_dec hb280
      obtain ⟨y, hy⟩ : ∃ y, lS[k]? = some y := ⟨_, List.getElem?_eq_getElem hlt⟩
      have hny := any_takeM (p := fndB ((kd : Nat) : Int) ((aN : Nat) : Int) ((B : Nat) : Int)) hy
      obtain ⟨ky, ya, yb, yc⟩ := y
      refine Exec.skipS ?_
      refine Exec.blk ?_
      refine Exec.reg ?_
      refine Run.op (by simp only [go_sem, g1, g2, hrl, f1, f2, f3, f4, hzr, hsa, hRl, m1, m2, m3', Bool.not_true, hy, hny, fndB_mk, Bool.true_and, Bool.false_and, Bool.and_true, Bool.and_false, Bool.or_false, Bool.false_or, Bool.true_or, Bool.or_true]; (try simp (disch := omega) only [if_pos]); (try simp only [go_sem, g1, g2, hrl, f1, f2, f3, f4, hzr, hsa, hRl, m1, m2, m3', Bool.not_true, hy, hny, fndB_mk, Bool.true_and, Bool.false_and, Bool.and_true, Bool.and_false, Bool.or_false, Bool.false_or, Bool.true_or, Bool.or_true])<;> rfl) (by simp only [go_sem] <;> rfl) ?_
      refine Run.op (by simp only [go_sem, g1, g2, hrl, f1, f2, f3, f4, hzr, hsa, hRl, m1, m2, m3', Bool.not_true, hy, hny, fndB_mk, Bool.true_and, Bool.false_and, Bool.and_true, Bool.and_false, Bool.or_false, Bool.false_or, Bool.true_or, Bool.or_true] <;> rfl) (by simp only [go_sem] <;> rfl) ?_
      iterate 2 (refine Run.op (by simp only [go_sem] <;> rfl) (by simp only [go_sem] <;> rfl) ?_)
      refine Run.nil ?_
      by_cases hfo : (lS.take k).any (fndB ((kd : Nat) : Int) ((aN : Nat) : Int) ((B : Nat) : Int)) = true
      · skip
        refine Exec.reg1 ?_
        refine Run.op (by simp only [go_sem] <;> rfl) (by simp only [go_sem] <;> rfl) ?_
        refine Run.op (by simp only [go_sem, g1, g2, hrl, f1, f2, f3, f4, hzr, hsa, hRl, m1, m2, m3', Bool.not_true, hy, hny, fndB_mk, Bool.true_and, Bool.false_and, Bool.and_true, Bool.and_false, Bool.or_false, Bool.false_or, Bool.true_or, Bool.or_true, hfo] <;> rfl) (by simp only [go_sem] <;> rfl) ?_
        iterate 43 (refine Run.skp (by simp only [go_sem] <;> rfl) (by simp only [go_sem] <;> rfl) ?_)
        refine Run.op (by simp only [go_sem, g1, g2, hrl, f1, f2, f3, f4, hzr, hsa, hRl, m1, m2, m3', Bool.not_true, hy, hny, fndB_mk, Bool.true_and, Bool.false_and, Bool.and_true, Bool.and_false, Bool.or_false, Bool.false_or, Bool.true_or, Bool.or_true, hfo] <;> rfl) (by simp only [go_sem] <;> rfl) ?_
        refine Run.op (by simp only [go_sem] <;> rfl) (by simp only [go_sem] <;> rfl) ?_
        refine Run.nil ?_
        refine BlkK.nrm ?_
        refine Exec.reg1 ?_
        refine Run.op (by simp only [go_sem, g1, g2, hrl, f1, f2, f3, f4, hzr, hsa, hRl, m1, m2, m3', Bool.not_true, hy, hny, fndB_mk, Bool.true_and, Bool.false_and, Bool.and_true, Bool.and_false, Bool.or_false, Bool.false_or, Bool.true_or, Bool.or_true, hfo]; (try simp (disch := omega) only [IntWalk.i64_in, IntWalk.u64_in, if_neg, if_pos])<;> rfl) (by simp only [go_sem] <;> rfl) ?_
        refine Run.op (by simp only [go_sem] <;> rfl) (by simp only [go_sem] <;> rfl) ?_
        refine Run.nil ?_
        refine ForK.nxt ?_ ?_ ?_
        · omega
        · exact Ghost.kp [0, 11, 14, 16, 26, 28, 29, 30, 277, 278, 279] [11, 16] (by simp only [go_sem, g1, g2, hrl, f1, f2, f3, f4, hzr, hsa, hRl, m1, m2, m3', Bool.not_true, hy, hny, fndB_mk, Bool.true_and, Bool.false_and, Bool.and_true, Bool.and_false, Bool.or_false, Bool.false_or, Bool.true_or, Bool.or_true, hfo]; first | ((repeat' (first | with_reducible_and_instances rfl | refine st_eq ?_ ?_ ?_ | refine ret_eq ?_ | refine tup_eq ?_ | refine tm_eq ?_ ?_ | refine arr_eq ?_ | refine cells_eq ?_ | refine val_eq ?_ | refine ls_eq ?_ ?_ | refine own_eq ?_ ?_ | refine sl_eq ?_ | refine b_eq ?_ | (refine i_eq ?_; omega))); (all_goals (simp))) | rfl)
        · trivial
      have hfo2 : (lS.take k).any (fndB ((kd : Nat) : Int) ((aN : Nat) : Int) ((B : Nat) : Int)) = false := by simpa using hfo
      by_cases hyk : ky = ((kd : Nat) : Int)
      · skip
        have g3 : (ky == ((kd : Nat) : Int)) = true := by simpa using hyk
        by_cases hya : ya = ((aN : Nat) : Int)
        · skip
          have g4 : (ya == ((aN : Nat) : Int)) = true := by simpa using hya
          by_cases hy2 : ky = 2
          · skip
            have g5 : (ky == 2) = true := by simpa using hy2
            have g5b : (ky != 2) = false := by simpa using hy2
            by_cases hyb : yb ≤ ((B : Nat) : Int)
            · skip
              have g6 : decide (yb ≤ ((B : Nat) : Int)) = true := by simpa using hyb
              by_cases hyc : ((B : Nat) : Int) ≤ yc
              · skip
                have g7 : decide (((B : Nat) : Int) ≤ yc) = true := by simpa using hyc
                refine Exec.reg1 ?_
                refine Run.op (by simp only [go_sem] <;> rfl) (by simp only [go_sem] <;> rfl) ?_
                refine Run.op (by simp only [go_sem, g1, g2, hrl, f1, f2, f3, f4, hzr, hsa, hRl, m1, m2, m3', Bool.not_true, hy, hny, fndB_mk, Bool.true_and, Bool.false_and, Bool.and_true, Bool.and_false, Bool.or_false, Bool.false_or, Bool.true_or, Bool.or_true, hfo2, g3, g4, g5, g5b, g6, g7] <;> rfl) (by simp only [go_sem] <;> rfl) ?_
                refine Run.yes (by simp only [go_sem] <;> rfl) (by simp only [go_sem] <;> rfl) (by simp only [go_sem] <;> rfl) ?_
                refine Run.yes (by simp only [go_sem] <;> rfl) (by simp only [go_sem, g1, g2, hrl, f1, f2, f3, f4, hzr, hsa, hRl, m1, m2, m3', Bool.not_true, hy, hny, fndB_mk, Bool.true_and, Bool.false_and, Bool.and_true, Bool.and_false, Bool.or_false, Bool.false_or, Bool.true_or, Bool.or_true, hfo2, g3, g4, g5, g5b, g6, g7] <;> rfl) (by simp only [go_sem] <;> rfl) ?_
                refine Run.yes (by simp only [go_sem] <;> rfl) (by simp only [go_sem] <;> rfl) (by simp only [go_sem] <;> rfl) ?_
                iterate 3 (refine Run.yes (by simp only [go_sem] <;> rfl) (by simp only [go_sem, g1, g2, hrl, f1, f2, f3, f4, hzr, hsa, hRl, m1, m2, m3', Bool.not_true, hy, hny, fndB_mk, Bool.true_and, Bool.false_and, Bool.and_true, Bool.and_false, Bool.or_false, Bool.false_or, Bool.true_or, Bool.or_true, hfo2, g3, g4, g5, g5b, g6, g7] <;> rfl) (by simp only [go_sem] <;> rfl) ?_)
                refine Run.yes (by simp only [go_sem] <;> rfl) (by simp only [go_sem] <;> rfl) (by simp only [go_sem] <;> rfl) ?_
                refine Run.yes (by simp only [go_sem] <;> rfl) (by simp only [go_sem, g1, g2, hrl, f1, f2, f3, f4, hzr, hsa, hRl, m1, m2, m3', Bool.not_true, hy, hny, fndB_mk, Bool.true_and, Bool.false_and, Bool.and_true, Bool.and_false, Bool.or_false, Bool.false_or, Bool.true_or, Bool.or_true, hfo2, g3, g4, g5, g5b, g6, g7] <;> rfl) (by simp only [go_sem] <;> rfl) ?_
                refine Run.yes (by simp only [go_sem] <;> rfl) (by simp only [go_sem] <;> rfl) (by simp only [go_sem] <;> rfl) ?_
                iterate 4 (refine Run.yes (by simp only [go_sem] <;> rfl) (by simp only [go_sem, g1, g2, hrl, f1, f2, f3, f4, hzr, hsa, hRl, m1, m2, m3', Bool.not_true, hy, hny, fndB_mk, Bool.true_and, Bool.false_and, Bool.and_true, Bool.and_false, Bool.or_false, Bool.false_or, Bool.true_or, Bool.or_true, hfo2, g3, g4, g5, g5b, g6, g7] <;> rfl) (by simp only [go_sem] <;> rfl) ?_)
                refine Run.yes (by simp only [go_sem] <;> rfl) (by simp only [go_sem] <;> rfl) (by simp only [go_sem] <;> rfl) ?_
                iterate 3 (refine Run.yes (by simp only [go_sem] <;> rfl) (by simp only [go_sem, g1, g2, hrl, f1, f2, f3, f4, hzr, hsa, hRl, m1, m2, m3', Bool.not_true, hy, hny, fndB_mk, Bool.true_and, Bool.false_and, Bool.and_true, Bool.and_false, Bool.or_false, Bool.false_or, Bool.true_or, Bool.or_true, hfo2, g3, g4, g5, g5b, g6, g7] <;> rfl) (by simp only [go_sem] <;> rfl) ?_)
                refine Run.yes (by simp only [go_sem] <;> rfl) (by simp only [go_sem] <;> rfl) (by simp only [go_sem] <;> rfl) ?_
                refine Run.yes (by simp only [go_sem] <;> rfl) (by simp only [go_sem, g1, g2, hrl, f1, f2, f3, f4, hzr, hsa, hRl, m1, m2, m3', Bool.not_true, hy, hny, fndB_mk, Bool.true_and, Bool.false_and, Bool.and_true, Bool.and_false, Bool.or_false, Bool.false_or, Bool.true_or, Bool.or_true, hfo2, g3, g4, g5, g5b, g6, g7] <;> rfl) (by simp only [go_sem] <;> rfl) ?_
                refine Run.yes (by simp only [go_sem] <;> rfl) (by simp only [go_sem] <;> rfl) (by simp only [go_sem] <;> rfl) ?_
                iterate 4 (refine Run.yes (by simp only [go_sem] <;> rfl) (by simp only [go_sem, g1, g2, hrl, f1, f2, f3, f4, hzr, hsa, hRl, m1, m2, m3', Bool.not_true, hy, hny, fndB_mk, Bool.true_and, Bool.false_and, Bool.and_true, Bool.and_false, Bool.or_false, Bool.false_or, Bool.true_or, Bool.or_true, hfo2, g3, g4, g5, g5b, g6, g7] <;> rfl) (by simp only [go_sem] <;> rfl) ?_)
                refine Run.yes (by simp only [go_sem] <;> rfl) (by simp only [go_sem] <;> rfl) (by simp only [go_sem] <;> rfl) ?_
                refine Run.yes (by simp only [go_sem] <;> rfl) (by simp only [go_sem, g1, g2, hrl, f1, f2, f3, f4, hzr, hsa, hRl, m1, m2, m3', Bool.not_true, hy, hny, fndB_mk, Bool.true_and, Bool.false_and, Bool.and_true, Bool.and_false, Bool.or_false, Bool.false_or, Bool.true_or, Bool.or_true, hfo2, g3, g4, g5, g5b, g6, g7] <;> rfl) (by simp only [go_sem] <;> rfl) ?_
                refine Run.yes (by simp only [go_sem] <;> rfl) (by simp only [go_sem] <;> rfl) (by simp only [go_sem] <;> rfl) ?_
                iterate 4 (refine Run.yes (by simp only [go_sem] <;> rfl) (by simp only [go_sem, g1, g2, hrl, f1, f2, f3, f4, hzr, hsa, hRl, m1, m2, m3', Bool.not_true, hy, hny, fndB_mk, Bool.true_and, Bool.false_and, Bool.and_true, Bool.and_false, Bool.or_false, Bool.false_or, Bool.true_or, Bool.or_true, hfo2, g3, g4, g5, g5b, g6, g7] <;> rfl) (by simp only [go_sem] <;> rfl) ?_)
                iterate 10 (refine Run.skp (by simp only [go_sem] <;> rfl) (by simp only [go_sem] <;> rfl) ?_)
                iterate 2 (refine Run.yes (by simp only [go_sem] <;> rfl) (by simp only [go_sem, g1, g2, hrl, f1, f2, f3, f4, hzr, hsa, hRl, m1, m2, m3', Bool.not_true, hy, hny, fndB_mk, Bool.true_and, Bool.false_and, Bool.and_true, Bool.and_false, Bool.or_false, Bool.false_or, Bool.true_or, Bool.or_true, hfo2, g3, g4, g5, g5b, g6, g7] <;> rfl) (by simp only [go_sem] <;> rfl) ?_)
                refine Run.op (by simp only [go_sem, g1, g2, hrl, f1, f2, f3, f4, hzr, hsa, hRl, m1, m2, m3', Bool.not_true, hy, hny, fndB_mk, Bool.true_and, Bool.false_and, Bool.and_true, Bool.and_false, Bool.or_false, Bool.false_or, Bool.true_or, Bool.or_true, hfo2, g3, g4, g5, g5b, g6, g7] <;> rfl) (by simp only [go_sem] <;> rfl) ?_
                refine Run.op (by simp only [go_sem] <;> rfl) (by simp only [go_sem] <;> rfl) ?_
                refine Run.nil ?_
                refine BlkK.nrm ?_
                refine Exec.reg1 ?_
                refine Run.op (by simp only [go_sem, g1, g2, hrl, f1, f2, f3, f4, hzr, hsa, hRl, m1, m2, m3', Bool.not_true, hy, hny, fndB_mk, Bool.true_and, Bool.false_and, Bool.and_true, Bool.and_false, Bool.or_false, Bool.false_or, Bool.true_or, Bool.or_true, hfo2, g3, g4, g5, g5b, g6, g7]; (try simp (disch := omega) only [IntWalk.i64_in, IntWalk.u64_in, if_neg, if_pos])<;> rfl) (by simp only [go_sem] <;> rfl) ?_
                refine Run.op (by simp only [go_sem] <;> rfl) (by simp only [go_sem] <;> rfl) ?_
                refine Run.nil ?_
                refine ForK.nxt ?_ ?_ ?_
                · omega
                · exact Ghost.kp [0, 11, 14, 16, 26, 28, 29, 30, 277, 278, 279] [11, 16] (by simp only [go_sem, g1, g2, hrl, f1, f2, f3, f4, hzr, hsa, hRl, m1, m2, m3', Bool.not_true, hy, hny, fndB_mk, Bool.true_and, Bool.false_and, Bool.and_true, Bool.and_false, Bool.or_false, Bool.false_or, Bool.true_or, Bool.or_true, hfo2, g3, g4, g5, g5b, g6, g7]; first | ((repeat' (first | with_reducible_and_instances rfl | refine st_eq ?_ ?_ ?_ | refine ret_eq ?_ | refine tup_eq ?_ | refine tm_eq ?_ ?_ | refine arr_eq ?_ | refine cells_eq ?_ | refine val_eq ?_ | refine ls_eq ?_ ?_ | refine own_eq ?_ ?_ | refine sl_eq ?_ | refine b_eq ?_ | (refine i_eq ?_; omega))); (all_goals (simp))) | rfl)
                · trivial
              have g7 : decide (((B : Nat) : Int) ≤ yc) = false := by simpa using hyc
              refine Exec.reg1 ?_
              refine Run.op (by simp only [go_sem] <;> rfl) (by simp only [go_sem] <;> rfl) ?_
              refine Run.op (by simp only [go_sem, g1, g2, hrl, f1, f2, f3, f4, hzr, hsa, hRl, m1, m2, m3', Bool.not_true, hy, hny, fndB_mk, Bool.true_and, Bool.false_and, Bool.and_true, Bool.and_false, Bool.or_false, Bool.false_or, Bool.true_or, Bool.or_true, hfo2, g3, g4, g5, g5b, g6, g7] <;> rfl) (by simp only [go_sem] <;> rfl) ?_
              refine Run.yes (by simp only [go_sem] <;> rfl) (by simp only [go_sem] <;> rfl) (by simp only [go_sem] <;> rfl) ?_
              refine Run.yes (by simp only [go_sem] <;> rfl) (by simp only [go_sem, g1, g2, hrl, f1, f2, f3, f4, hzr, hsa, hRl, m1, m2, m3', Bool.not_true, hy, hny, fndB_mk, Bool.true_and, Bool.false_and, Bool.and_true, Bool.and_false, Bool.or_false, Bool.false_or, Bool.true_or, Bool.or_true, hfo2, g3, g4, g5, g5b, g6, g7] <;> rfl) (by simp only [go_sem] <;> rfl) ?_
              refine Run.yes (by simp only [go_sem] <;> rfl) (by simp only [go_sem] <;> rfl) (by simp only [go_sem] <;> rfl) ?_
              iterate 3 (refine Run.yes (by simp only [go_sem] <;> rfl) (by simp only [go_sem, g1, g2, hrl, f1, f2, f3, f4, hzr, hsa, hRl, m1, m2, m3', Bool.not_true, hy, hny, fndB_mk, Bool.true_and, Bool.false_and, Bool.and_true, Bool.and_false, Bool.or_false, Bool.false_or, Bool.true_or, Bool.or_true, hfo2, g3, g4, g5, g5b, g6, g7] <;> rfl) (by simp only [go_sem] <;> rfl) ?_)
              refine Run.yes (by simp only [go_sem] <;> rfl) (by simp only [go_sem] <;> rfl) (by simp only [go_sem] <;> rfl) ?_
              refine Run.yes (by simp only [go_sem] <;> rfl) (by simp only [go_sem, g1, g2, hrl, f1, f2, f3, f4, hzr, hsa, hRl, m1, m2, m3', Bool.not_true, hy, hny, fndB_mk, Bool.true_and, Bool.false_and, Bool.and_true, Bool.and_false, Bool.or_false, Bool.false_or, Bool.true_or, Bool.or_true, hfo2, g3, g4, g5, g5b, g6, g7] <;> rfl) (by simp only [go_sem] <;> rfl) ?_
              refine Run.yes (by simp only [go_sem] <;> rfl) (by simp only [go_sem] <;> rfl) (by simp only [go_sem] <;> rfl) ?_
              iterate 4 (refine Run.yes (by simp only [go_sem] <;> rfl) (by simp only [go_sem, g1, g2, hrl, f1, f2, f3, f4, hzr, hsa, hRl, m1, m2, m3', Bool.not_true, hy, hny, fndB_mk, Bool.true_and, Bool.false_and, Bool.and_true, Bool.and_false, Bool.or_false, Bool.false_or, Bool.true_or, Bool.or_true, hfo2, g3, g4, g5, g5b, g6, g7] <;> rfl) (by simp only [go_sem] <;> rfl) ?_)
              refine Run.yes (by simp only [go_sem] <;> rfl) (by simp only [go_sem] <;> rfl) (by simp only [go_sem] <;> rfl) ?_
              iterate 3 (refine Run.yes (by simp only [go_sem] <;> rfl) (by simp only [go_sem, g1, g2, hrl, f1, f2, f3, f4, hzr, hsa, hRl, m1, m2, m3', Bool.not_true, hy, hny, fndB_mk, Bool.true_and, Bool.false_and, Bool.and_true, Bool.and_false, Bool.or_false, Bool.false_or, Bool.true_or, Bool.or_true, hfo2, g3, g4, g5, g5b, g6, g7] <;> rfl) (by simp only [go_sem] <;> rfl) ?_)
              refine Run.yes (by simp only [go_sem] <;> rfl) (by simp only [go_sem] <;> rfl) (by simp only [go_sem] <;> rfl) ?_
              refine Run.yes (by simp only [go_sem] <;> rfl) (by simp only [go_sem, g1, g2, hrl, f1, f2, f3, f4, hzr, hsa, hRl, m1, m2, m3', Bool.not_true, hy, hny, fndB_mk, Bool.true_and, Bool.false_and, Bool.and_true, Bool.and_false, Bool.or_false, Bool.false_or, Bool.true_or, Bool.or_true, hfo2, g3, g4, g5, g5b, g6, g7] <;> rfl) (by simp only [go_sem] <;> rfl) ?_
              refine Run.yes (by simp only [go_sem] <;> rfl) (by simp only [go_sem] <;> rfl) (by simp only [go_sem] <;> rfl) ?_
              iterate 4 (refine Run.yes (by simp only [go_sem] <;> rfl) (by simp only [go_sem, g1, g2, hrl, f1, f2, f3, f4, hzr, hsa, hRl, m1, m2, m3', Bool.not_true, hy, hny, fndB_mk, Bool.true_and, Bool.false_and, Bool.and_true, Bool.and_false, Bool.or_false, Bool.false_or, Bool.true_or, Bool.or_true, hfo2, g3, g4, g5, g5b, g6, g7] <;> rfl) (by simp only [go_sem] <;> rfl) ?_)
              refine Run.yes (by simp only [go_sem] <;> rfl) (by simp only [go_sem] <;> rfl) (by simp only [go_sem] <;> rfl) ?_
              refine Run.yes (by simp only [go_sem] <;> rfl) (by simp only [go_sem, g1, g2, hrl, f1, f2, f3, f4, hzr, hsa, hRl, m1, m2, m3', Bool.not_true, hy, hny, fndB_mk, Bool.true_and, Bool.false_and, Bool.and_true, Bool.and_false, Bool.or_false, Bool.false_or, Bool.true_or, Bool.or_true, hfo2, g3, g4, g5, g5b, g6, g7] <;> rfl) (by simp only [go_sem] <;> rfl) ?_
              refine Run.yes (by simp only [go_sem] <;> rfl) (by simp only [go_sem] <;> rfl) (by simp only [go_sem] <;> rfl) ?_
              iterate 4 (refine Run.yes (by simp only [go_sem] <;> rfl) (by simp only [go_sem, g1, g2, hrl, f1, f2, f3, f4, hzr, hsa, hRl, m1, m2, m3', Bool.not_true, hy, hny, fndB_mk, Bool.true_and, Bool.false_and, Bool.and_true, Bool.and_false, Bool.or_false, Bool.false_or, Bool.true_or, Bool.or_true, hfo2, g3, g4, g5, g5b, g6, g7] <;> rfl) (by simp only [go_sem] <;> rfl) ?_)
              refine Run.yes (by simp only [go_sem] <;> rfl) (by simp only [go_sem] <;> rfl) (by simp only [go_sem] <;> rfl) ?_
              iterate 3 (refine Run.yes (by simp only [go_sem] <;> rfl) (by simp only [go_sem, g1, g2, hrl, f1, f2, f3, f4, hzr, hsa, hRl, m1, m2, m3', Bool.not_true, hy, hny, fndB_mk, Bool.true_and, Bool.false_and, Bool.and_true, Bool.and_false, Bool.or_false, Bool.false_or, Bool.true_or, Bool.or_true, hfo2, g3, g4, g5, g5b, g6, g7] <;> rfl) (by simp only [go_sem] <;> rfl) ?_)
              iterate 5 (refine Run.skp (by simp only [go_sem] <;> rfl) (by simp only [go_sem] <;> rfl) ?_)
              iterate 3 (refine Run.yes (by simp only [go_sem] <;> rfl) (by simp only [go_sem, g1, g2, hrl, f1, f2, f3, f4, hzr, hsa, hRl, m1, m2, m3', Bool.not_true, hy, hny, fndB_mk, Bool.true_and, Bool.false_and, Bool.and_true, Bool.and_false, Bool.or_false, Bool.false_or, Bool.true_or, Bool.or_true, hfo2, g3, g4, g5, g5b, g6, g7] <;> rfl) (by simp only [go_sem] <;> rfl) ?_)
              refine Run.op (by simp only [go_sem, g1, g2, hrl, f1, f2, f3, f4, hzr, hsa, hRl, m1, m2, m3', Bool.not_true, hy, hny, fndB_mk, Bool.true_and, Bool.false_and, Bool.and_true, Bool.and_false, Bool.or_false, Bool.false_or, Bool.true_or, Bool.or_true, hfo2, g3, g4, g5, g5b, g6, g7] <;> rfl) (by simp only [go_sem] <;> rfl) ?_
              refine Run.op (by simp only [go_sem] <;> rfl) (by simp only [go_sem] <;> rfl) ?_
              refine Run.nil ?_
              refine BlkK.nrm ?_
              refine Exec.reg1 ?_
              refine Run.op (by simp only [go_sem, g1, g2, hrl, f1, f2, f3, f4, hzr, hsa, hRl, m1, m2, m3', Bool.not_true, hy, hny, fndB_mk, Bool.true_and, Bool.false_and, Bool.and_true, Bool.and_false, Bool.or_false, Bool.false_or, Bool.true_or, Bool.or_true, hfo2, g3, g4, g5, g5b, g6, g7]; (try simp (disch := omega) only [IntWalk.i64_in, IntWalk.u64_in, if_neg, if_pos])<;> rfl) (by simp only [go_sem] <;> rfl) ?_
              refine Run.op (by simp only [go_sem] <;> rfl) (by simp only [go_sem] <;> rfl) ?_
              refine Run.nil ?_
              refine ForK.nxt ?_ ?_ ?_
              · omega
              · exact Ghost.kp [0, 11, 14, 16, 26, 28, 29, 30, 277, 278, 279] [11, 16] (by simp only [go_sem, g1, g2, hrl, f1, f2, f3, f4, hzr, hsa, hRl, m1, m2, m3', Bool.not_true, hy, hny, fndB_mk, Bool.true_and, Bool.false_and, Bool.and_true, Bool.and_false, Bool.or_false, Bool.false_or, Bool.true_or, Bool.or_true, hfo2, g3, g4, g5, g5b, g6, g7]; first | ((repeat' (first | with_reducible_and_instances rfl | refine st_eq ?_ ?_ ?_ | refine ret_eq ?_ | refine tup_eq ?_ | refine tm_eq ?_ ?_ | refine arr_eq ?_ | refine cells_eq ?_ | refine val_eq ?_ | refine ls_eq ?_ ?_ | refine own_eq ?_ ?_ | refine sl_eq ?_ | refine b_eq ?_ | (refine i_eq ?_; omega))); (all_goals (simp))) | rfl)
              · trivial
            have g6 : decide (yb ≤ ((B : Nat) : Int)) = false := by simpa using hyb
            refine Exec.reg1 ?_
            refine Run.op (by simp only [go_sem] <;> rfl) (by simp only [go_sem] <;> rfl) ?_
            refine Run.op (by simp only [go_sem, g1, g2, hrl, f1, f2, f3, f4, hzr, hsa, hRl, m1, m2, m3', Bool.not_true, hy, hny, fndB_mk, Bool.true_and, Bool.false_and, Bool.and_true, Bool.and_false, Bool.or_false, Bool.false_or, Bool.true_or, Bool.or_true, hfo2, g3, g4, g5, g5b, g6] <;> rfl) (by simp only [go_sem] <;> rfl) ?_
            refine Run.yes (by simp only [go_sem] <;> rfl) (by simp only [go_sem] <;> rfl) (by simp only [go_sem] <;> rfl) ?_
            refine Run.yes (by simp only [go_sem] <;> rfl) (by simp only [go_sem, g1, g2, hrl, f1, f2, f3, f4, hzr, hsa, hRl, m1, m2, m3', Bool.not_true, hy, hny, fndB_mk, Bool.true_and, Bool.false_and, Bool.and_true, Bool.and_false, Bool.or_false, Bool.false_or, Bool.true_or, Bool.or_true, hfo2, g3, g4, g5, g5b, g6] <;> rfl) (by simp only [go_sem] <;> rfl) ?_
            refine Run.yes (by simp only [go_sem] <;> rfl) (by simp only [go_sem] <;> rfl) (by simp only [go_sem] <;> rfl) ?_
            iterate 3 (refine Run.yes (by simp only [go_sem] <;> rfl) (by simp only [go_sem, g1, g2, hrl, f1, f2, f3, f4, hzr, hsa, hRl, m1, m2, m3', Bool.not_true, hy, hny, fndB_mk, Bool.true_and, Bool.false_and, Bool.and_true, Bool.and_false, Bool.or_false, Bool.false_or, Bool.true_or, Bool.or_true, hfo2, g3, g4, g5, g5b, g6] <;> rfl) (by simp only [go_sem] <;> rfl) ?_)
            refine Run.yes (by simp only [go_sem] <;> rfl) (by simp only [go_sem] <;> rfl) (by simp only [go_sem] <;> rfl) ?_
            refine Run.yes (by simp only [go_sem] <;> rfl) (by simp only [go_sem, g1, g2, hrl, f1, f2, f3, f4, hzr, hsa, hRl, m1, m2, m3', Bool.not_true, hy, hny, fndB_mk, Bool.true_and, Bool.false_and, Bool.and_true, Bool.and_false, Bool.or_false, Bool.false_or, Bool.true_or, Bool.or_true, hfo2, g3, g4, g5, g5b, g6] <;> rfl) (by simp only [go_sem] <;> rfl) ?_
            refine Run.yes (by simp only [go_sem] <;> rfl) (by simp only [go_sem] <;> rfl) (by simp only [go_sem] <;> rfl) ?_
            iterate 4 (refine Run.yes (by simp only [go_sem] <;> rfl) (by simp only [go_sem, g1, g2, hrl, f1, f2, f3, f4, hzr, hsa, hRl, m1, m2, m3', Bool.not_true, hy, hny, fndB_mk, Bool.true_and, Bool.false_and, Bool.and_true, Bool.and_false, Bool.or_false, Bool.false_or, Bool.true_or, Bool.or_true, hfo2, g3, g4, g5, g5b, g6] <;> rfl) (by simp only [go_sem] <;> rfl) ?_)
            refine Run.yes (by simp only [go_sem] <;> rfl) (by simp only [go_sem] <;> rfl) (by simp only [go_sem] <;> rfl) ?_
            iterate 3 (refine Run.yes (by simp only [go_sem] <;> rfl) (by simp only [go_sem, g1, g2, hrl, f1, f2, f3, f4, hzr, hsa, hRl, m1, m2, m3', Bool.not_true, hy, hny, fndB_mk, Bool.true_and, Bool.false_and, Bool.and_true, Bool.and_false, Bool.or_false, Bool.false_or, Bool.true_or, Bool.or_true, hfo2, g3, g4, g5, g5b, g6] <;> rfl) (by simp only [go_sem] <;> rfl) ?_)
            refine Run.yes (by simp only [go_sem] <;> rfl) (by simp only [go_sem] <;> rfl) (by simp only [go_sem] <;> rfl) ?_
            refine Run.yes (by simp only [go_sem] <;> rfl) (by simp only [go_sem, g1, g2, hrl, f1, f2, f3, f4, hzr, hsa, hRl, m1, m2, m3', Bool.not_true, hy, hny, fndB_mk, Bool.true_and, Bool.false_and, Bool.and_true, Bool.and_false, Bool.or_false, Bool.false_or, Bool.true_or, Bool.or_true, hfo2, g3, g4, g5, g5b, g6] <;> rfl) (by simp only [go_sem] <;> rfl) ?_
            refine Run.yes (by simp only [go_sem] <;> rfl) (by simp only [go_sem] <;> rfl) (by simp only [go_sem] <;> rfl) ?_
            iterate 4 (refine Run.yes (by simp only [go_sem] <;> rfl) (by simp only [go_sem, g1, g2, hrl, f1, f2, f3, f4, hzr, hsa, hRl, m1, m2, m3', Bool.not_true, hy, hny, fndB_mk, Bool.true_and, Bool.false_and, Bool.and_true, Bool.and_false, Bool.or_false, Bool.false_or, Bool.true_or, Bool.or_true, hfo2, g3, g4, g5, g5b, g6] <;> rfl) (by simp only [go_sem] <;> rfl) ?_)
            iterate 5 (refine Run.skp (by simp only [go_sem] <;> rfl) (by simp only [go_sem] <;> rfl) ?_)
            iterate 2 (refine Run.yes (by simp only [go_sem] <;> rfl) (by simp only [go_sem, g1, g2, hrl, f1, f2, f3, f4, hzr, hsa, hRl, m1, m2, m3', Bool.not_true, hy, hny, fndB_mk, Bool.true_and, Bool.false_and, Bool.and_true, Bool.and_false, Bool.or_false, Bool.false_or, Bool.true_or, Bool.or_true, hfo2, g3, g4, g5, g5b, g6] <;> rfl) (by simp only [go_sem] <;> rfl) ?_)
            refine Run.yes (by simp only [go_sem] <;> rfl) (by simp only [go_sem] <;> rfl) (by simp only [go_sem] <;> rfl) ?_
            iterate 3 (refine Run.yes (by simp only [go_sem] <;> rfl) (by simp only [go_sem, g1, g2, hrl, f1, f2, f3, f4, hzr, hsa, hRl, m1, m2, m3', Bool.not_true, hy, hny, fndB_mk, Bool.true_and, Bool.false_and, Bool.and_true, Bool.and_false, Bool.or_false, Bool.false_or, Bool.true_or, Bool.or_true, hfo2, g3, g4, g5, g5b, g6] <;> rfl) (by simp only [go_sem] <;> rfl) ?_)
            iterate 5 (refine Run.skp (by simp only [go_sem] <;> rfl) (by simp only [go_sem] <;> rfl) ?_)
            iterate 3 (refine Run.yes (by simp only [go_sem] <;> rfl) (by simp only [go_sem, g1, g2, hrl, f1, f2, f3, f4, hzr, hsa, hRl, m1, m2, m3', Bool.not_true, hy, hny, fndB_mk, Bool.true_and, Bool.false_and, Bool.and_true, Bool.and_false, Bool.or_false, Bool.false_or, Bool.true_or, Bool.or_true, hfo2, g3, g4, g5, g5b, g6] <;> rfl) (by simp only [go_sem] <;> rfl) ?_)
            refine Run.op (by simp only [go_sem, g1, g2, hrl, f1, f2, f3, f4, hzr, hsa, hRl, m1, m2, m3', Bool.not_true, hy, hny, fndB_mk, Bool.true_and, Bool.false_and, Bool.and_true, Bool.and_false, Bool.or_false, Bool.false_or, Bool.true_or, Bool.or_true, hfo2, g3, g4, g5, g5b, g6] <;> rfl) (by simp only [go_sem] <;> rfl) ?_
            refine Run.op (by simp only [go_sem] <;> rfl) (by simp only [go_sem] <;> rfl) ?_
            refine Run.nil ?_
            refine BlkK.nrm ?_
            refine Exec.reg1 ?_
            refine Run.op (by simp only [go_sem, g1, g2, hrl, f1, f2, f3, f4, hzr, hsa, hRl, m1, m2, m3', Bool.not_true, hy, hny, fndB_mk, Bool.true_and, Bool.false_and, Bool.and_true, Bool.and_false, Bool.or_false, Bool.false_or, Bool.true_or, Bool.or_true, hfo2, g3, g4, g5, g5b, g6]; (try simp (disch := omega) only [IntWalk.i64_in, IntWalk.u64_in, if_neg, if_pos])<;> rfl) (by simp only [go_sem] <;> rfl) ?_
            refine Run.op (by simp only [go_sem] <;> rfl) (by simp only [go_sem] <;> rfl) ?_
            refine Run.nil ?_
            refine ForK.nxt ?_ ?_ ?_
            · omega
            · exact Ghost.kp [0, 11, 14, 16, 26, 28, 29, 30, 277, 278, 279] [11, 16] (by simp only [go_sem, g1, g2, hrl, f1, f2, f3, f4, hzr, hsa, hRl, m1, m2, m3', Bool.not_true, hy, hny, fndB_mk, Bool.true_and, Bool.false_and, Bool.and_true, Bool.and_false, Bool.or_false, Bool.false_or, Bool.true_or, Bool.or_true, hfo2, g3, g4, g5, g5b, g6]; first | ((repeat' (first | with_reducible_and_instances rfl | refine st_eq ?_ ?_ ?_ | refine ret_eq ?_ | refine tup_eq ?_ | refine tm_eq ?_ ?_ | refine arr_eq ?_ | refine cells_eq ?_ | refine val_eq ?_ | refine ls_eq ?_ ?_ | refine own_eq ?_ ?_ | refine sl_eq ?_ | refine b_eq ?_ | (refine i_eq ?_; omega))); (all_goals (simp))) | rfl)
            · trivial
          have g5 : (ky == 2) = false := by simpa using hy2
          have g5b : (ky != 2) = true := by simpa using hy2
          refine Exec.reg1 ?_
          refine Run.op (by simp only [go_sem] <;> rfl) (by simp only [go_sem] <;> rfl) ?_
          refine Run.op (by simp only [go_sem, g1, g2, hrl, f1, f2, f3, f4, hzr, hsa, hRl, m1, m2, m3', Bool.not_true, hy, hny, fndB_mk, Bool.true_and, Bool.false_and, Bool.and_true, Bool.and_false, Bool.or_false, Bool.false_or, Bool.true_or, Bool.or_true, hfo2, g3, g4, g5, g5b] <;> rfl) (by simp only [go_sem] <;> rfl) ?_
          refine Run.yes (by simp only [go_sem] <;> rfl) (by simp only [go_sem] <;> rfl) (by simp only [go_sem] <;> rfl) ?_
          refine Run.yes (by simp only [go_sem] <;> rfl) (by simp only [go_sem, g1, g2, hrl, f1, f2, f3, f4, hzr, hsa, hRl, m1, m2, m3', Bool.not_true, hy, hny, fndB_mk, Bool.true_and, Bool.false_and, Bool.and_true, Bool.and_false, Bool.or_false, Bool.false_or, Bool.true_or, Bool.or_true, hfo2, g3, g4, g5, g5b] <;> rfl) (by simp only [go_sem] <;> rfl) ?_
          refine Run.yes (by simp only [go_sem] <;> rfl) (by simp only [go_sem] <;> rfl) (by simp only [go_sem] <;> rfl) ?_
          iterate 3 (refine Run.yes (by simp only [go_sem] <;> rfl) (by simp only [go_sem, g1, g2, hrl, f1, f2, f3, f4, hzr, hsa, hRl, m1, m2, m3', Bool.not_true, hy, hny, fndB_mk, Bool.true_and, Bool.false_and, Bool.and_true, Bool.and_false, Bool.or_false, Bool.false_or, Bool.true_or, Bool.or_true, hfo2, g3, g4, g5, g5b] <;> rfl) (by simp only [go_sem] <;> rfl) ?_)
          refine Run.yes (by simp only [go_sem] <;> rfl) (by simp only [go_sem] <;> rfl) (by simp only [go_sem] <;> rfl) ?_
          refine Run.yes (by simp only [go_sem] <;> rfl) (by simp only [go_sem, g1, g2, hrl, f1, f2, f3, f4, hzr, hsa, hRl, m1, m2, m3', Bool.not_true, hy, hny, fndB_mk, Bool.true_and, Bool.false_and, Bool.and_true, Bool.and_false, Bool.or_false, Bool.false_or, Bool.true_or, Bool.or_true, hfo2, g3, g4, g5, g5b] <;> rfl) (by simp only [go_sem] <;> rfl) ?_
          refine Run.yes (by simp only [go_sem] <;> rfl) (by simp only [go_sem] <;> rfl) (by simp only [go_sem] <;> rfl) ?_
          iterate 4 (refine Run.yes (by simp only [go_sem] <;> rfl) (by simp only [go_sem, g1, g2, hrl, f1, f2, f3, f4, hzr, hsa, hRl, m1, m2, m3', Bool.not_true, hy, hny, fndB_mk, Bool.true_and, Bool.false_and, Bool.and_true, Bool.and_false, Bool.or_false, Bool.false_or, Bool.true_or, Bool.or_true, hfo2, g3, g4, g5, g5b] <;> rfl) (by simp only [go_sem] <;> rfl) ?_)
          refine Run.yes (by simp only [go_sem] <;> rfl) (by simp only [go_sem] <;> rfl) (by simp only [go_sem] <;> rfl) ?_
          iterate 3 (refine Run.yes (by simp only [go_sem] <;> rfl) (by simp only [go_sem, g1, g2, hrl, f1, f2, f3, f4, hzr, hsa, hRl, m1, m2, m3', Bool.not_true, hy, hny, fndB_mk, Bool.true_and, Bool.false_and, Bool.and_true, Bool.and_false, Bool.or_false, Bool.false_or, Bool.true_or, Bool.or_true, hfo2, g3, g4, g5, g5b] <;> rfl) (by simp only [go_sem] <;> rfl) ?_)
          iterate 5 (refine Run.skp (by simp only [go_sem] <;> rfl) (by simp only [go_sem] <;> rfl) ?_)
          iterate 2 (refine Run.yes (by simp only [go_sem] <;> rfl) (by simp only [go_sem, g1, g2, hrl, f1, f2, f3, f4, hzr, hsa, hRl, m1, m2, m3', Bool.not_true, hy, hny, fndB_mk, Bool.true_and, Bool.false_and, Bool.and_true, Bool.and_false, Bool.or_false, Bool.false_or, Bool.true_or, Bool.or_true, hfo2, g3, g4, g5, g5b] <;> rfl) (by simp only [go_sem] <;> rfl) ?_)
          iterate 5 (refine Run.skp (by simp only [go_sem] <;> rfl) (by simp only [go_sem] <;> rfl) ?_)
          iterate 2 (refine Run.yes (by simp only [go_sem] <;> rfl) (by simp only [go_sem, g1, g2, hrl, f1, f2, f3, f4, hzr, hsa, hRl, m1, m2, m3', Bool.not_true, hy, hny, fndB_mk, Bool.true_and, Bool.false_and, Bool.and_true, Bool.and_false, Bool.or_false, Bool.false_or, Bool.true_or, Bool.or_true, hfo2, g3, g4, g5, g5b] <;> rfl) (by simp only [go_sem] <;> rfl) ?_)
          refine Run.yes (by simp only [go_sem] <;> rfl) (by simp only [go_sem] <;> rfl) (by simp only [go_sem] <;> rfl) ?_
          iterate 3 (refine Run.yes (by simp only [go_sem] <;> rfl) (by simp only [go_sem, g1, g2, hrl, f1, f2, f3, f4, hzr, hsa, hRl, m1, m2, m3', Bool.not_true, hy, hny, fndB_mk, Bool.true_and, Bool.false_and, Bool.and_true, Bool.and_false, Bool.or_false, Bool.false_or, Bool.true_or, Bool.or_true, hfo2, g3, g4, g5, g5b] <;> rfl) (by simp only [go_sem] <;> rfl) ?_)
          refine Run.yes (by simp only [go_sem] <;> rfl) (by simp only [go_sem] <;> rfl) (by simp only [go_sem] <;> rfl) ?_
          refine Run.yes (by simp only [go_sem] <;> rfl) (by simp only [go_sem, g1, g2, hrl, f1, f2, f3, f4, hzr, hsa, hRl, m1, m2, m3', Bool.not_true, hy, hny, fndB_mk, Bool.true_and, Bool.false_and, Bool.and_true, Bool.and_false, Bool.or_false, Bool.false_or, Bool.true_or, Bool.or_true, hfo2, g3, g4, g5, g5b] <;> rfl) (by simp only [go_sem] <;> rfl) ?_
          refine Run.yes (by simp only [go_sem] <;> rfl) (by simp only [go_sem] <;> rfl) (by simp only [go_sem] <;> rfl) ?_
          iterate 5 (refine Run.yes (by simp only [go_sem] <;> rfl) (by simp only [go_sem, g1, g2, hrl, f1, f2, f3, f4, hzr, hsa, hRl, m1, m2, m3', Bool.not_true, hy, hny, fndB_mk, Bool.true_and, Bool.false_and, Bool.and_true, Bool.and_false, Bool.or_false, Bool.false_or, Bool.true_or, Bool.or_true, hfo2, g3, g4, g5, g5b] <;> rfl) (by simp only [go_sem] <;> rfl) ?_)
          refine Run.op (by simp only [go_sem, g1, g2, hrl, f1, f2, f3, f4, hzr, hsa, hRl, m1, m2, m3', Bool.not_true, hy, hny, fndB_mk, Bool.true_and, Bool.false_and, Bool.and_true, Bool.and_false, Bool.or_false, Bool.false_or, Bool.true_or, Bool.or_true, hfo2, g3, g4, g5, g5b] <;> rfl) (by simp only [go_sem] <;> rfl) ?_
          refine Run.op (by simp only [go_sem] <;> rfl) (by simp only [go_sem] <;> rfl) ?_
          refine Run.nil ?_
          refine BlkK.nrm ?_
          refine Exec.reg1 ?_
          refine Run.op (by simp only [go_sem, g1, g2, hrl, f1, f2, f3, f4, hzr, hsa, hRl, m1, m2, m3', Bool.not_true, hy, hny, fndB_mk, Bool.true_and, Bool.false_and, Bool.and_true, Bool.and_false, Bool.or_false, Bool.false_or, Bool.true_or, Bool.or_true, hfo2, g3, g4, g5, g5b]; (try simp (disch := omega) only [IntWalk.i64_in, IntWalk.u64_in, if_neg, if_pos])<;> rfl) (by simp only [go_sem] <;> rfl) ?_
          refine Run.op (by simp only [go_sem] <;> rfl) (by simp only [go_sem] <;> rfl) ?_
          refine Run.nil ?_
          refine ForK.nxt ?_ ?_ ?_
          · omega
          · exact Ghost.kp [0, 11, 14, 16, 26, 28, 29, 30, 277, 278, 279] [11, 16] (by simp only [go_sem, g1, g2, hrl, f1, f2, f3, f4, hzr, hsa, hRl, m1, m2, m3', Bool.not_true, hy, hny, fndB_mk, Bool.true_and, Bool.false_and, Bool.and_true, Bool.and_false, Bool.or_false, Bool.false_or, Bool.true_or, Bool.or_true, hfo2, g3, g4, g5, g5b]; first | ((repeat' (first | with_reducible_and_instances rfl | refine st_eq ?_ ?_ ?_ | refine ret_eq ?_ | refine tup_eq ?_ | refine tm_eq ?_ ?_ | refine arr_eq ?_ | refine cells_eq ?_ | refine val_eq ?_ | refine ls_eq ?_ ?_ | refine own_eq ?_ ?_ | refine sl_eq ?_ | refine b_eq ?_ | (refine i_eq ?_; omega))); (all_goals (simp))) | rfl)
          · trivial
        have g4 : (ya == ((aN : Nat) : Int)) = false := by simpa using hya
        refine Exec.reg1 ?_
        refine Run.op (by simp only [go_sem] <;> rfl) (by simp only [go_sem] <;> rfl) ?_
        refine Run.op (by simp only [go_sem, g1, g2, hrl, f1, f2, f3, f4, hzr, hsa, hRl, m1, m2, m3', Bool.not_true, hy, hny, fndB_mk, Bool.true_and, Bool.false_and, Bool.and_true, Bool.and_false, Bool.or_false, Bool.false_or, Bool.true_or, Bool.or_true, hfo2, g3, g4] <;> rfl) (by simp only [go_sem] <;> rfl) ?_
        refine Run.yes (by simp only [go_sem] <;> rfl) (by simp only [go_sem] <;> rfl) (by simp only [go_sem] <;> rfl) ?_
        refine Run.yes (by simp only [go_sem] <;> rfl) (by simp only [go_sem, g1, g2, hrl, f1, f2, f3, f4, hzr, hsa, hRl, m1, m2, m3', Bool.not_true, hy, hny, fndB_mk, Bool.true_and, Bool.false_and, Bool.and_true, Bool.and_false, Bool.or_false, Bool.false_or, Bool.true_or, Bool.or_true, hfo2, g3, g4] <;> rfl) (by simp only [go_sem] <;> rfl) ?_
        refine Run.yes (by simp only [go_sem] <;> rfl) (by simp only [go_sem] <;> rfl) (by simp only [go_sem] <;> rfl) ?_
        iterate 3 (refine Run.yes (by simp only [go_sem] <;> rfl) (by simp only [go_sem, g1, g2, hrl, f1, f2, f3, f4, hzr, hsa, hRl, m1, m2, m3', Bool.not_true, hy, hny, fndB_mk, Bool.true_and, Bool.false_and, Bool.and_true, Bool.and_false, Bool.or_false, Bool.false_or, Bool.true_or, Bool.or_true, hfo2, g3, g4] <;> rfl) (by simp only [go_sem] <;> rfl) ?_)
        refine Run.yes (by simp only [go_sem] <;> rfl) (by simp only [go_sem] <;> rfl) (by simp only [go_sem] <;> rfl) ?_
        refine Run.yes (by simp only [go_sem] <;> rfl) (by simp only [go_sem, g1, g2, hrl, f1, f2, f3, f4, hzr, hsa, hRl, m1, m2, m3', Bool.not_true, hy, hny, fndB_mk, Bool.true_and, Bool.false_and, Bool.and_true, Bool.and_false, Bool.or_false, Bool.false_or, Bool.true_or, Bool.or_true, hfo2, g3, g4] <;> rfl) (by simp only [go_sem] <;> rfl) ?_
        refine Run.yes (by simp only [go_sem] <;> rfl) (by simp only [go_sem] <;> rfl) (by simp only [go_sem] <;> rfl) ?_
        iterate 4 (refine Run.yes (by simp only [go_sem] <;> rfl) (by simp only [go_sem, g1, g2, hrl, f1, f2, f3, f4, hzr, hsa, hRl, m1, m2, m3', Bool.not_true, hy, hny, fndB_mk, Bool.true_and, Bool.false_and, Bool.and_true, Bool.and_false, Bool.or_false, Bool.false_or, Bool.true_or, Bool.or_true, hfo2, g3, g4] <;> rfl) (by simp only [go_sem] <;> rfl) ?_)
        iterate 29 (refine Run.skp (by simp only [go_sem] <;> rfl) (by simp only [go_sem] <;> rfl) ?_)
        refine Run.yes (by simp only [go_sem] <;> rfl) (by simp only [go_sem, g1, g2, hrl, f1, f2, f3, f4, hzr, hsa, hRl, m1, m2, m3', Bool.not_true, hy, hny, fndB_mk, Bool.true_and, Bool.false_and, Bool.and_true, Bool.and_false, Bool.or_false, Bool.false_or, Bool.true_or, Bool.or_true, hfo2, g3, g4] <;> rfl) (by simp only [go_sem] <;> rfl) ?_
        refine Run.op (by simp only [go_sem, g1, g2, hrl, f1, f2, f3, f4, hzr, hsa, hRl, m1, m2, m3', Bool.not_true, hy, hny, fndB_mk, Bool.true_and, Bool.false_and, Bool.and_true, Bool.and_false, Bool.or_false, Bool.false_or, Bool.true_or, Bool.or_true, hfo2, g3, g4] <;> rfl) (by simp only [go_sem] <;> rfl) ?_
        refine Run.op (by simp only [go_sem] <;> rfl) (by simp only [go_sem] <;> rfl) ?_
        refine Run.nil ?_
        refine BlkK.nrm ?_
        refine Exec.reg1 ?_
        refine Run.op (by simp only [go_sem, g1, g2, hrl, f1, f2, f3, f4, hzr, hsa, hRl, m1, m2, m3', Bool.not_true, hy, hny, fndB_mk, Bool.true_and, Bool.false_and, Bool.and_true, Bool.and_false, Bool.or_false, Bool.false_or, Bool.true_or, Bool.or_true, hfo2, g3, g4]; (try simp (disch := omega) only [IntWalk.i64_in, IntWalk.u64_in, if_neg, if_pos])<;> rfl) (by simp only [go_sem] <;> rfl) ?_
        refine Run.op (by simp only [go_sem] <;> rfl) (by simp only [go_sem] <;> rfl) ?_
        refine Run.nil ?_
        refine ForK.nxt ?_ ?_ ?_
        · omega
        · exact Ghost.kp [0, 11, 14, 16, 26, 28, 29, 30, 277, 278, 279] [11, 16] (by simp only [go_sem, g1, g2, hrl, f1, f2, f3, f4, hzr, hsa, hRl, m1, m2, m3', Bool.not_true, hy, hny, fndB_mk, Bool.true_and, Bool.false_and, Bool.and_true, Bool.and_false, Bool.or_false, Bool.false_or, Bool.true_or, Bool.or_true, hfo2, g3, g4]; first | ((repeat' (first | with_reducible_and_instances rfl | refine st_eq ?_ ?_ ?_ | refine ret_eq ?_ | refine tup_eq ?_ | refine tm_eq ?_ ?_ | refine arr_eq ?_ | refine cells_eq ?_ | refine val_eq ?_ | refine ls_eq ?_ ?_ | refine own_eq ?_ ?_ | refine sl_eq ?_ | refine b_eq ?_ | (refine i_eq ?_; omega))); (all_goals (simp))) | rfl)
        · trivial
      have g3 : (ky == ((kd : Nat) : Int)) = false := by simpa using hyk
      refine Exec.reg1 ?_
      refine Run.op (by simp only [go_sem] <;> rfl) (by simp only [go_sem] <;> rfl) ?_
      refine Run.op (by simp only [go_sem, g1, g2, hrl, f1, f2, f3, f4, hzr, hsa, hRl, m1, m2, m3', Bool.not_true, hy, hny, fndB_mk, Bool.true_and, Bool.false_and, Bool.and_true, Bool.and_false, Bool.or_false, Bool.false_or, Bool.true_or, Bool.or_true, hfo2, g3] <;> rfl) (by simp only [go_sem] <;> rfl) ?_
      refine Run.yes (by simp only [go_sem] <;> rfl) (by simp only [go_sem] <;> rfl) (by simp only [go_sem] <;> rfl) ?_
      refine Run.yes (by simp only [go_sem] <;> rfl) (by simp only [go_sem, g1, g2, hrl, f1, f2, f3, f4, hzr, hsa, hRl, m1, m2, m3', Bool.not_true, hy, hny, fndB_mk, Bool.true_and, Bool.false_and, Bool.and_true, Bool.and_false, Bool.or_false, Bool.false_or, Bool.true_or, Bool.or_true, hfo2, g3] <;> rfl) (by simp only [go_sem] <;> rfl) ?_
      refine Run.yes (by simp only [go_sem] <;> rfl) (by simp only [go_sem] <;> rfl) (by simp only [go_sem] <;> rfl) ?_
      iterate 3 (refine Run.yes (by simp only [go_sem] <;> rfl) (by simp only [go_sem, g1, g2, hrl, f1, f2, f3, f4, hzr, hsa, hRl, m1, m2, m3', Bool.not_true, hy, hny, fndB_mk, Bool.true_and, Bool.false_and, Bool.and_true, Bool.and_false, Bool.or_false, Bool.false_or, Bool.true_or, Bool.or_true, hfo2, g3] <;> rfl) (by simp only [go_sem] <;> rfl) ?_)
      iterate 5 (refine Run.skp (by simp only [go_sem] <;> rfl) (by simp only [go_sem] <;> rfl) ?_)
      iterate 2 (refine Run.yes (by simp only [go_sem] <;> rfl) (by simp only [go_sem, g1, g2, hrl, f1, f2, f3, f4, hzr, hsa, hRl, m1, m2, m3', Bool.not_true, hy, hny, fndB_mk, Bool.true_and, Bool.false_and, Bool.and_true, Bool.and_false, Bool.or_false, Bool.false_or, Bool.true_or, Bool.or_true, hfo2, g3] <;> rfl) (by simp only [go_sem] <;> rfl) ?_)
      iterate 29 (refine Run.skp (by simp only [go_sem] <;> rfl) (by simp only [go_sem] <;> rfl) ?_)
      refine Run.yes (by simp only [go_sem] <;> rfl) (by simp only [go_sem, g1, g2, hrl, f1, f2, f3, f4, hzr, hsa, hRl, m1, m2, m3', Bool.not_true, hy, hny, fndB_mk, Bool.true_and, Bool.false_and, Bool.and_true, Bool.and_false, Bool.or_false, Bool.false_or, Bool.true_or, Bool.or_true, hfo2, g3] <;> rfl) (by simp only [go_sem] <;> rfl) ?_
      refine Run.op (by simp only [go_sem, g1, g2, hrl, f1, f2, f3, f4, hzr, hsa, hRl, m1, m2, m3', Bool.not_true, hy, hny, fndB_mk, Bool.true_and, Bool.false_and, Bool.and_true, Bool.and_false, Bool.or_false, Bool.false_or, Bool.true_or, Bool.or_true, hfo2, g3] <;> rfl) (by simp only [go_sem] <;> rfl) ?_
      refine Run.op (by simp only [go_sem] <;> rfl) (by simp only [go_sem] <;> rfl) ?_
      refine Run.nil ?_
      refine BlkK.nrm ?_
      refine Exec.reg1 ?_
      refine Run.op (by simp only [go_sem, g1, g2, hrl, f1, f2, f3, f4, hzr, hsa, hRl, m1, m2, m3', Bool.not_true, hy, hny, fndB_mk, Bool.true_and, Bool.false_and, Bool.and_true, Bool.and_false, Bool.or_false, Bool.false_or, Bool.true_or, Bool.or_true, hfo2, g3]; (try simp (disch := omega) only [IntWalk.i64_in, IntWalk.u64_in, if_neg, if_pos])<;> rfl) (by simp only [go_sem] <;> rfl) ?_
      refine Run.op (by simp only [go_sem] <;> rfl) (by simp only [go_sem] <;> rfl) ?_
      refine Run.nil ?_
      refine ForK.nxt ?_ ?_ ?_
      · omega
      · exact Ghost.kp [0, 11, 14, 16, 26, 28, 29, 30, 277, 278, 279] [11, 16] (by simp only [go_sem, g1, g2, hrl, f1, f2, f3, f4, hzr, hsa, hRl, m1, m2, m3', Bool.not_true, hy, hny, fndB_mk, Bool.true_and, Bool.false_and, Bool.and_true, Bool.and_false, Bool.or_false, Bool.false_or, Bool.true_or, Bool.or_true, hfo2, g3]; first | ((repeat' (first | with_reducible_and_instances rfl | refine st_eq ?_ ?_ ?_ | refine ret_eq ?_ | refine tup_eq ?_ | refine tm_eq ?_ ?_ | refine arr_eq ?_ | refine cells_eq ?_ | refine val_eq ?_ | refine ls_eq ?_ ?_ | refine own_eq ?_ ?_ | refine sl_eq ?_ | refine b_eq ?_ | (refine i_eq ?_; omega))); (all_goals (simp))) | rfl)
      · trivial
    have hke : k = lS.length := by have := ge_of_dec hb280; omega
    subst hke
    have hfin : (lS.take lS.length).any (fndB ((kd : Nat) : Int) ((aN : Nat) : Int) ((B : Nat) : Int)) = true := by rw [List.take_length]; exact m4'
    refine Exec.exitS ?_
    refine ForK.ext ?_
    refine BlkK.hit ?_
    refine Exec.assocS ?_
    refine Exec.reg ?_
    refine Run.op (by simp only [go_sem] <;> rfl) (by simp only [go_sem] <;> rfl) ?_
    refine Run.op (by simp only [go_sem, g1, g2, hrl, f1, f2, f3, f4, hzr, hsa, hRl, m1, m2, m3', Bool.not_true, hfin, m4'] <;> rfl) (by simp only [go_sem] <;> rfl) ?_
    refine Run.nil ?_
    refine Exec.cndS (by simp only [go_sem, g1, g2, hrl, f1, f2, f3, f4, hzr, hsa, hRl, m1, m2, m3', Bool.not_true, hfin, m4'] <;> rfl) (fun hb331 => ?_) (fun hb331 => ?_)
    · exact absurd hb331 (by simp)
    refine Exec.skipS ?_
    refine Exec.assocS ?_
    refine Exec.reg ?_
    refine Run.op (by simp only [go_sem] <;> rfl) (by simp only [go_sem] <;> rfl) ?_
    iterate 2 (refine Run.op (by simp only [go_sem, g1, g2, hrl, f1, f2, f3, f4, hzr, hsa, hRl, m1, m2, m3', Bool.not_true, hfin, m4'] <;> rfl) (by simp only [go_sem] <;> rfl) ?_)
    refine Run.nil ?_
    refine Exec.cndS (by simp only [go_sem, g1, g2, hrl, f1, f2, f3, f4, hzr, hsa, hRl, m1, m2, m3', Bool.not_true, hfin, m4'] <;> rfl) (fun hb334 => ?_) (fun hb334 => ?_)
    · skip
      have hl1 : 1 < lS.length := by have := of_decide_eq_true hb334; omega
      have m7 := m5' hl1
      refine Exec.assocS ?_
      refine Exec.reg ?_
      refine Run.op (by simp only [go_sem] <;> rfl) (by simp only [go_sem] <;> rfl) ?_
      iterate 2 (refine Run.op (by simp only [go_sem, g1, g2, hrl, f1, f2, f3, f4, hzr, hsa, hRl, m1, m2, m3', Bool.not_true, hfin, m4', m7] <;> rfl) (by simp only [go_sem] <;> rfl) ?_)
      refine Run.yes (by simp only [go_sem] <;> rfl) (by simp only [go_sem] <;> rfl) (by simp only [go_sem] <;> rfl) ?_
      iterate 2 (refine Run.yes (by simp only [go_sem] <;> rfl) (by simp only [go_sem, g1, g2, hrl, f1, f2, f3, f4, hzr, hsa, hRl, m1, m2, m3', Bool.not_true, hfin, m4', m7] <;> rfl) (by simp only [go_sem] <;> rfl) ?_)
      iterate 2 (refine Run.op (by simp only [go_sem, g1, g2, hrl, f1, f2, f3, f4, hzr, hsa, hRl, m1, m2, m3', Bool.not_true, hfin, m4', m7] <;> rfl) (by simp only [go_sem] <;> rfl) ?_)
      refine Run.calw (by simp only [go_sem] <;> rfl) (c_law_alive) (by simp only [go_sem]) (by simp only [go_sem, g1, g2, hrl, f1, f2, f3, f4, hzr, hsa, hRl, m1, m2, m3', Bool.not_true, hfin, m4', m7] <;> rfl) (by simp only [go_sem, g1, g2, hrl, f1, f2, f3, f4, hzr, hsa, hRl, m1, m2, m3', Bool.not_true, hfin, m4', m7] <;> rfl) (by exact trivial) (fr0) (by simp only [go_sem, g1, g2, hrl, f1, f2, f3, f4, hzr, hsa, hRl, m1, m2, m3', Bool.not_true, hfin, m4', m7] <;> rfl) ?_
      refine Run.op (by simp only [go_sem, g1, g2, hrl, f1, f2, f3, f4, hzr, hsa, hRl, m1, m2, m3', Bool.not_true, hfin, m4', m7] <;> rfl) (by simp only [go_sem] <;> rfl) ?_
      refine Run.op (by simp only [go_sem] <;> rfl) (by simp only [go_sem] <;> rfl) ?_
      refine Run.nil ?_
      refine Exec.retS ?_
      exact Ends.fin [] (rs := [.tmp 10]) rfl (by simp only [go_sem, g1, g2, hrl, f1, f2, f3, f4, hzr, hsa, hRl, m1, m2, m3', Bool.not_true, hfin, m4', m7] <;> rfl) (by simp only [go_sem, g1, g2, hrl, f1, f2, f3, f4, hzr, hsa, hRl, m1, m2, m3', Bool.not_true, hfin, m4', m7] <;> first | rfl | ((repeat' (first | with_reducible_and_instances rfl | refine st_eq ?_ ?_ ?_ | refine ret_eq ?_ | refine tup_eq ?_ | refine tm_eq ?_ ?_ | refine arr_eq ?_ | refine cells_eq ?_ | refine val_eq ?_ | refine ls_eq ?_ ?_ | refine own_eq ?_ ?_ | refine sl_eq ?_ | refine b_eq ?_ | (refine i_eq ?_; omega))); done))
    have hl1 : ¬ 1 < lS.length := by have := of_decide_eq_false hb334; omega
    obtain ⟨y, hy⟩ := list_one m4' hl1
    obtain ⟨m7, m8⟩ := m6 y (hlS.trans hy)
    obtain ⟨ky, ya, yb, yc⟩ := y
    subst hy
    have hyb : -1000 ≤ yb ∧ yb ≤ 1000 := allS_b (w := (⟨rates, R⟩ : Walk)) (by show R.length ≤ 24; omega) (x := ⟨ky, ya, yb, yc⟩) (by rw [hlS]; simp)
    have hwl2 := hwl ((B : Int) - yb)
    refine Exec.skipS ?_
    refine Exec.reg ?_
    iterate 5 (refine Run.op (by simp only [go_sem] <;> rfl) (by simp only [go_sem] <;> rfl) ?_)
    refine Run.nil ?_
    refine Exec.reg ?_
    refine Run.op (by simp only [go_sem, g1, g2, hrl, f1, f2, f3, f4, hzr, hsa, hRl, m1, m2, m3', Bool.not_true, hfin, m4', m7, m8] <;> rfl) (by simp only [go_sem] <;> rfl) ?_
    refine Run.cal (c_card_Misfit (⟨rates, wantL (⟨rates, rl⟩ : Walk) kd aN ((B : Int) - yb)⟩ : Walk) (by simp only; omega) (by simp only; omega) (fun _ => h20_of (by simp only; omega))) (by simp only [go_sem]) (by simp only [go_sem, g1, g2, hrl, f1, f2, f3, f4, hzr, hsa, hRl, m1, m2, m3', Bool.not_true, hfin, m4', m7, m8] <;> rfl) (by exact ⟨by first | exact WkR.pure rfl | exact WkR.nil _ | exact WkR.int (by first | omega | (simp; done) | (simp; omega)), trivial⟩) (fr0) (by simp only [go_sem, g1, g2, hrl, f1, f2, f3, f4, hzr, hsa, hRl, m1, m2, m3', Bool.not_true, hfin, m4', m7, m8] <;> rfl) ?_
    refine Run.op (by simp only [go_sem] <;> rfl) (by simp only [go_sem] <;> rfl) ?_
    iterate 3 (refine Run.op (by simp only [go_sem, g1, g2, hrl, f1, f2, f3, f4, hzr, hsa, hRl, m1, m2, m3', Bool.not_true, hfin, m4', m7, m8] <;> rfl) (by simp only [go_sem] <;> rfl) ?_)
    iterate 3 (refine Run.op (by simp only [go_sem] <;> rfl) (by simp only [go_sem] <;> rfl) ?_)
    refine Run.nil ?_
    refine Exec.assocS ?_
    refine Exec.reg ?_
    refine Run.op (by simp only [go_sem] <;> rfl) (by simp only [go_sem] <;> rfl) ?_
    iterate 2 (refine Run.op (by simp only [go_sem, g1, g2, hrl, f1, f2, f3, f4, hzr, hsa, hRl, m1, m2, m3', Bool.not_true, hfin, m4', m7, m8] <;> rfl) (by simp only [go_sem] <;> rfl) ?_)
    refine Run.yes (by simp only [go_sem] <;> rfl) (by simp only [go_sem] <;> rfl) (by simp only [go_sem] <;> rfl) ?_
    refine Run.yes (by simp only [go_sem] <;> rfl) (by simp only [go_sem, g1, g2, hrl, f1, f2, f3, f4, hzr, hsa, hRl, m1, m2, m3', Bool.not_true, hfin, m4', m7, m8] <;> rfl) (by simp only [go_sem] <;> rfl) ?_
    refine Run.op (by simp only [go_sem, g1, g2, hrl, f1, f2, f3, f4, hzr, hsa, hRl, m1, m2, m3', Bool.not_true, hfin, m4', m7, m8] <;> rfl) (by simp only [go_sem] <;> rfl) ?_
    refine Run.nil ?_
    refine Exec.cndS (by simp only [go_sem, g1, g2, hrl, f1, f2, f3, f4, hzr, hsa, hRl, m1, m2, m3', Bool.not_true, hfin, m4', m7, m8] <;> rfl) (fun hb359 => ?_) (fun hb359 => ?_)
    · exact absurd hb359 (by simp)
    refine Exec.skipS ?_
    refine Exec.reg ?_
    refine Run.op (by simp only [go_sem, g1, g2, hrl, f1, f2, f3, f4, hzr, hsa, hRl, m1, m2, m3', Bool.not_true, hfin, m4', m7, m8] <;> rfl) (by simp only [go_sem] <;> rfl) ?_
    refine Run.op (by simp only [go_sem] <;> rfl) (by simp only [go_sem] <;> rfl) ?_
    refine Run.op (by simp only [go_sem, g1, g2, hrl, f1, f2, f3, f4, hzr, hsa, hRl, m1, m2, m3', Bool.not_true, hfin, m4', m7, m8] <;> rfl) (by simp only [go_sem] <;> rfl) ?_
    refine Run.op (by simp only [go_sem, g1, g2, hrl, f1, f2, f3, f4, hzr, hsa, hRl, m1, m2, m3', Bool.not_true, hfin, m4', m7, m8]; (try simp (disch := omega) only [if_pos]); (try simp only [go_sem, g1, g2, hrl, f1, f2, f3, f4, hzr, hsa, hRl, m1, m2, m3', Bool.not_true, hfin, m4', m7, m8]) <;> first | (refine ite_run ⟨by (try simp only [List.length_append, List.length_drop, List.length_take, List.length_map, List.length_cons, List.length_nil, List.length_replicate, List.length_set, List.length_range, Nat.zero_add]); omega, by (try simp only [List.length_append, List.length_drop, List.length_take, List.length_map, List.length_cons, List.length_nil, List.length_replicate, List.length_set, List.length_range, Nat.zero_add]); omega, by repeat (first | exact al_nil | assumption | refine al_app ?_ ?_ | refine al_drop ?_ | refine al_take ?_ | exact al_map (fun _ => rfl) | exact al_rep rfl | refine al_cons rfl ?_)⟩ ?_; simp only [go_sem, g1, g2, hrl, f1, f2, f3, f4, hzr, hsa, hRl, m1, m2, m3', Bool.not_true, hfin, m4', m7, m8] <;> rfl) | (refine ite_run ⟨by (try simp only [List.length_append, List.length_drop, List.length_take, List.length_map, List.length_cons, List.length_nil, List.length_replicate, List.length_set, List.length_range, Nat.zero_add]); omega, by repeat (first | exact al_nil | assumption | refine al_app ?_ ?_ | refine al_drop ?_ | refine al_take ?_ | exact al_map (fun _ => rfl) | exact al_rep rfl | refine al_cons rfl ?_)⟩ ?_; simp only [go_sem, g1, g2, hrl, f1, f2, f3, f4, hzr, hsa, hRl, m1, m2, m3', Bool.not_true, hfin, m4', m7, m8] <;> rfl) | rfl) (by simp only [go_sem] <;> rfl) ?_
    refine Run.op (by simp only [go_sem] <;> rfl) (by simp only [go_sem] <;> rfl) ?_
    refine Run.nil ?_
    refine Exec.assocS ?_
    refine Exec.reg ?_
    refine Run.op (by simp only [go_sem] <;> rfl) (by simp only [go_sem] <;> rfl) ?_
    refine Run.op (by simp only [go_sem, g1, g2, hrl, f1, f2, f3, f4, hzr, hsa, hRl, m1, m2, m3', Bool.not_true, hfin, m4', m7, m8] <;> rfl) (by simp only [go_sem] <;> rfl) ?_
    refine Run.nil ?_
    refine Exec.blk ?_
    refine Exec.reg ?_
    refine Run.op (by simp only [go_sem, g1, g2, hrl, f1, f2, f3, f4, hzr, hsa, hRl, m1, m2, m3', Bool.not_true, hfin, m4', m7, m8] <;> rfl) (by simp only [go_sem] <;> rfl) ?_
    refine Run.op (by simp only [go_sem] <;> rfl) (by simp only [go_sem] <;> rfl) ?_
    refine Run.nil ?_
    refine Exec.cnd (by simp only [go_sem, g1, g2, hrl, f1, f2, f3, f4, hzr, hsa, hRl, m1, m2, m3', Bool.not_true, hfin, m4', m7, m8] <;> rfl) (fun hb366 => ?_) (fun hb366 => ?_)
    · skip
      have hkd9 : ((kd : Nat) : Int) = 1 := by simpa using hb366
      have hkd : kd = 1 := by omega
      have hfy : ((List.take aN (List.map encReading rl)).length + (List.take (rl.length - (aN + 1)) (List.drop (aN + 1) (List.map encReading rl))).length + (List.drop (aN + (List.take (rl.length - (aN + 1)) (List.drop (aN + 1) (List.map encReading rl))).length) (List.map encReading rl)).length = rl.length) = True := by simp; omega
      have hyl : aN + (List.take (rl.length - (aN + 1)) (List.drop (aN + 1) (List.map encReading rl))).length = rl.length - 1 := by simp; omega
      have hfz : List.take (aN + (List.take (rl.length - (aN + 1)) (List.drop (aN + 1) (List.map encReading rl))).length) (List.take aN (List.map encReading rl) ++ (List.take (rl.length - (aN + 1)) (List.drop (aN + 1) (List.map encReading rl))) ++ List.drop (aN + (List.take (rl.length - (aN + 1)) (List.drop (aN + 1) (List.map encReading rl))).length) (List.map encReading rl)) = (wantL (⟨rates, rl⟩ : Walk) kd aN ((B : Int) - yb)).map encReading := by
        unfold wantL
        rw [if_pos hkd]
        have hl2 : (List.take aN (List.map encReading rl) ++ (List.take (rl.length - (aN + 1)) (List.drop (aN + 1) (List.map encReading rl)))).length = aN + (List.take (rl.length - (aN + 1)) (List.drop (aN + 1) (List.map encReading rl))).length := by rw [List.length_append, List.length_take, List.length_map, Nat.min_eq_left (by omega)]
        rw [← hl2, List.take_left, List.take_of_length_le (show (List.drop (aN + 1) (List.map encReading rl)).length ≤ rl.length - (aN + 1) by simp)]
        simp
      have t1 : ((aN : Int) + 1).toNat = aN + 1 := by omega
      have t4 : (aN = rl.length) = False := by simp; omega
      refine Exec.opk1 11 ?_
      iterate 2 (refine OpenK.op (by simp only [go_sem, g1, g2, hrl, f1, f2, f3, f4, hzr, hsa, hRl, m1, m2, m3', Bool.not_true, hfin, m4', m7, m8, t1, t4, and_false, Int.toNat_zero, Nat.sub_zero, Nat.zero_add] <;> rfl) (by simp only [go_sem] <;> rfl) (by simp only [go_sem] <;> rfl) ?_)
      refine OpenK.op (by simp only [go_sem, g1, g2, hrl, f1, f2, f3, f4, hzr, hsa, hRl, m1, m2, m3', Bool.not_true, hfin, m4', m7, m8, t1, t4, and_false, Int.toNat_zero, Nat.sub_zero, Nat.zero_add]; (try simp (disch := omega) only [if_pos]); (try simp only [go_sem, g1, g2, hrl, f1, f2, f3, f4, hzr, hsa, hRl, m1, m2, m3', Bool.not_true, hfin, m4', m7, m8, t1, t4, and_false, Int.toNat_zero, Nat.sub_zero, Nat.zero_add])<;> rfl) (by simp only [go_sem] <;> rfl) (by simp only [go_sem] <;> rfl) ?_
      iterate 2 (refine OpenK.op (by simp only [go_sem, g1, g2, hrl, f1, f2, f3, f4, hzr, hsa, hRl, m1, m2, m3', Bool.not_true, hfin, m4', m7, m8, t1, t4, and_false, Int.toNat_zero, Nat.sub_zero, Nat.zero_add] <;> rfl) (by simp only [go_sem] <;> rfl) (by simp only [go_sem] <;> rfl) ?_)
      refine OpenK.op (by simp only [go_sem, g1, g2, hrl, f1, f2, f3, f4, hzr, hsa, hRl, m1, m2, m3', Bool.not_true, hfin, m4', m7, m8, t1, t4, and_false, Int.toNat_zero, Nat.sub_zero, Nat.zero_add]; (try simp (disch := omega) only [IntWalk.i64_in, IntWalk.u64_in, if_neg, if_pos])<;> rfl) (by simp only [go_sem] <;> rfl) (by simp only [go_sem] <;> rfl) ?_
      refine OpenK.op (by simp only [go_sem, g1, g2, hrl, f1, f2, f3, f4, hzr, hsa, hRl, m1, m2, m3', Bool.not_true, hfin, m4', m7, m8, t1, t4, and_false, Int.toNat_zero, Nat.sub_zero, Nat.zero_add]; (try simp (disch := omega) only [if_pos]); (try simp only [go_sem, g1, g2, hrl, f1, f2, f3, f4, hzr, hsa, hRl, m1, m2, m3', Bool.not_true, hfin, m4', m7, m8, t1, t4, and_false, Int.toNat_zero, Nat.sub_zero, Nat.zero_add])<;> rfl) (by simp only [go_sem] <;> rfl) (by simp only [go_sem] <;> rfl) ?_
      refine OpenK.op (by simp only [go_sem, g1, g2, hrl, f1, f2, f3, f4, hzr, hsa, hRl, m1, m2, m3', Bool.not_true, hfin, m4', m7, m8, t1, t4, and_false, Int.toNat_zero, Nat.sub_zero, Nat.zero_add]; (try simp (disch := omega) only [if_pos]); (try simp only [go_sem, g1, g2, hrl, f1, f2, f3, f4, hzr, hsa, hRl, m1, m2, m3', Bool.not_true, hfin, m4', m7, m8, t1, t4, and_false, Int.toNat_zero, Nat.sub_zero, Nat.zero_add]) <;> first | (refine ite_run ⟨by (try simp only [List.length_append, List.length_drop, List.length_take, List.length_map, List.length_cons, List.length_nil, List.length_replicate, List.length_set, List.length_range, Nat.zero_add]); omega, by (try simp only [List.length_append, List.length_drop, List.length_take, List.length_map, List.length_cons, List.length_nil, List.length_replicate, List.length_set, List.length_range, Nat.zero_add]); omega, by repeat (first | exact al_nil | assumption | refine al_app ?_ ?_ | refine al_drop ?_ | refine al_take ?_ | exact al_map (fun _ => rfl) | exact al_rep rfl | refine al_cons rfl ?_)⟩ ?_; simp only [go_sem, g1, g2, hrl, f1, f2, f3, f4, hzr, hsa, hRl, m1, m2, m3', Bool.not_true, hfin, m4', m7, m8, t1, t4, and_false, Int.toNat_zero, Nat.sub_zero, Nat.zero_add] <;> rfl) | (refine ite_run ⟨by (try simp only [List.length_append, List.length_drop, List.length_take, List.length_map, List.length_cons, List.length_nil, List.length_replicate, List.length_set, List.length_range, Nat.zero_add]); omega, by repeat (first | exact al_nil | assumption | refine al_app ?_ ?_ | refine al_drop ?_ | refine al_take ?_ | exact al_map (fun _ => rfl) | exact al_rep rfl | refine al_cons rfl ?_)⟩ ?_; simp only [go_sem, g1, g2, hrl, f1, f2, f3, f4, hzr, hsa, hRl, m1, m2, m3', Bool.not_true, hfin, m4', m7, m8, t1, t4, and_false, Int.toNat_zero, Nat.sub_zero, Nat.zero_add] <;> rfl) | rfl) (by simp only [go_sem] <;> rfl) (by simp only [go_sem] <;> rfl) ?_
      refine OpenK.op (by simp only [go_sem, g1, g2, hrl, f1, f2, f3, f4, hzr, hsa, hRl, m1, m2, m3', Bool.not_true, hfin, m4', m7, m8, t1, t4, and_false, Int.toNat_zero, Nat.sub_zero, Nat.zero_add] <;> rfl) (by simp only [go_sem] <;> rfl) (by simp only [go_sem] <;> rfl) ?_
      refine OpenK.nil (OpenE.fin (by decide +kernel) (by decide +kernel) ?_)
      refine BlkK.nrm ?_
      refine Exec.reg ?_
      refine Run.frz 360 (by simp only [go_sem, hfy, hfz, if_true] <;> rfl) ?_
      iterate 2 (refine Run.op (by simp only [go_sem] <;> rfl) (by simp only [go_sem] <;> rfl) ?_)
      refine Run.cal (c_meterworksref12_Readings (wantL (⟨rates, rl⟩ : Walk) kd aN ((B : Int) - yb)) (wantL (⟨rates, rl⟩ : Walk) kd aN ((B : Int) - yb)) (by omega) (by omega)) (by simp only [go_sem]) (by simp only [go_sem, g1, g2, hrl, f1, f2, f3, f4, hzr, hsa, hRl, m1, m2, m3', Bool.not_true, hfin, m4', m7, m8, t1, t4, and_false, Int.toNat_zero, Nat.sub_zero, Nat.zero_add] <;> rfl) (by exact ⟨by first | exact WkR.pure rfl | exact WkR.nil _ | exact WkR.int (by first | omega | (simp; done) | (simp; omega)), by first | exact WkR.pure rfl | exact WkR.nil _ | exact WkR.int (by first | omega | (simp; done) | (simp; omega)), trivial⟩) (fr0) (by simp only [go_sem, g1, g2, hrl, f1, f2, f3, f4, hzr, hsa, hRl, m1, m2, m3', Bool.not_true, hfin, m4', m7, m8, t1, t4, and_false, Int.toNat_zero, Nat.sub_zero, Nat.zero_add] <;> rfl) ?_
      refine Run.op (by simp only [go_sem, g1, g2, hrl, f1, f2, f3, f4, hzr, hsa, hRl, m1, m2, m3', Bool.not_true, hfin, m4', m7, m8, t1, t4, and_false, Int.toNat_zero, Nat.sub_zero, Nat.zero_add] <;> rfl) (by simp only [go_sem] <;> rfl) ?_
      refine Run.gcal (by simp only [go_sem] <;> rfl) (c_law_alive) (by simp only [go_sem]) (by simp only [go_sem, g1, g2, hrl, f1, f2, f3, f4, hzr, hsa, hRl, m1, m2, m3', Bool.not_true, hfin, m4', m7, m8, t1, t4, and_false, Int.toNat_zero, Nat.sub_zero, Nat.zero_add] <;> rfl) (by exact trivial) (by simp only [go_sem, g1, g2, hrl, f1, f2, f3, f4, hzr, hsa, hRl, m1, m2, m3', Bool.not_true, hfin, m4', m7, m8, t1, t4, and_false, Int.toNat_zero, Nat.sub_zero, Nat.zero_add] <;> rfl) ?_
      refine Run.op (by simp only [go_sem, g1, g2, hrl, f1, f2, f3, f4, hzr, hsa, hRl, m1, m2, m3', Bool.not_true, hfin, m4', m7, m8, t1, t4, and_false, Int.toNat_zero, Nat.sub_zero, Nat.zero_add] <;> rfl) (by simp only [go_sem] <;> rfl) ?_
      refine Run.op (by simp only [go_sem] <;> rfl) (by simp only [go_sem] <;> rfl) ?_
      refine Run.nil ?_
      exact Ends.fin [] (rs := [.tmp 10]) rfl (by simp only [go_sem, g1, g2, hrl, f1, f2, f3, f4, hzr, hsa, hRl, m1, m2, m3', Bool.not_true, hfin, m4', m7, m8, t1, t4, and_false, Int.toNat_zero, Nat.sub_zero, Nat.zero_add] <;> rfl) (by simp only [go_sem, g1, g2, hrl, f1, f2, f3, f4, hzr, hsa, hRl, m1, m2, m3', Bool.not_true, hfin, m4', m7, m8, t1, t4, and_false, Int.toNat_zero, Nat.sub_zero, Nat.zero_add] <;> first | rfl | ((repeat' (first | with_reducible_and_instances rfl | refine st_eq ?_ ?_ ?_ | refine ret_eq ?_ | refine tup_eq ?_ | refine tm_eq ?_ ?_ | refine arr_eq ?_ | refine cells_eq ?_ | refine val_eq ?_ | refine ls_eq ?_ ?_ | refine own_eq ?_ ?_ | refine sl_eq ?_ | refine b_eq ?_ | (refine i_eq ?_; omega))); done))
    have hkd1 : ¬ kd = 1 := fun e => by subst e; simp at hb366
    refine Exec.reg ?_
    refine Run.op (by simp only [go_sem, g1, g2, hrl, f1, f2, f3, f4, hzr, hsa, hRl, m1, m2, m3', Bool.not_true, hfin, m4', m7, m8] <;> rfl) (by simp only [go_sem] <;> rfl) ?_
    refine Run.op (by simp only [go_sem] <;> rfl) (by simp only [go_sem] <;> rfl) ?_
    refine Run.nil ?_
    refine Exec.cnd (by simp only [go_sem, g1, g2, hrl, f1, f2, f3, f4, hzr, hsa, hRl, m1, m2, m3', Bool.not_true, hfin, m4', m7, m8] <;> rfl) (fun hb376 => ?_) (fun hb376 => ?_)
    · skip
      have hkd9 : ((kd : Nat) : Int) = 2 := by simpa using hb376
      have hkd : kd = 2 := by omega
      have hfy : True := trivial
      have hfz : List.take rl.length ((List.map encReading rl).set aN [D.i (rd (⟨rates, rl⟩ : Walk) aN).house, D.i ((rd (⟨rates, rl⟩ : Walk) aN).day + ((B : Int) - yb)), D.i (rd (⟨rates, rl⟩ : Walk) aN).shows]) = (wantL (⟨rates, rl⟩ : Walk) kd aN ((B : Int) - yb)).map encReading := by
        unfold wantL
        rw [if_neg (by omega), if_pos hkd, List.take_of_length_le (by simp), List.map_set]
        rfl
      refine Exec.opk1 18 ?_
      iterate 2 (refine OpenK.op (by simp only [go_sem, g1, g2, hrl, f1, f2, f3, f4, hzr, hsa, hRl, m1, m2, m3', Bool.not_true, hfin, m4', m7, m8] <;> rfl) (by simp only [go_sem] <;> rfl) (by simp only [go_sem] <;> rfl) ?_)
      refine OpenK.op (by simp only [go_sem, g1, g2, hrl, f1, f2, f3, f4, hzr, hsa, hRl, m1, m2, m3', Bool.not_true, hfin, m4', m7, m8]; (try simp (disch := omega) only [if_pos]); (try simp only [go_sem, g1, g2, hrl, f1, f2, f3, f4, hzr, hsa, hRl, m1, m2, m3', Bool.not_true, hfin, m4', m7, m8])<;> rfl) (by simp only [go_sem] <;> rfl) (by simp only [go_sem] <;> rfl) ?_
      iterate 5 (refine OpenK.op (by simp only [go_sem, g1, g2, hrl, f1, f2, f3, f4, hzr, hsa, hRl, m1, m2, m3', Bool.not_true, hfin, m4', m7, m8] <;> rfl) (by simp only [go_sem] <;> rfl) (by simp only [go_sem] <;> rfl) ?_)
      refine OpenK.op (by simp only [go_sem, g1, g2, hrl, f1, f2, f3, f4, hzr, hsa, hRl, m1, m2, m3', Bool.not_true, hfin, m4', m7, m8]; (try simp (disch := omega) only [if_pos]); (try simp only [go_sem, g1, g2, hrl, f1, f2, f3, f4, hzr, hsa, hRl, m1, m2, m3', Bool.not_true, hfin, m4', m7, m8])<;> rfl) (by simp only [go_sem] <;> rfl) (by simp only [go_sem] <;> rfl) ?_
      iterate 2 (refine OpenK.op (by simp only [go_sem, g1, g2, hrl, f1, f2, f3, f4, hzr, hsa, hRl, m1, m2, m3', Bool.not_true, hfin, m4', m7, m8] <;> rfl) (by simp only [go_sem] <;> rfl) (by simp only [go_sem] <;> rfl) ?_)
      iterate 2 (refine OpenK.op (by simp only [go_sem, g1, g2, hrl, f1, f2, f3, f4, hzr, hsa, hRl, m1, m2, m3', Bool.not_true, hfin, m4', m7, m8]; (try simp (disch := omega) only [IntWalk.i64_in, IntWalk.u64_in, if_neg, if_pos])<;> rfl) (by simp only [go_sem] <;> rfl) (by simp only [go_sem] <;> rfl) ?_)
      refine OpenK.op (by simp only [go_sem, g1, g2, hrl, f1, f2, f3, f4, hzr, hsa, hRl, m1, m2, m3', Bool.not_true, hfin, m4', m7, m8]; (try simp (disch := omega) only [if_pos]); (try simp only [go_sem, g1, g2, hrl, f1, f2, f3, f4, hzr, hsa, hRl, m1, m2, m3', Bool.not_true, hfin, m4', m7, m8])<;> rfl) (by simp only [go_sem] <;> rfl) (by simp only [go_sem] <;> rfl) ?_
      iterate 2 (refine OpenK.op (by simp only [go_sem, g1, g2, hrl, f1, f2, f3, f4, hzr, hsa, hRl, m1, m2, m3', Bool.not_true, hfin, m4', m7, m8] <;> rfl) (by simp only [go_sem] <;> rfl) (by simp only [go_sem] <;> rfl) ?_)
      refine OpenK.nil (OpenE.fin (by decide +kernel) (by decide +kernel) ?_)
      refine BlkK.nrm ?_
      refine Exec.reg ?_
      refine Run.frz 360 (by simp only [go_sem, hfy, hfz, if_true] <;> rfl) ?_
      iterate 2 (refine Run.op (by simp only [go_sem] <;> rfl) (by simp only [go_sem] <;> rfl) ?_)
      refine Run.cal (c_meterworksref12_Readings (wantL (⟨rates, rl⟩ : Walk) kd aN ((B : Int) - yb)) (wantL (⟨rates, rl⟩ : Walk) kd aN ((B : Int) - yb)) (by omega) (by omega)) (by simp only [go_sem]) (by simp only [go_sem, g1, g2, hrl, f1, f2, f3, f4, hzr, hsa, hRl, m1, m2, m3', Bool.not_true, hfin, m4', m7, m8] <;> rfl) (by exact ⟨by first | exact WkR.pure rfl | exact WkR.nil _ | exact WkR.int (by first | omega | (simp; done) | (simp; omega)), by first | exact WkR.pure rfl | exact WkR.nil _ | exact WkR.int (by first | omega | (simp; done) | (simp; omega)), trivial⟩) (fr0) (by simp only [go_sem, g1, g2, hrl, f1, f2, f3, f4, hzr, hsa, hRl, m1, m2, m3', Bool.not_true, hfin, m4', m7, m8] <;> rfl) ?_
      refine Run.op (by simp only [go_sem, g1, g2, hrl, f1, f2, f3, f4, hzr, hsa, hRl, m1, m2, m3', Bool.not_true, hfin, m4', m7, m8] <;> rfl) (by simp only [go_sem] <;> rfl) ?_
      refine Run.gcal (by simp only [go_sem] <;> rfl) (c_law_alive) (by simp only [go_sem]) (by simp only [go_sem, g1, g2, hrl, f1, f2, f3, f4, hzr, hsa, hRl, m1, m2, m3', Bool.not_true, hfin, m4', m7, m8] <;> rfl) (by exact trivial) (by simp only [go_sem, g1, g2, hrl, f1, f2, f3, f4, hzr, hsa, hRl, m1, m2, m3', Bool.not_true, hfin, m4', m7, m8] <;> rfl) ?_
      refine Run.op (by simp only [go_sem, g1, g2, hrl, f1, f2, f3, f4, hzr, hsa, hRl, m1, m2, m3', Bool.not_true, hfin, m4', m7, m8] <;> rfl) (by simp only [go_sem] <;> rfl) ?_
      refine Run.op (by simp only [go_sem] <;> rfl) (by simp only [go_sem] <;> rfl) ?_
      refine Run.nil ?_
      exact Ends.fin [] (rs := [.tmp 10]) rfl (by simp only [go_sem, g1, g2, hrl, f1, f2, f3, f4, hzr, hsa, hRl, m1, m2, m3', Bool.not_true, hfin, m4', m7, m8] <;> rfl) (by simp only [go_sem, g1, g2, hrl, f1, f2, f3, f4, hzr, hsa, hRl, m1, m2, m3', Bool.not_true, hfin, m4', m7, m8] <;> first | rfl | ((repeat' (first | with_reducible_and_instances rfl | refine st_eq ?_ ?_ ?_ | refine ret_eq ?_ | refine tup_eq ?_ | refine tm_eq ?_ ?_ | refine arr_eq ?_ | refine cells_eq ?_ | refine val_eq ?_ | refine ls_eq ?_ ?_ | refine own_eq ?_ ?_ | refine sl_eq ?_ | refine b_eq ?_ | (refine i_eq ?_; omega))); done))
    have hkd2 : ¬ kd = 2 := fun e => by subst e; simp at hb376
    have hfy : True := trivial
    have hfz : List.take rl.length (rl.map encReading) = (wantL (⟨rates, rl⟩ : Walk) kd aN ((B : Int) - yb)).map encReading := by
      unfold wantL
      rw [if_neg hkd1, if_neg hkd2]
      exact List.take_of_length_le (by simp)
    refine BlkK.nrm ?_
    refine Exec.reg ?_
    refine Run.frz 360 (by simp only [go_sem, hfy, hfz, if_true] <;> rfl) ?_
    iterate 2 (refine Run.op (by simp only [go_sem] <;> rfl) (by simp only [go_sem] <;> rfl) ?_)
    refine Run.cal (c_meterworksref12_Readings (wantL (⟨rates, rl⟩ : Walk) kd aN ((B : Int) - yb)) (wantL (⟨rates, rl⟩ : Walk) kd aN ((B : Int) - yb)) (by omega) (by omega)) (by simp only [go_sem]) (by simp only [go_sem, g1, g2, hrl, f1, f2, f3, f4, hzr, hsa, hRl, m1, m2, m3', Bool.not_true, hfin, m4', m7, m8] <;> rfl) (by exact ⟨by first | exact WkR.pure rfl | exact WkR.nil _ | exact WkR.int (by first | omega | (simp; done) | (simp; omega)), by first | exact WkR.pure rfl | exact WkR.nil _ | exact WkR.int (by first | omega | (simp; done) | (simp; omega)), trivial⟩) (fr0) (by simp only [go_sem, g1, g2, hrl, f1, f2, f3, f4, hzr, hsa, hRl, m1, m2, m3', Bool.not_true, hfin, m4', m7, m8] <;> rfl) ?_
    refine Run.op (by simp only [go_sem, g1, g2, hrl, f1, f2, f3, f4, hzr, hsa, hRl, m1, m2, m3', Bool.not_true, hfin, m4', m7, m8] <;> rfl) (by simp only [go_sem] <;> rfl) ?_
    refine Run.gcal (by simp only [go_sem] <;> rfl) (c_law_alive) (by simp only [go_sem]) (by simp only [go_sem, g1, g2, hrl, f1, f2, f3, f4, hzr, hsa, hRl, m1, m2, m3', Bool.not_true, hfin, m4', m7, m8] <;> rfl) (by exact trivial) (by simp only [go_sem, g1, g2, hrl, f1, f2, f3, f4, hzr, hsa, hRl, m1, m2, m3', Bool.not_true, hfin, m4', m7, m8] <;> rfl) ?_
    refine Run.op (by simp only [go_sem, g1, g2, hrl, f1, f2, f3, f4, hzr, hsa, hRl, m1, m2, m3', Bool.not_true, hfin, m4', m7, m8] <;> rfl) (by simp only [go_sem] <;> rfl) ?_
    refine Run.op (by simp only [go_sem] <;> rfl) (by simp only [go_sem] <;> rfl) ?_
    refine Run.nil ?_
    exact Ends.fin [] (rs := [.tmp 10]) rfl (by simp only [go_sem, g1, g2, hrl, f1, f2, f3, f4, hzr, hsa, hRl, m1, m2, m3', Bool.not_true, hfin, m4', m7, m8] <;> rfl) (by simp only [go_sem, g1, g2, hrl, f1, f2, f3, f4, hzr, hsa, hRl, m1, m2, m3', Bool.not_true, hfin, m4', m7, m8] <;> first | rfl | ((repeat' (first | with_reducible_and_instances rfl | refine st_eq ?_ ?_ ?_ | refine ret_eq ?_ | refine tup_eq ?_ | refine tm_eq ?_ ?_ | refine arr_eq ?_ | refine cells_eq ?_ | refine val_eq ?_ | refine ls_eq ?_ ?_ | refine own_eq ?_ ?_ | refine sl_eq ?_ | refine b_eq ?_ | (refine i_eq ?_; omega))); done))

end Go.Mw

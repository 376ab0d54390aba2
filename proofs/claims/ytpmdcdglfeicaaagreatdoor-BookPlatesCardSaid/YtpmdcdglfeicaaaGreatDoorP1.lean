/- The statement BookPlates, as a contract. -/
import Derived.Test.YtpmdcdglfeicaaaGreatDoorPD
import Derived.Test.YtpmdcdglfeicaaaGreatDoorB12
import Derived.Test.YtpmdcdglfeicaaaGreatDoorB11
import Derived.Test.YtpmdcdglfeicaaaGreatDoorRows
import Derived.Test.YtpmdcdglfeicaaaGreatDoorCards
import Derived.Test.YtpmdcdglfeicaaaGreatDoorTie
import Derived.SevenTiedAt
import Derived.Stop.Joined
set_option linter.unusedSimpArgs false
set_option linter.unusedVariables false
set_option linter.unusedSectionVars false
set_option linter.deprecated false
namespace Go.Mw
open Go.Proofs
open Go.Bk
attribute [local go_sem] decide_true beq_self_eq_true bne_self_eq_false
theorem rdE_eq (r : Option (List Pl)) : rdE r = .tup [(false, [.d (plsD (r.getD []))]), (false, [.d (.i (bif r.isSome then 0 else 8))])] := by cases r <;> rfl
theorem rdE_len (b : Bs) : ((readP b).getD []).length ≤ 60 := by
  cases h : readP b with
  | none => exact Nat.zero_le _
  | some l => exact (errB_ok (readP_iff.1 h).1).1
set_option maxRecDepth 20000 in
set_option maxHeartbeats 8000000 in
/-- meterworks/meterworkslaw14.BookPlates -/
theorem c_BookPlates (l : List Pl) (b : Bs) (hl : l.length ≤ 9223372036854775807) (hb : b.length ≤ 9223372036854775807) : Contract Tryz.prog 4 [.leaf (.d (plsD l)), .leaf (.d (bysD b))] (.bool true) [] := by
  have k0 := c_long [] l [] (by decide) hl (by decide)
  have hbyl := byD_len b
  refine con_of follows_mixed Tryz.func4 rfl (by simp only [List.length_cons, List.length_nil, Tryz.ntmps4]; omega) V221 rfl ?_
  refine Exec.reg ?_
  refine Run.o ?_
  refine Run.nil ?_
  refine Exec.assocS ?_
  by_cases hg : longB [] l [] = true
  · skip
    refine Exec.reg ?_
    refine Run.o1 V207 ?_
    refine Run.c1 (k0) V207 V207 ?_
    refine Run.o1 V207 ?_
    iterate 3 (refine Run.s ?_)
    refine Run.o1 V207 ?_
    refine Run.nil ?_
    refine Exec.cndS V207 (fun hb19 => ?_) (fun hb19 => ?_)
    · skip
      refine Exec.assocS ?_
      refine Exec.reg ?_
      refine Run.c1 (c_alive) V207 V207 ?_
      refine Run.o1 V207 ?_
      refine Run.nil ?_
      refine Exec.retS ?_
      exact Ends.fin [] (rs := [.tmp 4]) rfl V207 (by simp only [go_sem, hg] <;> first | rfl | exact eqz)
    · exact absurd hb19 (by simp)
  · skip
    have hgf : longB [] l [] = false := by simpa using hg
    obtain ⟨_, b1, _⟩ := long_no hgf
    refine Exec.reg ?_
    refine Run.o1 V206 ?_
    refine Run.c1 (k0) V206 V206 ?_
    refine Run.o1 V206 ?_
    iterate 3 (refine Run.y1 V206 ?_)
    refine Run.o1 V206 ?_
    refine Run.nil ?_
    refine Exec.cndS V206 (fun hb19 => ?_) (fun hb19 => ?_)
    · skip
      refine Exec.assocS ?_
      refine Exec.reg ?_
      refine Run.c1 (c_alive) V206 V206 ?_
      refine Run.o1 V206 ?_
      refine Run.nil ?_
      refine Exec.retS ?_
      exact Ends.fin [] (rs := [.tmp 4]) rfl V206 (by simp only [go_sem, hgf] <;> first | rfl | exact eqz)
    · skip
      have hb4 : b.length ≤ 400 := by have := of_decide_eq_false hb19; omega
      have k1 := c_WritePlates l (by omega)
      have k2 := c_ref_WritePlates l (by omega)
      have k3 := c_ReadPlates b (by omega)
      rw [parseP_eq, rdE_eq] at k3
      have k4 := c_ref_ReadPlates b (by omega)
      rw [rdE_eq] at k4
      have hrl := rdE_len b
      have k5 := c_SamePlates ((readP b).getD []) ((readP b).getD []) (by omega) (by omega)
      rw [decide_eq_true (rfl : ((readP b).getD []) = ((readP b).getD []))] at k5
      refine Exec.skipS ?_
      refine Exec.reg ?_
      refine Run.o1 V206 ?_
      refine Run.c1 (k1) V206 V206 ?_
      iterate 5 (refine Run.o1 V206 ?_)
      refine Run.nil ?_
      refine Exec.reg ?_
      refine Run.o1 V206 ?_
      refine Run.c1 (k2) V206 V206 ?_
      iterate 5 (refine Run.o1 V206 ?_)
      refine Run.nil ?_
      refine Exec.reg ?_
      refine Run.o1 V206 ?_
      refine Run.c1 (k3) V206 V206 ?_
      iterate 5 (refine Run.o1 V206 ?_)
      refine Run.nil ?_
      refine Exec.reg ?_
      refine Run.o1 V206 ?_
      refine Run.c1 (k4) V206 V206 ?_
      iterate 5 (refine Run.o1 V206 ?_)
      refine Run.nil ?_
      refine Exec.reg ?_
      refine Run.o1 V206 ?_
      refine Run.val (semV_btos Tryz.underlying53 Tryz.underlying5 Tryz.underlying9 (l := wPlates l) (.inl V215)) V215 V215 ?_
      refine Run.o1 V206 ?_
      refine Run.val (semV_btos Tryz.underlying53 Tryz.underlying5 Tryz.underlying9 (l := wPlates l) (.inl V215)) V215 V215 ?_
      iterate 2 (refine Run.o1 V206 ?_)
      iterate 3 (refine Run.y1 V206 ?_)
      iterate 2 (refine Run.o1 V206 ?_)
      iterate 2 (refine Run.y1 V206 ?_)
      refine Run.calw V215 (k5) V217 V206 V206 V14 (fr0) V206 ?_
      iterate 2 (refine Run.o1 V206 ?_)
      iterate 3 (refine Run.y1 V206 ?_)
      iterate 2 (refine Run.o1 V206 ?_)
      refine Run.calw V215 (c_alive) V217 V206 V206 (by exact trivial) (fr0) V206 ?_
      iterate 2 (refine Run.o1 V206 ?_)
      refine Run.nil ?_
      exact Ends.fin [] (rs := [.tmp 4]) rfl V206 (by simp only [go_sem, hgf] <;> first | rfl | exact eqz)

end Go.Mw
namespace Go.Proofs.YtpmdcdglfeicaaaGreatDoor
open Go.Mw Go.ChangeShapes Go.WideShapes Go.ChangeAt Go.RowKit
set_option maxRecDepth 100000

theorem own : ownKnob Tryz.prog.godebug = none := by kernel_rfl
theorem laidOut : laidOutB Tryz.prog = true := by kernel_rfl
theorem plainLaid : (Rows.bookPlatesRow.laid.all fun x => x.2.handleName?.isNone) = true := by kernel_rfl
theorem gok {W : World} (hs : W.ShapedOpen Tryz.prog) (hL : laidMetH Tryz.prog Rows.bookPlatesRow.laid W) : GOk Tryz.prog (fun b _ => b < W.heap.size) W :=
  GOk.of hL plainLaid rfl (g := 1) (t := 272) (e := 245) (n := 20) V221 V221 V221 V221 V221 V221
    (m := 2) (tm := 3) (zero := #[.int .i64 0]) V221 hs V219 V221 V221 V221 V221 V221
theorem lifted (os : Os) (started : os.Started) (H : Type) (enc : TypeId × Value → H) :
    ReturnsInHanded {} Tryz.checked os 4 .any (fun w args => (Rows.bookPlatesSpec.pre enc Tryz.prog Tryz.f4 Rows.bookPlatesRow.domain false w args ∧ laidMetH Tryz.prog Rows.bookPlatesRow.laid w) ∧ sizedMet enc Tryz.prog Tryz.f4 (OpenSpec.ofChange Rows.bookPlatesSpec) false w args) (Rows.bookPlatesSpec.post enc Tryz.prog Tryz.f4 false true false false) := by
  refine returnsInHanded_of_change_tied (C := Tryz.checked) (X := fun w _ => laidMetH Tryz.prog Rows.bookPlatesRow.laid w) (fun _ _ _ hh h => h.of_heap hh) own started V221 Tryz.func4
    (ChangeSpec.witness_shaped (enc := enc) (C := Tryz.checked) (os := os) (X := fun w _ => laidMetH Tryz.prog Rows.bookPlatesRow.laid w) false (World.laidAll Tryz.prog os Rows.bookPlatesRow.laid) #[.slice none 0 0, .slice none 0 0] 8 (World.laidAll_os _ _ _)
      (World.shaped_of_ZipB V221 V221) V221 V221 V221
      (by rw [MakeChecks.laidMetH_plain _ _ _ plainLaid]; exact laidMet_laidAll _ V221 V221)) ?_
  intro W base args ds gs before hval0 hW hsh hL
  have hval : ∀ (j : Nat) t v, Tryz.f4.params[j]? = some t → args[j]? = some v → Value.okWide Tryz.prog W .any base t v := hval0
  have hW' := hW
  obtain ⟨p, q, hA0, hV, rfl, hfz, hnd⟩ := hW'
  have hA : DataW.TrodAll enc Tryz.prog W 0 (fun _ => true) true Tryz.f4.params.toList args.toList ds p := hA0
  rw [Tryz.params4] at hA hval
  have hG := gok hsh hL
  obtain ⟨v0, v1, d0, d1, p0, p1, rfl, rfl, rfl, h0, h1⟩ := trodAll_two hA
  obtain ⟨rfl, rfl⟩ := trodVars_none hV
  obtain ⟨x0, l0, hx0⟩ := plates_read (hval 0 52 v0 rfl rfl) h0
  obtain ⟨x1, l1, hx1⟩ := bytes_read (hval 1 53 v1 rfl rfl) h1
  refine (row_con (c_BookPlates x0 x1 l0 l1) W [v0, v1] ⟨hx0, hx1, trivial⟩ hG).mono fun e W' ⟨he, hb⟩ => ?_
  exact ⟨_, he, post_below (tb := 4) hW hb rfl rfl rfl V221 laidOut V219⟩
theorem bare : Rows.BookPlatesSaid :=
  OpenClaim.holds_of_wide 4 Tryz.f4 rfl rfl rfl rfl rfl rfl rfl ⟨rfl, rfl, rfl, rfl, rfl⟩ rfl rfl rfl rfl rfl V221 Tryz.func4 V221
    (of_decide_eq_true V221) (by unfold Func.isWrapper; first | (rw [if_pos V219]; kernel_rfl) | (rw [if_neg V219]; exact ⟨rfl, rfl⟩))
    (fun os started H enc _ => lifted os started H enc)
theorem holds : Rows.BookPlatesCardSaid :=
  Claim7.holds_tied_plain_at .later [] [.data, .data, .data, .sentinel] true (true, "a4c23813cb1a935b72d1bc74a8a412aa7df29762ec0388838dd8623dbac8462d") true
    bare (fun _ h => by cases h) V221 (fun _ h => by cases h) bookPlates_row_tie rfl ⟨rfl, rfl⟩ V221 rfl
    (fun f fn hf hfn => by
      obtain rfl : f = 4 := Option.some.inj ((show Tryz.prog.funcNamed "meterworks/meterworkslaw14.BookPlates" = some 4 by kernel_rfl).symm.trans hf) |>.symm
      obtain rfl : fn = Tryz.f4 := (Option.some.inj (Tryz.func4.symm.trans hfn)).symm
      exact ⟨by kernel_rfl, fun j t ht => by
        rw [Tryz.params4] at ht
        have ht2 : t ∈ Tryz.f4.params.toList := by rw [Tryz.params4]; exact List.mem_of_getElem? (by simpa using ht)
        exact (show ∀ t ∈ Tryz.f4.params.toList, Tryz.prog.wantsStandIn t = false by decide +kernel) t ht2⟩)
    V221
end Go.Proofs.YtpmdcdglfeicaaaGreatDoor
#print axioms Go.Proofs.YtpmdcdglfeicaaaGreatDoor.holds

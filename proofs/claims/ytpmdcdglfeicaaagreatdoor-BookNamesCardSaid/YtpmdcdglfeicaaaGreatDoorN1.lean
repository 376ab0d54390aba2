/- The statement BookNames, as a contract. -/
import Derived.Test.YtpmdcdglfeicaaaGreatDoorD1
import Derived.Test.YtpmdcdglfeicaaaGreatDoorB4
import Derived.Test.YtpmdcdglfeicaaaGreatDoorB12
import Derived.Test.YtpmdcdglfeicaaaGreatDoorB9
import Derived.Test.YtpmdcdglfeicaaaGreatDoorRows
import Derived.Test.YtpmdcdglfeicaaaGreatDoorCards
import Derived.Test.YtpmdcdglfeicaaaGreatDoorTie
import Derived.Test.YtpmdcdglfeicaaaGreatDoorB10
import Derived.SevenTiedAt
import Derived.Stop.Joined
set_option linter.unusedSimpArgs false
set_option linter.unusedVariables false
set_option linter.unusedSectionVars false
set_option linter.deprecated false
namespace Go.Mw
open Go.Proofs
open Go.Bk
attribute [local go_sem] decide_true beq_self_eq_true bne_self_eq_false
def exN : Bs := [55, 32, 49, 48, 48, 32, 50, 120, 49, 48, 32, 49, 48, 32, 53, 10]
theorem exN_r : parseG exN = none := by decide +kernel
theorem exG_r : parseG exGB = some exG := by decide +kernel
theorem no_w : wPlates [] = [0] := by decide +kernel
theorem no_e : platesE [] = 0 := by decide +kernel
set_option maxRecDepth 20000 in
set_option maxHeartbeats 8000000 in
theorem c_BookNames : Contract Tryz.prog 7 [] (.bool true) [] := by
 have k1 := c_WritePlates [] (by decide)
 rw [no_w, no_e] at k1
 have k2 := c_ReadPages exN (by decide)
 rw [exN_r] at k2
 have k3 := c_ReadPages exGB (by decide)
 rw [exG_r] at k3
 have k5 := c_SamePages exG exG (by decide) (by decide) (by decide)
 rw [decide_eq_true (show exG = exG from rfl)] at k5
 have z0 : ((0 : Int) == 0) = true := rfl
 have z8 : ((8 : Int) == 8) = true := rfl
 refine con_of follows_mixed Tryz.func7 rfl (by simp only [List.length_cons, List.length_nil, Tryz.ntmps7]; omega) V146 rfl ?_
 refine Exec.reg ?_
 have X := (Fx.mk z0).a z8
 refine Run.o1 V136 ?_
 refine Run.nil (Exec.reg ?_)
 refine Run.c1 (k1) V136 V136 ?_
 iterate 5 (refine Run.o1 V136 ?_)
 refine Run.nil (Exec.reg ?_)
 refine Run.c1 (k2) V136 V136 ?_
 iterate 5 (refine Run.o1 V136 ?_)
 refine Run.nil (Exec.reg ?_)
 refine Run.c1 (k3) V136 V136 ?_
 iterate 5 (refine Run.o1 V136 ?_)
 refine Run.nil (Exec.reg ?_)
 refine Run.o1 V136 ?_
 refine Run.calw V139 (c_alive) V141 V136 V136 (by exact trivial) (fr0) V136 ?_
 iterate 2 (refine Run.o1 V136 ?_)
 refine Run.y1 V136 ?_
 refine Run.val (semV_btos Tryz.underlying53 Tryz.underlying5 Tryz.underlying9 (l := [0]) (.inl V139)) V139 V139 ?_
 refine Run.y1 V136 ?_
 iterate 2 (refine Run.o1 V136 ?_)
 iterate 2 (refine Run.y1 V136 ?_)
 iterate 2 (refine Run.o1 V136 ?_)
 iterate 2 (refine Run.y1 V136 ?_)
 iterate 2 (refine Run.o1 V136 ?_)
 refine Run.y1 V136 ?_
 refine Run.calw V139 (c_exG) V141 V136 V136 (by exact trivial) (fr0) V136 ?_
 refine Run.calw V139 (k5) V141 V136 V136 V25 (fr0) V136 ?_
 iterate 2 (refine Run.o1 V136 ?_)
 iterate 2 (refine Run.y1 V136 ?_)
 iterate 2 (refine Run.o1 V136 ?_)
 refine Run.nil ?_
 exact Ends.fin [] (rs := [.tmp 0]) rfl V136 V107

end Go.Mw
namespace Go.Proofs.YtpmdcdglfeicaaaGreatDoor
open Go.Mw Go.ChangeShapes Go.WideShapes Go.ChangeAt Go.RowKit
set_option maxRecDepth 100000

theorem own : ownKnob Tryz.prog.godebug = none := by kernel_rfl
theorem laidOut : laidOutB Tryz.prog = true := by kernel_rfl
theorem plainLaid : (Rows.bookNamesRow.laid.all fun x => x.2.handleName?.isNone) = true := by kernel_rfl
theorem gok {W : World} (hs : W.ShapedOpen Tryz.prog) (hL : laidMetH Tryz.prog Rows.bookNamesRow.laid W) : GOk Tryz.prog (fun b _ => b < W.heap.size) W :=
 GOk.of hL plainLaid rfl (g := 1) (t := 272) (e := 245) (n := 20) V146 V146 V146 V146 V146 V146
  (m := 2) (tm := 3) (zero := #[.int .i64 0]) V146 hs V143 V146 V146 V146 V146 V146
theorem lifted (os : Os) (started : os.Started) (H : Type) (enc : TypeId × Value → H) :
  ReturnsInHanded {} Tryz.checked os 7 .any (fun w args => (Rows.bookNamesSpec.pre enc Tryz.prog Tryz.f7 Rows.bookNamesRow.domain false w args ∧ laidMetH Tryz.prog Rows.bookNamesRow.laid w) ∧ sizedMet enc Tryz.prog Tryz.f7 (OpenSpec.ofChange Rows.bookNamesSpec) false w args) (Rows.bookNamesSpec.post enc Tryz.prog Tryz.f7 false true false false) := by
 refine returnsInHanded_of_change_tied (C := Tryz.checked) (X := fun w _ => laidMetH Tryz.prog Rows.bookNamesRow.laid w) (fun _ _ _ hh h => h.of_heap hh) own started V146 Tryz.func7
  (ChangeSpec.witness_shaped (enc := enc) (C := Tryz.checked) (os := os) (X := fun w _ => laidMetH Tryz.prog Rows.bookNamesRow.laid w) false (World.laidAll Tryz.prog os Rows.bookNamesRow.laid) #[] 8 (World.laidAll_os _ _ _)
   (World.shaped_of_ZipB V146 V146) V146 V146 V146
   (by rw [MakeChecks.laidMetH_plain _ _ _ plainLaid]; exact laidMet_laidAll _ V146 V146)) ?_
 intro W base args ds gs before hval0 hW hsh hL
 have hval : ∀ (j : Nat) t v, Tryz.f7.params[j]? = some t → args[j]? = some v → Value.okWide Tryz.prog W .any base t v := hval0
 have hW' := hW
 obtain ⟨p, q, hA0, hV, rfl, hfz, hnd⟩ := hW'
 have hA : DataW.TrodAll enc Tryz.prog W 0 (fun _ => true) true Tryz.f7.params.toList args.toList ds p := hA0
 rw [Tryz.params7] at hA hval
 have hG := gok hsh hL
 obtain ⟨ha, rfl, rfl⟩ := trodAll_nil hA
 have ha2 : args = #[] := by cases args; simp_all
 subst ha2
 obtain ⟨rfl, rfl⟩ := trodVars_none hV
 refine (row_con (c_BookNames) W [] trivial hG).mono fun e W' ⟨he, hb⟩ => ?_
 exact ⟨_, he, post_below (tb := 4) hW hb rfl rfl rfl V146 laidOut V143⟩
theorem bare : Rows.BookNamesSaid :=
 OpenClaim.holds_of_wide 7 Tryz.f7 rfl rfl rfl rfl rfl rfl rfl ⟨rfl, rfl, rfl, rfl, rfl⟩ rfl rfl rfl rfl rfl V146 Tryz.func7 V146
  (of_decide_eq_true V146) V63
  (fun os started H enc _ => lifted os started H enc)
theorem holds : Rows.BookNamesCardSaid :=
 Claim7.holds_tied_plain_at .later [] [.data, .data, .data, .data, .sentinel, .pinned] true (true, "a4c23813cb1a935b72d1bc74a8a412aa7df29762ec0388838dd8623dbac8462d") true
  bare (fun _ h => by cases h) V146 (fun _ h => by cases h) bookNames_row_tie rfl ⟨rfl, rfl⟩ V146 rfl
  (fun f fn hf hfn => by
   obtain rfl : f = 7 := Option.some.inj ((show Tryz.prog.funcNamed "meterworks/meterworkslaw14.BookNames" = some 7 by kernel_rfl).symm.trans hf) |>.symm
   obtain rfl : fn = Tryz.f7 := (Option.some.inj (Tryz.func7.symm.trans hfn)).symm
   exact ⟨by kernel_rfl, fun j t ht => by
    rw [Tryz.params7] at ht
    simp at ht⟩)
  V146
end Go.Proofs.YtpmdcdglfeicaaaGreatDoor
#print axioms Go.Proofs.YtpmdcdglfeicaaaGreatDoor.holds

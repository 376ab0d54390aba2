/- The statement BookSheets, as a contract. -/
import Derived.Test.YtpmdcdglfeicaaaGreatDoorD1
import Derived.Test.YtpmdcdglfeicaaaGreatDoorB4
import Derived.Test.YtpmdcdglfeicaaaGreatDoorB12
import Derived.Test.YtpmdcdglfeicaaaGreatDoorB11
import Derived.Test.YtpmdcdglfeicaaaGreatDoorB9
import Derived.Test.YtpmdcdglfeicaaaGreatDoorRows
import Derived.Test.YtpmdcdglfeicaaaGreatDoorCards
import Derived.Test.YtpmdcdglfeicaaaGreatDoorTie
import Derived.Test.YtpmdcdglfeicaaaGreatDoorB10
import Derived.SevenTiedAt
import Derived.Stop.Joined
set_option linter.unusedSimpArgs false
set_option linter.unusedVariables false
set_option linter.unusedSectionVars false
set_option linter.deprecated false
namespace Go.Mw
open Go.Proofs
open Go.Bk
attribute [local go_sem] decide_true beq_self_eq_true bne_self_eq_false
theorem rsE_eq (r : Option (List Sh)) : rsE r = .tup [(false, [.d (shsD (r.getD []))]), (false, [.d (.i (bif r.isSome then 0 else 8))])] := by cases r <;> rfl
theorem rsE_len (b : Bs) : ((readS b).getD []).length ≤ 12 ∧ ∀ x ∈ (readS b).getD [], x.tries.length ≤ 6 := by
 cases h : readS b with
 | none => exact ⟨Nat.zero_le _, fun x hx => by cases hx⟩
 | some l =>
  obtain ⟨h1, h2, _⟩ := errB_ok (readS_iff.1 h).1
  refine ⟨h1, fun x hx => ?_⟩
  have := List.all_eq_true.1 h2 x hx
  unfold sheetOK at this
  simp only [Bool.and_eq_true, decide_eq_true_eq] at this
  exact this.1.2
set_option maxRecDepth 20000 in
set_option maxHeartbeats 8000000 in
theorem c_BookSheets (l : List Sh) (b : Bs) (hl : l.length ≤ 9223372036854775807) (hb : b.length ≤ 9223372036854775807) : Contract Tryz.prog 9 [.leaf (.d (shsD l)), .str b] (.bool true) [] := by
 have k0 := c_long l [] [] hl (by decide) (by decide)
 refine con_of follows_mixed Tryz.func9 rfl (by simp only [List.length_cons, List.length_nil, Tryz.ntmps9]; omega) V162 rfl ?_
 refine Exec.reg ?_
 refine Run.o ?_
 refine Run.nil (Exec.assocS ?_)
 by_cases hg : longB l [] [] = true
 ·skip
  refine Exec.reg ?_
  have X := Fx.mk hg
  refine Run.o1 V152 ?_
  refine Run.c1 (k0) V152 V152 ?_
  refine Run.o1 V152 ?_
  iterate 3 (refine Run.s ?_)
  refine Run.o1 V152 ?_
  refine Run.nil ?_
  refine Exec.cndS V152 (fun hb19 => ?_) (fun hb19 => ?_)
  ·skip
   refine Exec.assocS (Exec.reg ?_)
   refine Run.c1 (c_alive) V152 V152 ?_
   refine Run.o1 V152 ?_
   refine Run.nil (Exec.retS ?_)
   exact Ends.fin [] (rs := [.tmp 4]) rfl V152 V121
  ·exact absurd hb19 (by simp)
 ·skip
  have hgf : longB l [] [] = false := by simpa using hg
  obtain ⟨⟨b1, b2⟩, _⟩ := long_no hgf
  refine Exec.reg ?_
  have X := Fx.mk hgf
  refine Run.o1 V152 ?_
  refine Run.c1 (k0) V152 V152 ?_
  refine Run.o1 V152 ?_
  iterate 3 (refine Run.y1 V152 ?_)
  refine Run.o1 V152 ?_
  refine Run.nil ?_
  refine Exec.cndS V152 (fun hb19 => ?_) (fun hb19 => ?_)
  ·skip
   refine Exec.assocS (Exec.reg ?_)
   refine Run.c1 (c_alive) V152 V152 ?_
   refine Run.o1 V152 ?_
   refine Run.nil (Exec.retS ?_)
   exact Ends.fin [] (rs := [.tmp 4]) rfl V152 V121
  ·skip
   have hb4 : b.length ≤ 3000 := by have := of_decide_eq_false hb19; omega
   have k1 := c_WriteSheets l (by omega) (fun x hx => by have := b2 x hx; omega)
   have k2 := c_ref_WriteSheets l (by omega) (fun x hx => by have := b2 x hx; omega)
   have k3 := c_ReadSheets b (by omega)
   rw [parseS_eq, rsE_eq] at k3
   have k4 := c_ref_ReadSheets b (by omega)
   rw [rsE_eq] at k4
   obtain ⟨hrl, hrr⟩ := rsE_len b
   have k5 := c_SameSheets ((readS b).getD []) ((readS b).getD []) (by omega) (by omega) (fun x hx => by have := hrr x hx; omega)
   rw [decide_eq_true (rfl : ((readS b).getD []) = ((readS b).getD []))] at k5
   refine Exec.skipS (Exec.reg ?_)
   refine Run.o1 V152 ?_
   refine Run.c1 (k1) V152 V152 ?_
   iterate 5 (refine Run.o1 V152 ?_)
   refine Run.nil (Exec.reg ?_)
   refine Run.o1 V152 ?_
   refine Run.c1 (k2) V152 V152 ?_
   iterate 5 (refine Run.o1 V152 ?_)
   refine Run.nil (Exec.reg ?_)
   refine Run.o1 V152 ?_
   refine Run.c1 (k3) V152 V152 ?_
   iterate 5 (refine Run.o1 V152 ?_)
   refine Run.nil (Exec.reg ?_)
   refine Run.o1 V152 ?_
   refine Run.c1 (k4) V152 V152 ?_
   iterate 5 (refine Run.o1 V152 ?_)
   refine Run.nil (Exec.reg ?_)
   iterate 4 (refine Run.o1 V152 ?_)
   iterate 3 (refine Run.y1 V152 ?_)
   iterate 2 (refine Run.o1 V152 ?_)
   iterate 2 (refine Run.y1 V152 ?_)
   refine Run.calw V156 (k5) V158 V152 V152 V25 (fr0) V152 ?_
   iterate 2 (refine Run.o1 V152 ?_)
   iterate 3 (refine Run.y1 V152 ?_)
   iterate 2 (refine Run.o1 V152 ?_)
   refine Run.calw V156 (c_alive) V158 V152 V152 (by exact trivial) (fr0) V152 ?_
   iterate 2 (refine Run.o1 V152 ?_)
   refine Run.nil ?_
   exact Ends.fin [] (rs := [.tmp 4]) rfl V152 V121

end Go.Mw
namespace Go.Proofs.YtpmdcdglfeicaaaGreatDoor
open Go.Mw Go.ChangeShapes Go.WideShapes Go.ChangeAt Go.RowKit
set_option maxRecDepth 100000

theorem own : ownKnob Tryz.prog.godebug = none := by kernel_rfl
theorem laidOut : laidOutB Tryz.prog = true := by kernel_rfl
theorem plainLaid : (Rows.bookSheetsRow.laid.all fun x => x.2.handleName?.isNone) = true := by kernel_rfl
theorem gok {W : World} (hs : W.ShapedOpen Tryz.prog) (hL : laidMetH Tryz.prog Rows.bookSheetsRow.laid W) : GOk Tryz.prog (fun b _ => b < W.heap.size) W :=
 GOk.of hL plainLaid rfl (g := 1) (t := 272) (e := 245) (n := 20) V162 V162 V162 V162 V162 V162
  (m := 2) (tm := 3) (zero := #[.int .i64 0]) V162 hs V160 V162 V162 V162 V162 V162
theorem lifted (os : Os) (started : os.Started) (H : Type) (enc : TypeId × Value → H) :
  ReturnsInHanded {} Tryz.checked os 9 .any (fun w args => (Rows.bookSheetsSpec.pre enc Tryz.prog Tryz.f9 Rows.bookSheetsRow.domain false w args ∧ laidMetH Tryz.prog Rows.bookSheetsRow.laid w) ∧ sizedMet enc Tryz.prog Tryz.f9 (OpenSpec.ofChange Rows.bookSheetsSpec) false w args) (Rows.bookSheetsSpec.post enc Tryz.prog Tryz.f9 false true false false) := by
 refine returnsInHanded_of_change_tied (C := Tryz.checked) (X := fun w _ => laidMetH Tryz.prog Rows.bookSheetsRow.laid w) (fun _ _ _ hh h => h.of_heap hh) own started V162 Tryz.func9
  (ChangeSpec.witness_shaped (enc := enc) (C := Tryz.checked) (os := os) (X := fun w _ => laidMetH Tryz.prog Rows.bookSheetsRow.laid w) false (World.laidAll Tryz.prog os Rows.bookSheetsRow.laid) #[.slice none 0 0, .string ⟨#[]⟩] 8 (World.laidAll_os _ _ _)
   (World.shaped_of_ZipB V162 V162) V162 V162 V162
   (by rw [MakeChecks.laidMetH_plain _ _ _ plainLaid]; exact laidMet_laidAll _ V162 V162)) ?_
 intro W base args ds gs before hval0 hW hsh hL
 have hval : ∀ (j : Nat) t v, Tryz.f9.params[j]? = some t → args[j]? = some v → Value.okWide Tryz.prog W .any base t v := hval0
 have hW' := hW
 obtain ⟨p, q, hA0, hV, rfl, hfz, hnd⟩ := hW'
 have hA : DataW.TrodAll enc Tryz.prog W 0 (fun _ => true) true Tryz.f9.params.toList args.toList ds p := hA0
 rw [Tryz.params9] at hA hval
 have hG := gok hsh hL
 obtain ⟨v0, v1, d0, d1, p0, p1, rfl, rfl, rfl, h0, h1⟩ := trodAll_two hA
 obtain ⟨rfl, rfl⟩ := trodVars_none hV
 obtain ⟨x0, l0, hx0⟩ := sheets_read (hval 0 61 v0 rfl rfl) h0
 obtain ⟨x1, l1, hx1⟩ := str_read (hval 1 9 v1 rfl rfl) h1
 refine (row_con (c_BookSheets x0 x1 l0 l1) W [v0, v1] ⟨hx0, hx1, trivial⟩ hG).mono fun e W' ⟨he, hb⟩ => ?_
 exact ⟨_, he, post_below (tb := 4) hW hb rfl rfl rfl V162 laidOut V160⟩
theorem bare : Rows.BookSheetsSaid :=
 OpenClaim.holds_of_wide 9 Tryz.f9 rfl rfl rfl rfl rfl rfl rfl ⟨rfl, rfl, rfl, rfl, rfl⟩ rfl rfl rfl rfl rfl V162 Tryz.func9 V162
  (of_decide_eq_true V162) (by unfold Func.isWrapper; first | (rw [if_pos V160]; kernel_rfl) | (rw [if_neg V160]; exact ⟨rfl, rfl⟩))
  (fun os started H enc _ => lifted os started H enc)
theorem holds : Rows.BookSheetsCardSaid :=
 Claim7.holds_tied_plain_at .later [] [.data, .data, .data, .data, .sentinel, .pinned] true (true, "a4c23813cb1a935b72d1bc74a8a412aa7df29762ec0388838dd8623dbac8462d") true
  bare (fun _ h => by cases h) V162 (fun _ h => by cases h) bookSheets_row_tie rfl ⟨rfl, rfl⟩ V162 rfl
  (fun f fn hf hfn => by
   obtain rfl : f = 9 := Option.some.inj ((show Tryz.prog.funcNamed "meterworks/meterworkslaw14.BookSheets" = some 9 by kernel_rfl).symm.trans hf) |>.symm
   obtain rfl : fn = Tryz.f9 := (Option.some.inj (Tryz.func9.symm.trans hfn)).symm
   exact ⟨by kernel_rfl, fun j t ht => by
    rw [Tryz.params9] at ht
    have ht2 : t ∈ Tryz.f9.params.toList := by rw [Tryz.params9]; exact List.mem_of_getElem? (by simpa using ht)
    exact (show ∀ t ∈ Tryz.f9.params.toList, Tryz.prog.wantsStandIn t = false by decide +kernel) t ht2⟩)
  V162
end Go.Proofs.YtpmdcdglfeicaaaGreatDoor
#print axioms Go.Proofs.YtpmdcdglfeicaaaGreatDoor.holds

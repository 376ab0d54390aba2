/- The statement BookPages, as a contract. -/
import Derived.Test.YtpmdcdglfeicaaaGreatDoorD1
import Derived.Test.YtpmdcdglfeicaaaGreatDoorB4
import Derived.Test.YtpmdcdglfeicaaaGreatDoorB13
import Derived.Test.YtpmdcdglfeicaaaGreatDoorB9
import Derived.Test.YtpmdcdglfeicaaaGreatDoorB12
import Derived.Test.YtpmdcdglfeicaaaGreatDoorRows
import Derived.Test.YtpmdcdglfeicaaaGreatDoorCards
import Derived.Test.YtpmdcdglfeicaaaGreatDoorTie
import Derived.Test.YtpmdcdglfeicaaaGreatDoorB10
import Derived.SevenTiedAt
import Derived.Stop.Joined
set_option linter.unusedSimpArgs false
set_option linter.unusedVariables false
set_option linter.unusedSectionVars false
set_option linter.deprecated false
namespace Go.Mw
open Go.Proofs
open Go.Bk
attribute [local go_sem] decide_true beq_self_eq_true bne_self_eq_false
theorem rgE_eq (r : Option (List Pg)) : rgE r = .tup [(false, [.d (pgsD (r.getD []))]), (false, [.d (.i (bif r.isSome then 0 else 8))])] := by cases r <;> rfl
theorem rgE_len (b : Bs) : ((readG b).getD []).length ≤ 32 ∧ ∀ x ∈ (readG b).getD [], x.reads.length ≤ 16 := by
 cases h : readG b with
 | none => exact ⟨Nat.zero_le _, fun x hx => by cases hx⟩
 | some l =>
  obtain ⟨h1, h2, _⟩ := errB_ok (readG_iff.1 h).1
  exact ⟨h1, fun x hx => (pageOK_iff.1 (List.all_eq_true.1 h2 x hx)).2.1⟩
set_option maxRecDepth 20000 in
set_option maxHeartbeats 8000000 in
theorem c_BookPages (l : List Pg) (b : Bs) (hl : l.length ≤ 9223372036854775807) (hb : b.length ≤ 9223372036854775807) : Contract Tryz.prog 6 [.leaf (.d (pgsD l)), .str b] (.bool true) [] := by
 have k0 := c_long [] [] l (by decide) (by decide) hl
 refine con_of follows_mixed Tryz.func6 rfl (by simp only [List.length_cons, List.length_nil, Tryz.ntmps6]; omega) V146 rfl ?_
 refine Exec.reg ?_
 refine Run.o ?_
 refine Run.nil (Exec.assocS ?_)
 by_cases hg : longB [] [] l = true
 ·skip
  refine Exec.reg ?_
  have X := Fx.mk hg
  refine Run.o1 V136 ?_
  refine Run.c1 (k0) V136 V136 ?_
  refine Run.o1 V136 ?_
  iterate 3 (refine Run.s ?_)
  refine Run.o1 V136 ?_
  refine Run.nil ?_
  refine Exec.cndS V136 (fun hb19 => ?_) (fun hb19 => ?_)
  ·skip
   refine Exec.assocS (Exec.reg ?_)
   refine Run.c1 (c_alive) V136 V136 ?_
   refine Run.o1 V136 ?_
   refine Run.nil (Exec.retS ?_)
   exact Ends.fin [] (rs := [.tmp 4]) rfl V136 V107
  ·exact absurd hb19 (by simp)
 ·skip
  have hgf : longB [] [] l = false := by simpa using hg
  obtain ⟨_, _, b1, b2⟩ := long_no hgf
  refine Exec.reg ?_
  have X := Fx.mk hgf
  refine Run.o1 V136 ?_
  refine Run.c1 (k0) V136 V136 ?_
  refine Run.o1 V136 ?_
  iterate 3 (refine Run.y1 V136 ?_)
  refine Run.o1 V136 ?_
  refine Run.nil ?_
  refine Exec.cndS V136 (fun hb19 => ?_) (fun hb19 => ?_)
  ·skip
   refine Exec.assocS (Exec.reg ?_)
   refine Run.c1 (c_alive) V136 V136 ?_
   refine Run.o1 V136 ?_
   refine Run.nil (Exec.retS ?_)
   exact Ends.fin [] (rs := [.tmp 4]) rfl V136 V107
  ·skip
   have hb4 : b.length ≤ 3000 := by have := of_decide_eq_false hb19; omega
   have k1 := c_WritePages l (by omega) (fun x hx => by have := b2 x hx; omega)
   have k2 := c_ref_WritePages l (by omega) (fun x hx => by have := b2 x hx; omega)
   have k3 := c_ReadPages b (by omega)
   rw [parseG_eq, rgE_eq] at k3
   have k4 := c_ref_ReadPages b (by omega)
   rw [rgE_eq] at k4
   obtain ⟨hrl, hrr⟩ := rgE_len b
   have k5 := c_SamePages ((readG b).getD []) ((readG b).getD []) (by omega) (by omega) (fun x hx => by have := hrr x hx; omega)
   rw [decide_eq_true (rfl : ((readG b).getD []) = ((readG b).getD []))] at k5
   refine Exec.skipS (Exec.reg ?_)
   refine Run.o1 V136 ?_
   refine Run.c1 (k1) V136 V136 ?_
   iterate 5 (refine Run.o1 V136 ?_)
   refine Run.nil (Exec.reg ?_)
   refine Run.o1 V136 ?_
   refine Run.c1 (k2) V136 V136 ?_
   iterate 5 (refine Run.o1 V136 ?_)
   refine Run.nil (Exec.reg ?_)
   refine Run.o1 V136 ?_
   refine Run.c1 (k3) V136 V136 ?_
   iterate 5 (refine Run.o1 V136 ?_)
   refine Run.nil (Exec.reg ?_)
   refine Run.o1 V136 ?_
   refine Run.c1 (k4) V136 V136 ?_
   iterate 5 (refine Run.o1 V136 ?_)
   refine Run.nil (Exec.reg ?_)
   iterate 4 (refine Run.o1 V136 ?_)
   iterate 3 (refine Run.y1 V136 ?_)
   iterate 2 (refine Run.o1 V136 ?_)
   iterate 2 (refine Run.y1 V136 ?_)
   refine Run.calw V139 (k5) V141 V136 V136 V25 (fr0) V136 ?_
   iterate 2 (refine Run.o1 V136 ?_)
   iterate 3 (refine Run.y1 V136 ?_)
   iterate 2 (refine Run.o1 V136 ?_)
   refine Run.calw V139 (c_alive) V141 V136 V136 (by exact trivial) (fr0) V136 ?_
   iterate 2 (refine Run.o1 V136 ?_)
   refine Run.nil ?_
   exact Ends.fin [] (rs := [.tmp 4]) rfl V136 V107

end Go.Mw
namespace Go.Proofs.YtpmdcdglfeicaaaGreatDoor
open Go.Mw Go.ChangeShapes Go.WideShapes Go.ChangeAt Go.RowKit
set_option maxRecDepth 100000

theorem own : ownKnob Tryz.prog.godebug = none := by kernel_rfl
theorem laidOut : laidOutB Tryz.prog = true := by kernel_rfl
theorem plainLaid : (Rows.bookPagesRow.laid.all fun x => x.2.handleName?.isNone) = true := by kernel_rfl
theorem gok {W : World} (hs : W.ShapedOpen Tryz.prog) (hL : laidMetH Tryz.prog Rows.bookPagesRow.laid W) : GOk Tryz.prog (fun b _ => b < W.heap.size) W :=
 GOk.of hL plainLaid rfl (g := 1) (t := 272) (e := 245) (n := 20) V146 V146 V146 V146 V146 V146
  (m := 2) (tm := 3) (zero := #[.int .i64 0]) V146 hs V143 V146 V146 V146 V146 V146
theorem lifted (os : Os) (started : os.Started) (H : Type) (enc : TypeId × Value → H) :
  ReturnsInHanded {} Tryz.checked os 6 .any (fun w args => (Rows.bookPagesSpec.pre enc Tryz.prog Tryz.f6 Rows.bookPagesRow.domain false w args ∧ laidMetH Tryz.prog Rows.bookPagesRow.laid w) ∧ sizedMet enc Tryz.prog Tryz.f6 (OpenSpec.ofChange Rows.bookPagesSpec) false w args) (Rows.bookPagesSpec.post enc Tryz.prog Tryz.f6 false true false false) := by
 refine returnsInHanded_of_change_tied (C := Tryz.checked) (X := fun w _ => laidMetH Tryz.prog Rows.bookPagesRow.laid w) (fun _ _ _ hh h => h.of_heap hh) own started V146 Tryz.func6
  (ChangeSpec.witness_shaped (enc := enc) (C := Tryz.checked) (os := os) (X := fun w _ => laidMetH Tryz.prog Rows.bookPagesRow.laid w) false (World.laidAll Tryz.prog os Rows.bookPagesRow.laid) #[.slice none 0 0, .string ⟨#[]⟩] 8 (World.laidAll_os _ _ _)
   (World.shaped_of_ZipB V146 V146) V146 V146 V146
   (by rw [MakeChecks.laidMetH_plain _ _ _ plainLaid]; exact laidMet_laidAll _ V146 V146)) ?_
 intro W base args ds gs before hval0 hW hsh hL
 have hval : ∀ (j : Nat) t v, Tryz.f6.params[j]? = some t → args[j]? = some v → Value.okWide Tryz.prog W .any base t v := hval0
 have hW' := hW
 obtain ⟨p, q, hA0, hV, rfl, hfz, hnd⟩ := hW'
 have hA : DataW.TrodAll enc Tryz.prog W 0 (fun _ => true) true Tryz.f6.params.toList args.toList ds p := hA0
 rw [Tryz.params6] at hA hval
 have hG := gok hsh hL
 obtain ⟨v0, v1, d0, d1, p0, p1, rfl, rfl, rfl, h0, h1⟩ := trodAll_two hA
 obtain ⟨rfl, rfl⟩ := trodVars_none hV
 obtain ⟨x0, l0, hx0⟩ := pages_read (hval 0 28 v0 rfl rfl) h0
 obtain ⟨x1, l1, hx1⟩ := str_read (hval 1 9 v1 rfl rfl) h1
 refine (row_con (c_BookPages x0 x1 l0 l1) W [v0, v1] ⟨hx0, hx1, trivial⟩ hG).mono fun e W' ⟨he, hb⟩ => ?_
 exact ⟨_, he, post_below (tb := 4) hW hb rfl rfl rfl V146 laidOut V143⟩
theorem bare : Rows.BookPagesSaid :=
 OpenClaim.holds_of_wide 6 Tryz.f6 rfl rfl rfl rfl rfl rfl rfl ⟨rfl, rfl, rfl, rfl, rfl⟩ rfl rfl rfl rfl rfl V146 Tryz.func6 V146
  (of_decide_eq_true V146) V63
  (fun os started H enc _ => lifted os started H enc)
theorem holds : Rows.BookPagesCardSaid :=
 Claim7.holds_tied_plain_at .later [] [.data, .data, .data, .data, .sentinel, .pinned] true (true, "a4c23813cb1a935b72d1bc74a8a412aa7df29762ec0388838dd8623dbac8462d") true
  bare (fun _ h => by cases h) V146 (fun _ h => by cases h) bookPages_row_tie rfl ⟨rfl, rfl⟩ V146 rfl
  (fun f fn hf hfn => by
   obtain rfl : f = 6 := Option.some.inj ((show Tryz.prog.funcNamed "meterworks/meterworkslaw14.BookPages" = some 6 by kernel_rfl).symm.trans hf) |>.symm
   obtain rfl : fn = Tryz.f6 := (Option.some.inj (Tryz.func6.symm.trans hfn)).symm
   exact ⟨by kernel_rfl, fun j t ht => by
    rw [Tryz.params6] at ht
    have ht2 : t ∈ Tryz.f6.params.toList := by rw [Tryz.params6]; exact List.mem_of_getElem? (by simpa using ht)
    exact (show ∀ t ∈ Tryz.f6.params.toList, Tryz.prog.wantsStandIn t = false by decide +kernel) t ht2⟩)
  V146
end Go.Proofs.YtpmdcdglfeicaaaGreatDoor
#print axioms Go.Proofs.YtpmdcdglfeicaaaGreatDoor.holds

/- The statement DrumSpans: whatever the input, the call returns true, and its arguments read as they did. No condition. -/
import Derived.Test.YtenpjhnppaipbaaRows
import Derived.Test.YtenpjhnppaipbaaS1
set_option linter.unusedSimpArgs false
set_option linter.unusedVariables false
set_option linter.unusedSectionVars false
set_option linter.deprecated false
namespace Go.Proofs.Ytenpjhnppaipbaa
open Go.Mw Go.ChangeShapes Go.WideShapes Go.ChangeAt Go.RowKit

theorem own : ownKnob Try.prog.godebug = none := by kernel_rfl
theorem laidOut : laidOutB Try.prog = true := by kernel_rfl
set_option maxRecDepth 100000 in
theorem lifted (os : Os) (started : os.Started) (H : Type) (enc : TypeId × Value → H) :
    ReturnsInHanded {} Try.checked os 6 .any (Rows.drumSpansSpec.pre6 enc Try.prog Try.f6 Rows.drumSpansRow.domain false) (Rows.drumSpansSpec.post enc Try.prog Try.f6 false true false false) := by
  refine returnsInHanded_of_change (C := Try.checked) own started (by kernel_rfl) Try.func6
    (ChangeSpec.witness6 (enc := enc) (C := Try.checked) false ⟨#[], #[.slice none 0 0, .int .i64 0, .int .i64 0, .int .u32 0], []⟩ 8 (by kernel_rfl) (by kernel_rfl) (by kernel_rfl) (by kernel_rfl)) ?_
  intro W base args ds gs before hval0 hW hcnd _
  have hval : ∀ (j : Nat) t v, Try.f6.params[j]? = some t → args[j]? = some v → Value.okWide Try.prog W .any base t v := hval0
  have hW' := hW
  obtain ⟨p, q, hA0, hV, rfl, hfz, hnd⟩ := hW
  have hA : DataW.TrodAll enc Try.prog W 0 (fun _ => true) true Try.f6.params.toList args.toList ds p := hA0
  rw [Try.params6] at hA hval
  obtain ⟨v0, v1, v2, v3, d0, d1, d2, d3, p0, p1, p2, p3, rfl, rfl, rfl, h0, h1, h2, h3⟩ := trodAll_four hA
  obtain ⟨rfl, rfl⟩ := trodVars_none hV
  obtain ⟨x0, hx0⟩ := ints_read (hval 0 24 v0 rfl rfl) h0
  have hl0 := sl_len (P := Try.prog) (e := 3) (by kernel_rfl) (hval 0 24 v0 rfl rfl) h0 hx0
  obtain ⟨x1, hb1, hx1⟩ := int_read (k := .i64) (P := Try.prog) (by kernel_rfl) (hval 1 3 v1 rfl rfl) h1
  obtain ⟨x2, hb2, hx2⟩ := int_read (k := .i64) (P := Try.prog) (by kernel_rfl) (hval 2 3 v2 rfl rfl) h2
  obtain ⟨x3, hb3, hx3⟩ := u32_read (P := Try.prog) (by kernel_rfl) (hval 3 47 v3 rfl rfl) h3
  refine (row_con (c_law_DrumSpans x0 x1 x2 x3 hb3) W [v0, v1, v2, v3] ⟨hx0, hx1, hx2, hx3, trivial⟩).mono fun e W' ⟨he, hb⟩ => ?_
  exact ⟨_, he, post_below (tb := 4) hW' hb rfl rfl rfl (by kernel_rfl) laidOut (by decide +kernel)⟩
theorem holds : Rows.DrumSpansSaid :=
  OpenClaim.holds_of_wide 6 Try.f6 rfl rfl rfl rfl rfl rfl rfl ⟨rfl, rfl, rfl, rfl, rfl⟩ rfl rfl rfl rfl rfl (by kernel_rfl) Try.func6 (by kernel_rfl)
    (of_decide_eq_true (by kernel_rfl)) (by unfold Func.isWrapper; first | (rw [if_pos (by decide +kernel)]; kernel_rfl) | (rw [if_neg (by decide +kernel)]; exact ⟨rfl, rfl⟩))
    (fun os started H enc _ => lifted os started H enc)
end Go.Proofs.Ytenpjhnppaipbaa
#print axioms Go.Proofs.Ytenpjhnppaipbaa.holds

/- The statement TopLitres: whatever the input, the call returns true, and its arguments read as they did. No condition. -/
import Derived.Test.YtkpacnlinpbinaaD1
import Derived.Test.YtkpacnlinpbinaaRows
import Derived.Test.YtkpacnlinpbinaaB10
set_option maxRecDepth 100000
set_option linter.unusedSimpArgs false
set_option linter.unusedVariables false
set_option linter.unusedSectionVars false
set_option linter.deprecated false
namespace Go.Proofs.Ytkpacnlinpbinaa
open Go.Mw Go.ChangeShapes Go.WideShapes Go.ChangeAt Go.RowKit
theorem own:ownKnob Try.prog.godebug=none:=by kernel_rfl
theorem laidOut:laidOutB Try.prog=true:=by kernel_rfl
theorem lifted (os:Os)(started:os.Started)(H:Type)(enc:TypeId × Value→H) :
  ReturnsInHanded {} Try.checked os 3 .any (Rows.topLitresSpec.pre6 enc Try.prog Try.f3 Rows.topLitresRow.domain false) (Rows.topLitresSpec.post enc Try.prog Try.f3 false true false false):=by
 refine returnsInHanded_of_change (C:=Try.checked) own started V215 Try.func3
  (ChangeSpec.witness6 (enc:=enc) (C:=Try.checked) false ⟨#[],#[.slice none 0 0,.agg #[.int .i64 0,.int .i64 0,.bool false,.int .i64 0,.int .i64 0],.agg #[.int .i64 0,.int .i64 0,.slice none 0 0],.int .u16 0,.int .u16 0,.int .u16 0],[]⟩ 8 V215 V215 V215 V215) ?_
 intro W base args ds gs before hval0 hW hcnd _
 have hval:∀(j:Nat) t v,Try.f3.params[j]? = some t→args[j]? = some v→Value.okWide Try.prog W .any base t v:=hval0
 have hW':=hW
 obtain ⟨p,q,hA0,hV,rfl,hfz,hnd⟩:=hW
 have hA:DataW.TrodAll enc Try.prog W 0 (fun _=>true) true Try.f3.params.toList args.toList ds p:=hA0
 rw [Try.params3] at hA hval
 obtain ⟨v0,v1,v2,v3,v4,v5,d0,d1,d2,d3,d4,d5,p0,p1,p2,p3,p4,p5,rfl,rfl,rfl,h0,h1,h2,h3,h4,h5⟩:=trodAll_six hA
 obtain ⟨rfl,rfl⟩:=trodVars_none hV
 obtain ⟨x0,hx0⟩:=whs_read (hval 0 22 v0 rfl rfl) h0
 obtain ⟨x1,hx1⟩:=gr_read (hval 1 24 v1 rfl rfl) h1
 obtain ⟨x2,hx2⟩:=cv_read (hval 2 27 v2 rfl rfl) h2
 obtain ⟨x3,hb3,hx3⟩:=u16_readI (hval 3 28 v3 rfl rfl) h3
 obtain ⟨x4,hb4,hx4⟩:=u16_readI (hval 4 28 v4 rfl rfl) h4
 obtain ⟨x5,hb5,hx5⟩:=u16_readI (hval 5 28 v5 rfl rfl) h5
 refine (row_con (c_TopLitres x0 x1 x2 x3 x4 x5 hb3 hb4 hb5) W [v0,v1,v2,v3,v4,v5] ⟨hx0,hx1,hx2,hx3,hx4,hx5,trivial⟩).mono fun e W' ⟨he,hb⟩=>?_
 exact ⟨_,he,post_below (tb:=4) hW' hb rfl rfl rfl V215 laidOut V212⟩
theorem holds:Rows.TopLitresSaid:=
 OpenClaim.holds_of_wide 3 Try.f3 rfl rfl rfl rfl rfl rfl rfl ⟨rfl,rfl,rfl,rfl,rfl⟩ rfl rfl rfl rfl rfl V215 Try.func3 V215
  (of_decide_eq_true V215) (by unfold Func.isWrapper;first|(rw [if_pos V212];kernel_rfl)|(rw [if_neg V212];exact ⟨rfl,rfl⟩))
  (fun os started H enc _=>lifted os started H enc)
end Go.Proofs.Ytkpacnlinpbinaa
#print axioms Go.Proofs.Ytkpacnlinpbinaa.holds

/- The statement BookTogether, as a contract. -/
import Derived.Test.YtpmdcdglfeicaaaGreatDoorTD
import Derived.Test.YtpmdcdglfeicaaaGreatDoorB11
import Derived.Test.YtpmdcdglfeicaaaGreatDoorRows
import Derived.Test.YtpmdcdglfeicaaaGreatDoorCards
import Derived.Test.YtpmdcdglfeicaaaGreatDoorTie
import Derived.SevenTiedAt
import Derived.Stop.Joined
set_option linter.unusedSimpArgs false
set_option linter.unusedVariables false
set_option linter.unusedSectionVars false
set_option linter.deprecated false
namespace Go.Mw
open Go.Proofs
open Go.Bk
attribute [local go_sem] decide_true beq_self_eq_true bne_self_eq_false
theorem wSheets_bnd {l : List Sh} (h : sheetsE l = 0) : (wSheets l).length ≤ 2000 := by
  obtain ⟨h1, h2, _⟩ := errB_ok h
  have := sheetsB_bnd l h2
  have e : wSheets l = sheetsB l := if_pos h
  rw [e]; omega
theorem wPages_bnd {l : List Pg} (h : pagesE l = 0) : (wPages l).length ≤ 14000 := by
  obtain ⟨h1, h2, _⟩ := errB_ok h
  have := pagesB_bnd l h2
  have e : wPages l = pagesB l := if_pos h
  rw [e]; omega
set_option maxRecDepth 20000 in
set_option maxHeartbeats 16000000 in
/-- meterworks/meterworkslaw14.BookTogether -/
theorem c_BookTogether (s : List Sh) (g : List Pg) (cut : Nat) (hs : s.length ≤ 9223372036854775807) (hg : g.length ≤ 9223372036854775807) (hc : cut ≤ 255) : Contract Tryz.prog 5 [.leaf (.d (shsD s)), .leaf (.d (pgsD g)), .leaf (.d (.raw (.int .u8 cut)))] (.bool true) [] := by
  have kl := c_long s [] g hs (by decide) hg
  refine con_of follows_mixed Tryz.func5 rfl (by simp only [List.length_cons, List.length_nil, Tryz.ntmps5]; omega) V174 rfl ?_
  refine Exec.reg ?_
  refine Run.o ?_
  refine Run.nil ?_
  refine Exec.assocS ?_
  refine Exec.reg ?_
  iterate 2 (refine Run.o ?_)
  refine Run.c1 (kl) V168 V168 ?_
  refine Run.nil ?_
  refine Exec.cndS V168 (fun hb22 => ?_) (fun hb22 => ?_)
  · skip
    refine Exec.assocS ?_
    refine Exec.reg ?_
    refine Run.c1 (c_alive) V168 V168 ?_
    refine Run.o ?_
    refine Run.nil ?_
    refine Exec.retS ?_
    exact Ends.fin [] (rs := [.tmp 6]) rfl V168 V123
  · skip
    obtain ⟨⟨b1, b2⟩, _, b3, b4⟩ := long_no hb22
    have k1 := c_WriteSheets s (by omega) (fun x hx => by have := b2 x hx; omega)
    have k2 := c_WritePages g (by omega) (fun x hx => by have := b4 x hx; omega)
    refine Exec.skipS ?_
    refine Exec.reg ?_
    refine Run.o ?_
    refine Run.c1 (k1) V168 V168 ?_
    iterate 5 (refine Run.o ?_)
    refine Run.nil ?_
    refine Exec.assocS ?_
    refine Exec.reg ?_
    iterate 2 (refine Run.o ?_)
    refine Run.nil ?_
    refine Exec.cndS V168 (fun hb30 => ?_) (fun hb30 => ?_)
    · skip
      have he : sheetsE s = 0 := by simpa using hb30
      have hsk : (cut : Int).tmod ((s.length : Int) + 1) = ((cut % (s.length + 1) : Nat) : Int) := by rw [Int.tmod_eq_emod_of_nonneg (by omega)]; simp
      obtain ⟨k, hk⟩ : ∃ k, cut % (s.length + 1) = k := ⟨_, rfl⟩
      rw [hk] at hsk
      have hkl : k ≤ s.length := by have := Nat.mod_lt cut (show 0 < s.length + 1 by omega); omega
      obtain ⟨z1, z2, z3⟩ := sheets_cut k he
      have m1 : List.take k (List.map encSh s) = List.map encSh (s.take k) := List.map_take.symm
      have m2 : List.drop k (List.map encSh s) = List.map encSh (s.drop k) := List.map_drop.symm
      have m3 : List.take (s.length - k) (List.map encSh (s.drop k)) = List.map encSh (s.drop k) := List.take_of_length_le (by simp)
      have w1 := c_WriteSheets (s.take k) V165 (fun x hx => by have := b2 x (List.mem_of_mem_take hx); omega)
      have w2 := c_WriteSheets (s.drop k) V166 (fun x hx => by have := b2 x (List.mem_of_mem_drop hx); omega)
      rw [z1] at w1
      rw [z2] at w2
      have hz : (wSheets s == wSheets (s.take k) ++ wSheets (s.drop k)) = true := by rw [z3]; simp
      have ho := wSheets_bnd he
      rw [z3, List.length_append] at ho
      refine Exec.assocS ?_
      refine Exec.reg ?_
      refine Run.o1 V122 ?_
      refine Run.o1 V38 ?_
      iterate 2 (refine Run.o1 V122 ?_)
      iterate 2 (refine Run.o1 V38 ?_)
      refine Run.o1 V122 ?_
      refine Run.nil ?_
      refine Exec.assocS ?_
      refine Exec.reg ?_
      iterate 2 (refine Run.o1 V122 ?_)
      refine Run.o1 V55 ?_
      refine Run.c1 (w1) V122 V122 ?_
      iterate 5 (refine Run.o1 V122 ?_)
      refine Run.nil ?_
      refine Exec.assocS ?_
      refine Exec.reg ?_
      iterate 2 (refine Run.o1 V122 ?_)
      refine Run.o1 V55 ?_
      refine Run.c1 (w2) V122 V122 ?_
      iterate 5 (refine Run.o1 V122 ?_)
      refine Run.nil ?_
      refine Exec.assocS ?_
      refine Exec.reg ?_
      iterate 3 (refine Run.o1 V122 ?_)
      iterate 2 (refine Run.y1 V122 ?_)
      iterate 2 (refine Run.o1 V122 ?_)
      iterate 3 (refine Run.y1 V122 ?_)
      refine Run.y1 V38 ?_
      refine Run.y1 V122 ?_
      refine Run.o1 V122 ?_
      refine Run.nil ?_
      refine Exec.cndS V122 (fun hb63 => ?_) (fun hb63 => ?_)
      · exact absurd hb63 (by simp)
      · skip
        refine Exec.skipS ?_
        refine Exec.reg ?_
        refine Run.o1 V122 ?_
        refine Run.c1 (k2) V122 V122 ?_
        iterate 5 (refine Run.o1 V122 ?_)
        refine Run.nil ?_
        refine Exec.assocS ?_
        refine Exec.reg ?_
        iterate 2 (refine Run.o1 V122 ?_)
        refine Run.nil ?_
        refine Exec.cndS V122 (fun hb70 => ?_) (fun hb70 => ?_)
        · skip
          have hne : pagesE g ≠ 0 := by simpa using hb70
          have hr : wPages g = [] := if_neg hne
          have hz0 : (([] : Bs) == []) = true := rfl
          refine Exec.assocS ?_
          refine Exec.reg ?_
          iterate 3 (refine Run.o1 V150 ?_)
          refine Run.calw V168 (c_alive) V170 V150 V150 (by exact trivial) (fr0) V150 ?_
          iterate 2 (refine Run.o1 V150 ?_)
          refine Run.nil ?_
          refine Exec.retS ?_
          exact Ends.fin [] (rs := [.tmp 6]) rfl V150 (by simp only [go_sem, hr, hz0] <;> first | rfl | exact eqz)
        · skip
          have he : pagesE g = 0 := by simpa using hb70
          have hsk : (cut : Int).tmod ((g.length : Int) + 1) = ((cut % (g.length + 1) : Nat) : Int) := by rw [Int.tmod_eq_emod_of_nonneg (by omega)]; simp
          obtain ⟨k, hk⟩ : ∃ k, cut % (g.length + 1) = k := ⟨_, rfl⟩
          rw [hk] at hsk
          have hkl : k ≤ g.length := by have := Nat.mod_lt cut (show 0 < g.length + 1 by omega); omega
          obtain ⟨z1, z2, z3⟩ := pages_cut k he
          have m1 : List.take k (List.map encPg g) = List.map encPg (g.take k) := List.map_take.symm
          have m2 : List.drop k (List.map encPg g) = List.map encPg (g.drop k) := List.map_drop.symm
          have m3 : List.take (g.length - k) (List.map encPg (g.drop k)) = List.map encPg (g.drop k) := List.take_of_length_le (by simp)
          have w1 := c_WritePages (g.take k) V165 (fun x hx => by have := b4 x (List.mem_of_mem_take hx); omega)
          have w2 := c_WritePages (g.drop k) V166 (fun x hx => by have := b4 x (List.mem_of_mem_drop hx); omega)
          rw [z1] at w1
          rw [z2] at w2
          have hz : (wPages g == wPages (g.take k) ++ wPages (g.drop k)) = true := by rw [z3]; simp
          have ho := wPages_bnd he
          rw [z3, List.length_append] at ho
          have h00 : ((0 : Int) == 0) = true := rfl
          refine Exec.skipS ?_
          refine Exec.reg ?_
          refine Run.o1 V114 ?_
          refine Run.o1 V34 ?_
          iterate 2 (refine Run.o1 V114 ?_)
          iterate 2 (refine Run.o1 V34 ?_)
          refine Run.o1 V114 ?_
          refine Run.nil ?_
          refine Exec.reg ?_
          iterate 2 (refine Run.o1 V114 ?_)
          refine Run.o1 V48 ?_
          refine Run.c1 (w1) V114 V114 ?_
          iterate 5 (refine Run.o1 V114 ?_)
          refine Run.nil ?_
          refine Exec.reg ?_
          iterate 2 (refine Run.o1 V114 ?_)
          refine Run.o1 V48 ?_
          refine Run.c1 (w2) V114 V114 ?_
          iterate 5 (refine Run.o1 V114 ?_)
          refine Run.nil ?_
          refine Exec.reg ?_
          iterate 3 (refine Run.o1 V114 ?_)
          iterate 2 (refine Run.y1 V114 ?_)
          iterate 2 (refine Run.o1 V114 ?_)
          iterate 3 (refine Run.y1 V114 ?_)
          refine Run.y1 V34 ?_
          refine Run.y1 V114 ?_
          iterate 2 (refine Run.o1 V114 ?_)
          refine Run.calw V168 (c_alive) V170 V114 V114 (by exact trivial) (fr0) V114 ?_
          iterate 2 (refine Run.o1 V114 ?_)
          refine Run.nil ?_
          exact Ends.fin [] (rs := [.tmp 6]) rfl V114 (by simp only [go_sem, hsk, m1, m2, m3, hz, h00] <;> first | rfl | exact eqz)
    · skip
      refine Exec.skipS ?_
      refine Exec.reg ?_
      refine Run.o ?_
      refine Run.c1 (k2) V168 V168 ?_
      iterate 5 (refine Run.o ?_)
      refine Run.nil ?_
      refine Exec.assocS ?_
      refine Exec.reg ?_
      iterate 2 (refine Run.o ?_)
      refine Run.nil ?_
      refine Exec.cndS V168 (fun hb70 => ?_) (fun hb70 => ?_)
      · skip
        have hne : pagesE g ≠ 0 := by simpa using hb70
        have hr : wPages g = [] := if_neg hne
        have hz0 : (([] : Bs) == []) = true := rfl
        refine Exec.assocS ?_
        refine Exec.reg ?_
        iterate 3 (refine Run.o1 V150 ?_)
        refine Run.calw V168 (c_alive) V170 V150 V150 (by exact trivial) (fr0) V150 ?_
        iterate 2 (refine Run.o1 V150 ?_)
        refine Run.nil ?_
        refine Exec.retS ?_
        exact Ends.fin [] (rs := [.tmp 6]) rfl V150 (by simp only [go_sem, hr, hz0] <;> first | rfl | exact eqz)
      · skip
        have he : pagesE g = 0 := by simpa using hb70
        have hsk : (cut : Int).tmod ((g.length : Int) + 1) = ((cut % (g.length + 1) : Nat) : Int) := by rw [Int.tmod_eq_emod_of_nonneg (by omega)]; simp
        obtain ⟨k, hk⟩ : ∃ k, cut % (g.length + 1) = k := ⟨_, rfl⟩
        rw [hk] at hsk
        have hkl : k ≤ g.length := by have := Nat.mod_lt cut (show 0 < g.length + 1 by omega); omega
        obtain ⟨z1, z2, z3⟩ := pages_cut k he
        have m1 : List.take k (List.map encPg g) = List.map encPg (g.take k) := List.map_take.symm
        have m2 : List.drop k (List.map encPg g) = List.map encPg (g.drop k) := List.map_drop.symm
        have m3 : List.take (g.length - k) (List.map encPg (g.drop k)) = List.map encPg (g.drop k) := List.take_of_length_le (by simp)
        have w1 := c_WritePages (g.take k) V165 (fun x hx => by have := b4 x (List.mem_of_mem_take hx); omega)
        have w2 := c_WritePages (g.drop k) V166 (fun x hx => by have := b4 x (List.mem_of_mem_drop hx); omega)
        rw [z1] at w1
        rw [z2] at w2
        have hz : (wPages g == wPages (g.take k) ++ wPages (g.drop k)) = true := by rw [z3]; simp
        have ho := wPages_bnd he
        rw [z3, List.length_append] at ho
        have h00 : ((0 : Int) == 0) = true := rfl
        refine Exec.skipS ?_
        refine Exec.reg ?_
        refine Run.o1 V114 ?_
        refine Run.o1 V34 ?_
        iterate 2 (refine Run.o1 V114 ?_)
        iterate 2 (refine Run.o1 V34 ?_)
        refine Run.o1 V114 ?_
        refine Run.nil ?_
        refine Exec.reg ?_
        iterate 2 (refine Run.o1 V114 ?_)
        refine Run.o1 V48 ?_
        refine Run.c1 (w1) V114 V114 ?_
        iterate 5 (refine Run.o1 V114 ?_)
        refine Run.nil ?_
        refine Exec.reg ?_
        iterate 2 (refine Run.o1 V114 ?_)
        refine Run.o1 V48 ?_
        refine Run.c1 (w2) V114 V114 ?_
        iterate 5 (refine Run.o1 V114 ?_)
        refine Run.nil ?_
        refine Exec.reg ?_
        iterate 3 (refine Run.o1 V114 ?_)
        iterate 2 (refine Run.y1 V114 ?_)
        iterate 2 (refine Run.o1 V114 ?_)
        iterate 3 (refine Run.y1 V114 ?_)
        refine Run.y1 V34 ?_
        refine Run.y1 V114 ?_
        iterate 2 (refine Run.o1 V114 ?_)
        refine Run.calw V168 (c_alive) V170 V114 V114 (by exact trivial) (fr0) V114 ?_
        iterate 2 (refine Run.o1 V114 ?_)
        refine Run.nil ?_
        exact Ends.fin [] (rs := [.tmp 6]) rfl V114 (by simp only [go_sem, hsk, m1, m2, m3, hz, h00] <;> first | rfl | exact eqz)

end Go.Mw
namespace Go.Proofs.YtpmdcdglfeicaaaGreatDoor
open Go.Mw Go.ChangeShapes Go.WideShapes Go.ChangeAt Go.RowKit
set_option maxRecDepth 100000

theorem own : ownKnob Tryz.prog.godebug = none := by kernel_rfl
theorem laidOut : laidOutB Tryz.prog = true := by kernel_rfl
theorem plainLaid : (Rows.bookTogetherRow.laid.all fun x => x.2.handleName?.isNone) = true := by kernel_rfl
theorem gok {W : World} (hs : W.ShapedOpen Tryz.prog) (hL : laidMetH Tryz.prog Rows.bookTogetherRow.laid W) : GOk Tryz.prog (fun b _ => b < W.heap.size) W :=
  GOk.of hL plainLaid rfl (g := 1) (t := 272) (e := 245) (n := 20) V174 V174 V174 V174 V174 V174
    (m := 2) (tm := 3) (zero := #[.int .i64 0]) V174 hs V172 V174 V174 V174 V174 V174
theorem lifted (os : Os) (started : os.Started) (H : Type) (enc : TypeId × Value → H) :
    ReturnsInHanded {} Tryz.checked os 5 .any (fun w args => (Rows.bookTogetherSpec.pre enc Tryz.prog Tryz.f5 Rows.bookTogetherRow.domain false w args ∧ laidMetH Tryz.prog Rows.bookTogetherRow.laid w) ∧ sizedMet enc Tryz.prog Tryz.f5 (OpenSpec.ofChange Rows.bookTogetherSpec) false w args) (Rows.bookTogetherSpec.post enc Tryz.prog Tryz.f5 false true false false) := by
  refine returnsInHanded_of_change_tied (C := Tryz.checked) (X := fun w _ => laidMetH Tryz.prog Rows.bookTogetherRow.laid w) (fun _ _ _ hh h => h.of_heap hh) own started V174 Tryz.func5
    (ChangeSpec.witness_shaped (enc := enc) (C := Tryz.checked) (os := os) (X := fun w _ => laidMetH Tryz.prog Rows.bookTogetherRow.laid w) false (World.laidAll Tryz.prog os Rows.bookTogetherRow.laid) #[.slice none 0 0, .slice none 0 0, .int .u8 0] 8 (World.laidAll_os _ _ _)
      (World.shaped_of_ZipB V174 V174) V174 V174 V174
      (by rw [MakeChecks.laidMetH_plain _ _ _ plainLaid]; exact laidMet_laidAll _ V174 V174)) ?_
  intro W base args ds gs before hval0 hW hsh hL
  have hval : ∀ (j : Nat) t v, Tryz.f5.params[j]? = some t → args[j]? = some v → Value.okWide Tryz.prog W .any base t v := hval0
  have hW' := hW
  obtain ⟨p, q, hA0, hV, rfl, hfz, hnd⟩ := hW'
  have hA : DataW.TrodAll enc Tryz.prog W 0 (fun _ => true) true Tryz.f5.params.toList args.toList ds p := hA0
  rw [Tryz.params5] at hA hval
  have hG := gok hsh hL
  obtain ⟨v0, v1, v2, d0, d1, d2, p0, p1, p2, rfl, rfl, rfl, h0, h1, h2⟩ := trodAll_three hA
  obtain ⟨rfl, rfl⟩ := trodVars_none hV
  obtain ⟨x0, l0, hx0⟩ := sheets_read (hval 0 61 v0 rfl rfl) h0
  obtain ⟨x1, l1, hx1⟩ := pages_read (hval 1 28 v1 rfl rfl) h1
  obtain ⟨x2, l2, hx2⟩ := u8_readN (hval 2 5 v2 rfl rfl) h2
  refine (row_con (c_BookTogether x0 x1 x2 l0 l1 l2) W [v0, v1, v2] ⟨hx0, hx1, hx2, trivial⟩ hG).mono fun e W' ⟨he, hb⟩ => ?_
  exact ⟨_, he, post_below (tb := 4) hW hb rfl rfl rfl V174 laidOut V172⟩
theorem bare : Rows.BookTogetherSaid :=
  OpenClaim.holds_of_wide 5 Tryz.f5 rfl rfl rfl rfl rfl rfl rfl ⟨rfl, rfl, rfl, rfl, rfl⟩ rfl rfl rfl rfl rfl V174 Tryz.func5 V174
    (of_decide_eq_true V174) (by unfold Func.isWrapper; first | (rw [if_pos V172]; kernel_rfl) | (rw [if_neg V172]; exact ⟨rfl, rfl⟩))
    (fun os started H enc _ => lifted os started H enc)
theorem holds : Rows.BookTogetherCardSaid :=
  Claim7.holds_tied_plain_at .later [] [.data, .data, .data, .sentinel] true (true, "a4c23813cb1a935b72d1bc74a8a412aa7df29762ec0388838dd8623dbac8462d") true
    bare (fun _ h => by cases h) V174 (fun _ h => by cases h) bookTogether_row_tie rfl ⟨rfl, rfl⟩ V174 rfl
    (fun f fn hf hfn => by
      obtain rfl : f = 5 := Option.some.inj ((show Tryz.prog.funcNamed "meterworks/meterworkslaw14.BookTogether" = some 5 by kernel_rfl).symm.trans hf) |>.symm
      obtain rfl : fn = Tryz.f5 := (Option.some.inj (Tryz.func5.symm.trans hfn)).symm
      exact ⟨by kernel_rfl, fun j t ht => by
        rw [Tryz.params5] at ht
        have ht2 : t ∈ Tryz.f5.params.toList := by rw [Tryz.params5]; exact List.mem_of_getElem? (by simpa using ht)
        exact (show ∀ t ∈ Tryz.f5.params.toList, Tryz.prog.wantsStandIn t = false by decide +kernel) t ht2⟩)
    V174
end Go.Proofs.YtpmdcdglfeicaaaGreatDoor
#print axioms Go.Proofs.YtpmdcdglfeicaaaGreatDoor.holds

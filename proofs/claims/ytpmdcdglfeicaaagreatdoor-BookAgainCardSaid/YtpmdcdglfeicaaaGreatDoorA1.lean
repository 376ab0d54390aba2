/- The statement BookAgain, as a contract. -/
import Derived.Test.YtpmdcdglfeicaaaGreatDoorD1
import Derived.Test.YtpmdcdglfeicaaaGreatDoorB4
import Derived.Test.YtpmdcdglfeicaaaGreatDoorB13
import Derived.Test.YtpmdcdglfeicaaaGreatDoorB9
import Derived.Test.YtpmdcdglfeicaaaGreatDoorB12
import Derived.Test.YtpmdcdglfeicaaaGreatDoorRows
import Derived.Test.YtpmdcdglfeicaaaGreatDoorCards
import Derived.Test.YtpmdcdglfeicaaaGreatDoorTie
import Derived.Test.YtpmdcdglfeicaaaGreatDoorB10
import Derived.SevenTiedAt
import Derived.Stop.Joined
set_option maxRecDepth 100000
set_option maxHeartbeats 8000000
set_option linter.unusedSimpArgs false
set_option linter.unusedVariables false
set_option linter.unusedSectionVars false
set_option linter.deprecated false
namespace Go.Mw
open Go.Proofs
open Go.Bk
attribute [local go_sem] decide_true beq_self_eq_true bne_self_eq_false
theorem againS {a : Bs} {l : List Sh} (h : parseS a = some l) : Contract Tryz.prog 30 [.leaf (.d (shsD l))] (strE a 0) [] := by
 obtain ⟨h1, h2⟩ := parseS_iff.1 h
 obtain ⟨q1, q2, _⟩ := errB_ok h1
 have k := c_WriteSheets l (by omega) (fun x hx => by
  have := List.all_eq_true.1 q2 x hx
  unfold sheetOK at this
  simp only [Bool.and_eq_true, decide_eq_true_eq] at this
  omega)
 rw [show wSheets l = a from (if_pos h1).trans h2, h1] at k
 exact k
theorem againP {b : Bs} {l : List Pl} (h : parseP b = some l) : Contract Tryz.prog 25 [.leaf (.d (plsD l))] (bysE b 0) [] := by
 obtain ⟨h1, h2⟩ := parseP_iff.1 h
 obtain ⟨q1, q2, _⟩ := errB_ok h1
 have k := c_WritePlates l (by omega)
 rw [show wPlates l = b from (if_pos h1).trans h2, h1] at k
 exact k
theorem againG {c : Bs} {l : List Pg} (h : parseG c = some l) : Contract Tryz.prog 17 [.leaf (.d (pgsD l))] (strE c 0) [] := by
 obtain ⟨h1, h2⟩ := parseG_iff.1 h
 obtain ⟨q1, q2, _⟩ := errB_ok h1
 have k := c_WritePages l (by omega) (fun x hx => by have h := List.all_eq_true.1 q2 x hx; unfold pageOK at h; simp only [Bool.and_eq_true, decide_eq_true_eq] at h; omega)
 rw [show wPages l = c from (if_pos h1).trans h2, h1] at k
 exact k
theorem rsE_e (r : Option (List Sh)) : rsE r = .tup [(false, [.d (shsD (r.getD []))]), (false, [.d (.i (bif r.isSome then 0 else 8))])] := by cases r <;> rfl
theorem rdE_e (r : Option (List Pl)) : rdE r = .tup [(false, [.d (plsD (r.getD []))]), (false, [.d (.i (bif r.isSome then 0 else 8))])] := by cases r <;> rfl
theorem rgE_e (r : Option (List Pg)) : rgE r = .tup [(false, [.d (pgsD (r.getD []))]), (false, [.d (.i (bif r.isSome then 0 else 8))])] := by cases r <;> rfl
theorem c_BookAgain (a b c : Bs) (ha : a.length ≤ 9223372036854775807) (hb : b.length ≤ 9223372036854775807) (hc : c.length ≤ 9223372036854775807) : Contract Tryz.prog 11 [.str a, .leaf (.d (bysD b)), .str c] (.bool true) [] := by
 have z0 : ((0 : Int) != 0) = false := rfl
 have z1 : (((0 : Nat) : Int) != 0) = false := rfl
 have z8 : ((8 : Int) != 8) = false := rfl
 refine con_of follows_mixed Tryz.func11 rfl (by simp only [List.length_cons, List.length_nil, Tryz.ntmps11]; omega) V169 rfl ?_
 refine Exec.reg ?_
 have X := ((Fx.mk z0).a z1).a z8
 refine Run.o1 V147 ?_
 refine Run.nil (Exec.assocS ?_)
 by_cases h0 : 3000 < a.length
 ·skip
  have d1 : decide ((a.length : Int) > 3000) = true := decide_eq_true (by omega)
  refine Exec.reg ?_
  have X := X.a d1
  iterate 4 (refine Run.o1 V147 ?_)
  iterate 3 (refine Run.s ?_)
  iterate 2 (refine Run.o1 V147 ?_)
  iterate 3 (refine Run.s ?_)
  refine Run.o1 V147 ?_
  refine Run.nil ?_
  refine Exec.cndS V147 (fun hb29 => ?_) (fun hb29 => ?_)
  ·skip
   refine Exec.assocS (Exec.reg ?_)
   refine Run.c1 (c_alive) V147 V147 ?_
   refine Run.o1 V147 ?_
   refine Run.nil (Exec.retS ?_)
   exact Ends.fin [] (rs := [.tmp 6]) rfl V147 V122
  ·exact absurd hb29 (by simp)
 ·skip
  have d1 : decide ((a.length : Int) > 3000) = false := decide_eq_false (by omega)
  by_cases h1 : 400 < b.length
  ·skip
   have d2 : decide ((b.length : Int) > 400) = true := decide_eq_true (by omega)
   refine Exec.reg ?_
   have X := (X.a d1).a d2
   iterate 4 (refine Run.o1 V147 ?_)
   iterate 3 (refine Run.y1 V147 ?_)
   iterate 2 (refine Run.o1 V147 ?_)
   iterate 3 (refine Run.s ?_)
   refine Run.o1 V147 ?_
   refine Run.nil ?_
   refine Exec.cndS V147 (fun hb29 => ?_) (fun hb29 => ?_)
   ·skip
    refine Exec.assocS (Exec.reg ?_)
    refine Run.c1 (c_alive) V147 V147 ?_
    refine Run.o1 V147 ?_
    refine Run.nil (Exec.retS ?_)
    exact Ends.fin [] (rs := [.tmp 6]) rfl V147 V122
   ·exact absurd hb29 (by simp)
  ·skip
   have d2 : decide ((b.length : Int) > 400) = false := decide_eq_false (by omega)
   refine Exec.reg ?_
   have X := (X.a d1).a d2
   iterate 4 (refine Run.o1 V147 ?_)
   iterate 3 (refine Run.y1 V147 ?_)
   iterate 2 (refine Run.o1 V147 ?_)
   iterate 3 (refine Run.y1 V147 ?_)
   refine Run.o1 V147 ?_
   refine Run.nil ?_
   refine Exec.cndS V147 (fun hb29 => ?_) (fun hb29 => ?_)
   ·skip
    refine Exec.assocS (Exec.reg ?_)
    refine Run.c1 (c_alive) V147 V147 ?_
    refine Run.o1 V147 ?_
    refine Run.nil (Exec.retS ?_)
    exact Ends.fin [] (rs := [.tmp 6]) rfl V147 V122
   ·skip
    have hc4 : c.length ≤ 3000 := by have := of_decide_eq_false hb29; omega
    obtain ⟨r1, hr1⟩ : ∃ r, parseS a = r := ⟨_, rfl⟩
    obtain ⟨r2, hr2⟩ : ∃ r, parseP b = r := ⟨_, rfl⟩
    obtain ⟨r3, hr3⟩ : ∃ r, parseG c = r := ⟨_, rfl⟩
    have k1 := c_ReadSheets a (by omega)
    rw [hr1, rsE_e] at k1
    have m1 := c_ReadPlates b (by omega)
    rw [hr2, rdE_e] at m1
    have n1 := c_ReadPages c (by omega)
    rw [hr3, rgE_e] at n1
    refine Exec.skipS (Exec.reg ?_)
    refine Run.o1 V147 ?_
    refine Run.c1 (k1) V147 V147 ?_
    iterate 5 (refine Run.o1 V147 ?_)
    refine Run.nil (Exec.assocS (Exec.reg ?_))
    iterate 2 (refine Run.o1 V147 ?_)
    refine Run.nil ?_
    refine Exec.joinA [0, 1, 2, 6] [] (fun (o : Unit) => []) (fun (o : Unit) => True) (fun o => by simp only [go_sem] <;> rfl) ?_ (fun o hj => ?_)
    ·skip
     refine Exec.cnd V147 (fun hb37 => ?_) (fun hb37 => ?_)
     ·skip
      obtain ⟨l, rfl⟩ : ∃ l, r1 = some l := by
       cases r1 with
       | none => exact absurd hb37 (by simp)
       | some l => exact ⟨l, rfl⟩
      have k2 := againS hr1
      refine Exec.reg ?_
      refine Run.o1 V92 ?_
      refine Run.c1 (k2) V92 V92 ?_
      iterate 5 (refine Run.o1 V92 ?_)
      refine Run.nil (Exec.reg ?_)
      iterate 4 (refine Run.o1 V92 ?_)
      iterate 2 (refine Run.y1 V92 ?_)
      refine Run.o1 V92 ?_
      refine Run.nil ?_
      refine Exec.cnd V92 (fun hb49 => ?_) (fun hb49 => ?_)
      ·exact absurd hb49 (by simp)
      ·skip
       refine JoinK.nrm (()) ?_ ?_
       ·trivial
       ·exact Ghost.kp [0, 1, 2, 6] [] V85
     ·skip
      obtain rfl : r1 = none := by
       cases r1 with
       | none => rfl
       | some l => exact absurd hb37 (by simp)
      refine Exec.reg ?_
      iterate 4 (refine Run.o1 V86 ?_)
      iterate 2 (refine Run.y1 V86 ?_)
      refine Run.o1 V86 ?_
      refine Run.nil ?_
      refine Exec.cnd V86 (fun hb56 => ?_) (fun hb56 => ?_)
      ·exact absurd hb56 (by simp)
      ·skip
       refine JoinK.nrm (()) ?_ ?_
       ·trivial
       ·exact Ghost.kp [0, 1, 2, 6] [] V75
    ·skip
     refine Exec.reg ?_
     refine Run.o1 V147 ?_
     refine Run.c1 (m1) V147 V147 ?_
     iterate 5 (refine Run.o1 V147 ?_)
     refine Run.nil (Exec.assocS (Exec.reg ?_))
     iterate 2 (refine Run.o1 V147 ?_)
     refine Run.nil ?_
     refine Exec.joinA [0, 1, 2, 6] [] (fun (o : Unit) => []) (fun (o : Unit) => True) (fun o => by simp only [go_sem] <;> rfl) ?_ (fun o hj => ?_)
     ·skip
      refine Exec.cnd V147 (fun hb63 => ?_) (fun hb63 => ?_)
      ·skip
       obtain ⟨l, rfl⟩ : ∃ l, r2 = some l := by
        cases r2 with
        | none => exact absurd hb63 (by simp)
        | some l => exact ⟨l, rfl⟩
       have m2 := againP hr2
       refine Exec.reg ?_
       refine Run.o1 V92 ?_
       refine Run.c1 (m2) V92 V92 ?_
       iterate 5 (refine Run.o1 V92 ?_)
       refine Run.nil (Exec.reg ?_)
       refine Run.o1 V92 ?_
       refine Run.val (semV_btos Tryz.underlying53 Tryz.underlying5 Tryz.underlying9 (l := b) (.inl V162)) V162 V162 ?_
       refine Run.o1 V92 ?_
       refine Run.val (semV_btos Tryz.underlying53 Tryz.underlying5 Tryz.underlying9 (l := b) (.inl V162)) V162 V162 ?_
       iterate 2 (refine Run.o1 V92 ?_)
       iterate 2 (refine Run.y1 V92 ?_)
       refine Run.o1 V92 ?_
       refine Run.nil ?_
       refine Exec.cnd V92 (fun hb77 => ?_) (fun hb77 => ?_)
       ·exact absurd hb77 (by simp)
       ·skip
        refine JoinK.nrm (()) ?_ ?_
        ·trivial
        ·exact Ghost.kp [0, 1, 2, 6] [] V85
      ·skip
       obtain rfl : r2 = none := by
        cases r2 with
        | none => rfl
        | some l => exact absurd hb63 (by simp)
       refine Exec.reg ?_
       iterate 4 (refine Run.o1 V86 ?_)
       iterate 2 (refine Run.y1 V86 ?_)
       refine Run.o1 V86 ?_
       refine Run.nil ?_
       refine Exec.cnd V86 (fun hb84 => ?_) (fun hb84 => ?_)
       ·exact absurd hb84 (by simp)
       ·skip
        refine JoinK.nrm (()) ?_ ?_
        ·trivial
        ·exact Ghost.kp [0, 1, 2, 6] [] V75
     ·skip
      refine Exec.reg ?_
      refine Run.o1 V147 ?_
      refine Run.c1 (n1) V147 V147 ?_
      iterate 5 (refine Run.o1 V147 ?_)
      refine Run.nil (Exec.assocS (Exec.reg ?_))
      iterate 2 (refine Run.o1 V147 ?_)
      refine Run.nil ?_
      refine Exec.joinA [0, 1, 2, 6] [] (fun (o : Unit) => []) (fun (o : Unit) => True) (fun o => by simp only [go_sem] <;> rfl) ?_ (fun o hj => ?_)
      ·skip
       refine Exec.cnd V147 (fun hb91 => ?_) (fun hb91 => ?_)
       ·skip
        obtain ⟨l, rfl⟩ : ∃ l, r3 = some l := by
         cases r3 with
         | none => exact absurd hb91 (by simp)
         | some l => exact ⟨l, rfl⟩
        have n2 := againG hr3
        refine Exec.reg ?_
        refine Run.o1 V92 ?_
        refine Run.c1 (n2) V92 V92 ?_
        iterate 5 (refine Run.o1 V92 ?_)
        refine Run.nil (Exec.reg ?_)
        iterate 4 (refine Run.o1 V92 ?_)
        iterate 2 (refine Run.y1 V92 ?_)
        refine Run.o1 V92 ?_
        refine Run.nil ?_
        refine Exec.cnd V92 (fun hb103 => ?_) (fun hb103 => ?_)
        ·exact absurd hb103 (by simp)
        ·skip
         refine JoinK.nrm (()) ?_ ?_
         ·trivial
         ·exact Ghost.kp [0, 1, 2, 6] [] V85
       ·skip
        obtain rfl : r3 = none := by
         cases r3 with
         | none => rfl
         | some l => exact absurd hb91 (by simp)
        refine Exec.reg ?_
        iterate 4 (refine Run.o1 V86 ?_)
        iterate 2 (refine Run.y1 V86 ?_)
        refine Run.o1 V86 ?_
        refine Run.nil ?_
        refine Exec.cnd V86 (fun hb110 => ?_) (fun hb110 => ?_)
        ·exact absurd hb110 (by simp)
        ·skip
         refine JoinK.nrm (()) ?_ ?_
         ·trivial
         ·exact Ghost.kp [0, 1, 2, 6] [] V75
      ·skip
       refine Exec.reg ?_
       refine Run.c1 (c_alive) V147 V147 ?_
       refine Run.o1 V147 ?_
       refine Run.nil ?_
       exact Ends.fin [] (rs := [.tmp 6]) rfl V147 V122
end Go.Mw
namespace Go.Proofs.YtpmdcdglfeicaaaGreatDoor
open Go.Mw Go.ChangeShapes Go.WideShapes Go.ChangeAt Go.RowKit
theorem own : ownKnob Tryz.prog.godebug = none := by kernel_rfl
theorem laidOut : laidOutB Tryz.prog = true := by kernel_rfl
theorem plainLaid : (Rows.bookAgainRow.laid.all fun x => x.2.handleName?.isNone) = true := by kernel_rfl
theorem gok {W : World} (hs : W.ShapedOpen Tryz.prog) (hL : laidMetH Tryz.prog Rows.bookAgainRow.laid W) : GOk Tryz.prog (fun b _ => b < W.heap.size) W :=
 GOk.of hL plainLaid rfl (g := 1) (t := 272) (e := 245) (n := 20) V169 V169 V169 V169 V169 V169
  (m := 2) (tm := 3) (zero := #[.int .i64 0]) V169 hs V166 V169 V169 V169 V169 V169
theorem lifted (os : Os) (started : os.Started) (H : Type) (enc : TypeId × Value → H) :
  ReturnsInHanded {} Tryz.checked os 11 .any (fun w args => (Rows.bookAgainSpec.pre enc Tryz.prog Tryz.f11 Rows.bookAgainRow.domain false w args ∧ laidMetH Tryz.prog Rows.bookAgainRow.laid w) ∧ sizedMet enc Tryz.prog Tryz.f11 (OpenSpec.ofChange Rows.bookAgainSpec) false w args) (Rows.bookAgainSpec.post enc Tryz.prog Tryz.f11 false true false false) := by
 refine returnsInHanded_of_change_tied (C := Tryz.checked) (X := fun w _ => laidMetH Tryz.prog Rows.bookAgainRow.laid w) (fun _ _ _ hh h => h.of_heap hh) own started V169 Tryz.func11
  (ChangeSpec.witness_shaped (enc := enc) (C := Tryz.checked) (os := os) (X := fun w _ => laidMetH Tryz.prog Rows.bookAgainRow.laid w) false (World.laidAll Tryz.prog os Rows.bookAgainRow.laid) #[.string ⟨#[]⟩, .slice none 0 0, .string ⟨#[]⟩] 8 (World.laidAll_os _ _ _)
   (World.shaped_of_ZipB V169 V169) V169 V169 V169
   (by rw [MakeChecks.laidMetH_plain _ _ _ plainLaid]; exact laidMet_laidAll _ V169 V169)) ?_
 intro W base args ds gs before hval0 hW hsh hL
 have hval : ∀ (j : Nat) t v, Tryz.f11.params[j]? = some t → args[j]? = some v → Value.okWide Tryz.prog W .any base t v := hval0
 have hW' := hW
 obtain ⟨p, q, hA0, hV, rfl, hfz, hnd⟩ := hW'
 have hA : DataW.TrodAll enc Tryz.prog W 0 (fun _ => true) true Tryz.f11.params.toList args.toList ds p := hA0
 rw [Tryz.params11] at hA hval
 have hG := gok hsh hL
 obtain ⟨v0, v1, v2, d0, d1, d2, p0, p1, p2, rfl, rfl, rfl, h0, h1, h2⟩ := trodAll_three hA
 obtain ⟨rfl, rfl⟩ := trodVars_none hV
 obtain ⟨x0, l0, hx0⟩ := str_read (hval 0 9 v0 rfl rfl) h0
 obtain ⟨x1, l1, hx1⟩ := bytes_read (hval 1 53 v1 rfl rfl) h1
 obtain ⟨x2, l2, hx2⟩ := str_read (hval 2 9 v2 rfl rfl) h2
 refine (row_con (c_BookAgain x0 x1 x2 l0 l1 l2) W [v0, v1, v2] ⟨hx0, hx1, hx2, trivial⟩ hG).mono fun e W' ⟨he, hb⟩ => ?_
 exact ⟨_, he, post_below (tb := 4) hW hb rfl rfl rfl V169 laidOut V166⟩
theorem bare : Rows.BookAgainSaid :=
 OpenClaim.holds_of_wide 11 Tryz.f11 rfl rfl rfl rfl rfl rfl rfl ⟨rfl, rfl, rfl, rfl, rfl⟩ rfl rfl rfl rfl rfl V169 Tryz.func11 V169
  (of_decide_eq_true V169) (by unfold Func.isWrapper; first | (rw [if_pos V166]; kernel_rfl) | (rw [if_neg V166]; exact ⟨rfl, rfl⟩))
  (fun os started H enc _ => lifted os started H enc)
theorem holds : Rows.BookAgainCardSaid :=
 Claim7.holds_tied_plain_at .later [] [.data, .data, .data, .data, .sentinel, .pinned] true (true, "a4c23813cb1a935b72d1bc74a8a412aa7df29762ec0388838dd8623dbac8462d") true
  bare (fun _ h => by cases h) V169 (fun _ h => by cases h) bookAgain_row_tie rfl ⟨rfl, rfl⟩ V169 rfl
  (fun f fn hf hfn => by
   obtain rfl : f = 11 := Option.some.inj ((show Tryz.prog.funcNamed "meterworks/meterworkslaw14.BookAgain" = some 11 by kernel_rfl).symm.trans hf) |>.symm
   obtain rfl : fn = Tryz.f11 := (Option.some.inj (Tryz.func11.symm.trans hfn)).symm
   exact ⟨by kernel_rfl, fun j t ht => by
    rw [Tryz.params11] at ht
    have ht2 : t ∈ Tryz.f11.params.toList := by rw [Tryz.params11]; exact List.mem_of_getElem? (by simpa using ht)
    exact (show ∀ t ∈ Tryz.f11.params.toList, Tryz.prog.wantsStandIn t = false by decide +kernel) t ht2⟩)
  V169
end Go.Proofs.YtpmdcdglfeicaaaGreatDoor
#print axioms Go.Proofs.YtpmdcdglfeicaaaGreatDoor.holds

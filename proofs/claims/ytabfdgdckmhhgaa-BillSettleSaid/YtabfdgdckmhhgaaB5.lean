/- Contracts of the functions that the bill reaches: small ones. -/
import Derived.Test.YtabfdgdckmhhgaaB4
set_option linter.unusedSimpArgs false
set_option linter.unusedVariables false
set_option linter.unusedSectionVars false
set_option linter.deprecated false
namespace Go.Mw
open Go.Proofs
open Go.Bi
attribute [local go_sem] decide_true beq_self_eq_true bne_self_eq_false
theorem eqd {a b : Int} : (a == b) = decide (a = b) := by by_cases h : a = b <;> simp [h]
set_option maxRecDepth 20000 in
/-- meterworks/meterworksref13.in -/
theorem c_meterworksref13_in (n l h : Int) : Contract Try.prog 40 [.int n, .int l, .int h] (.bool (inD n l h)) [] := by
  refine con_of follows_mixed Try.func40 rfl (by simp only [List.length_cons, List.length_nil, Try.ntmps40]; omega) (by kernel_rfl) rfl ?_
  refine Exec.reg ?_
  refine Run.o1 (by simp only [go_sem, inD] <;> rfl) ?_
  refine Run.nil ?_
  refine Exec.reg ?_
  iterate 4 (refine Run.o1 (by simp only [go_sem, inD] <;> rfl) ?_)
  iterate 3 (refine Run.gop (by simp only [go_sem] <;> rfl) (by simp only [go_sem, inD] <;> rfl) (by simp only [go_sem] <;> rfl) ?_)
  iterate 2 (refine Run.o1 (by simp only [go_sem, inD] <;> rfl) ?_)
  refine Run.nil ?_
  exact Ends.fin [] (rs := [.tmp 6]) rfl (by simp only [go_sem, inD] <;> rfl) (by simp only [go_sem, inD] <;> first | rfl | exact eqz)

set_option maxRecDepth 20000 in
/-- meterworks/bill.within -/
theorem c_bill_within (n l h : Int) : Contract Try.prog 39 [.int n, .int l, .int h] (.bool (inD n l h)) [] := by
  refine con_of follows_mixed Try.func39 rfl (by simp only [List.length_cons, List.length_nil, Try.ntmps39]; omega) (by kernel_rfl) rfl ?_
  refine Exec.reg ?_
  refine Run.o1 (by simp only [go_sem, inD] <;> rfl) ?_
  refine Run.nil ?_
  refine Exec.reg ?_
  iterate 4 (refine Run.o1 (by simp only [go_sem, inD] <;> rfl) ?_)
  iterate 3 (refine Run.gop (by simp only [go_sem] <;> rfl) (by simp only [go_sem, inD] <;> rfl) (by simp only [go_sem] <;> rfl) ?_)
  iterate 2 (refine Run.o1 (by simp only [go_sem, inD] <;> rfl) ?_)
  refine Run.nil ?_
  exact Ends.fin [] (rs := [.tmp 6]) rfl (by simp only [go_sem, inD] <;> rfl) (by simp only [go_sem, inD] <;> first | rfl | exact eqz)

set_option maxRecDepth 20000 in
/-- meterworks/bill.isDay -/
theorem c_bill_isDay (n : Int) : Contract Try.prog 42 [.int n] (.bool (inD n 0 131072)) [] := by
  refine con_of follows_mixed Try.func42 rfl (by simp only [List.length_cons, List.length_nil, Try.ntmps42]; omega) (by kernel_rfl) rfl ?_
  refine Exec.reg ?_
  refine Run.o ?_
  refine Run.nil ?_
  refine Exec.reg ?_
  refine Run.o ?_
  refine Run.c1 (c_bill_within _ _ _) (by simp only [go_sem] <;> rfl) (by simp only [go_sem] <;> rfl) ?_
  refine Run.o ?_
  refine Run.nil ?_
  exact Ends.fin [] (rs := [.tmp 2]) rfl (by simp only [go_sem] <;> rfl) (by simp only [go_sem] <;> first | rfl | exact eqz)

set_option maxRecDepth 20000 in
set_option maxHeartbeats 4000000 in
/-- meterworks/bill.pairs[meterworks/api.Tariff] -/
theorem c_pairs_Trf {g : FuncId} {ds : List D} (ok : Option Trf → Trf → Bool) (hg : canCall Try.prog g = true) (l : List Trf) (hl : l.length ≤ 1000) (hp : ∀ b s, (∀ y, b = some y → y ∈ l) → s ∈ l → Contract Try.prog g (befD encTrf b :: trfV s :: ds.map fun x => .leaf (.d x)) (.bool (ok b s)) []) : Contract Try.prog 56 [.leaf (.d (.sl 2 (l.map encTrf))), .leaf (.d (.fn g ds))] (.bool (pairsB ok l)) [] := by
  refine con_of follows_mixed Try.func56 rfl (by simp only [List.length_cons, List.length_nil, Try.ntmps56]; omega) (by kernel_rfl) rfl ?_
  refine Exec.reg ?_
  refine Run.o ?_
  refine Run.nil ?_
  refine Exec.assocS ?_
  refine Exec.reg ?_
  iterate 3 (refine Run.o ?_)
  refine Run.nil ?_
  refine Exec.blk ?_
  refine Exec.forA [0, 1, 8, 9, 10] [] (l.length) (fun k => [.slot 10 (.int k)]) (fun k => pairsT ok l k = true) (fun k => by simp only [go_sem] <;> rfl) (by simp only [go_sem] <;> rfl) ?_ (fun k hk hX => ?_)
  · rfl
  · skip
    refine Exec.reg ?_
    refine Run.o ?_
    refine Run.nil ?_
    refine Exec.cndS (by simp only [go_sem] <;> rfl) (fun hb11 => ?_) (fun hb11 => ?_)
    · skip
      have hlt := lt_of_dec hb11
      obtain ⟨s, hs⟩ := elem_of hb11
      refine Exec.skipS ?_
      refine Exec.blk ?_
      refine Exec.reg ?_
      refine Run.o1 (by simp only [go_sem, hs] <;> rfl) ?_
      refine Run.o1 (by simp only [go_sem, hs]; (try simp (disch := omega) only [if_pos]); (try simp only [go_sem, hs])<;> rfl) ?_
      iterate 4 (refine Run.o1 (by simp only [go_sem, hs] <;> rfl) ?_)
      refine Run.nil ?_
      refine Exec.reg ?_
      refine Run.o1 (by simp only [go_sem, hs] <;> rfl) ?_
      refine Run.nil ?_
      refine Exec.assocS ?_
      refine Exec.reg ?_
      iterate 2 (refine Run.o1 (by simp only [go_sem, hs] <;> rfl) ?_)
      refine Run.nil ?_
      refine Exec.cndS (by simp only [go_sem, hs] <;> rfl) (fun hb16 => ?_) (fun hb16 => ?_)
      · skip
        have hk0 : 0 < k := by have := of_decide_eq_true hb16; omega
        obtain ⟨y, hy⟩ : ∃ y, l[k - 1]? = some y := ⟨_, List.getElem?_eq_getElem (by omega)⟩
        have hpv : prv l k = some y := by
          obtain ⟨j, rfl⟩ : ∃ j, k = j + 1 := ⟨k - 1, by omega⟩
          exact hy
        have hkj : ((k : Int) - 1).toNat = k - 1 := by omega
        have hok : ok (prv l k) s = ok (some y) s := by rw [hpv]
        have hcon := hp (some y) s (fun z hz => by cases hz; exact List.mem_of_getElem? hy) (List.mem_of_getElem? hs)
        simp only [befD] at hcon
        refine Exec.reg ?_
        iterate 2 (refine Run.o1 (by simp only [go_sem, hs, hy, hkj] <;> rfl) ?_)
        refine Run.o1 (by simp only [go_sem, hs, hy, hkj]; (try simp (disch := omega) only [IntWalk.i64_in, IntWalk.u64_in, if_neg, if_pos])<;> rfl) ?_
        refine Run.o1 (by simp only [go_sem, hs, hy, hkj]; (try simp (disch := omega) only [if_pos]); (try simp only [go_sem, hs, hy, hkj])<;> rfl) ?_
        refine Run.o1 (by simp only [go_sem, hs, hy, hkj] <;> rfl) ?_
        refine Run.nil ?_
        refine Exec.reg ?_
        iterate 3 (refine Run.o1 (by simp only [go_sem, hs, hy, hkj] <;> rfl) ?_)
        refine Run.calw (by simp only [go_sem] <;> rfl) (hcon) (by assumption) (by simp only [go_sem, hs, hy, hkj] <;> rfl) (by simp only [go_sem, hs, hy, hkj] <;> rfl) (by exact ⟨by first | exact WkR.pure rfl | exact WkR.nil _ | exact WkR.int (by omega), by first | exact WkR.pure rfl | exact WkR.nil _ | exact WkR.int (by omega), wkr_caps _ _ _⟩) (fr0) (by simp only [go_sem, hs, hy, hkj] <;> rfl) ?_
        refine Run.o1 (by simp only [go_sem, hs, hy, hkj] <;> rfl) ?_
        refine Run.nil ?_
        refine Exec.cnd (by simp only [go_sem, hs, hy, hkj] <;> rfl) (fun hb25 => ?_) (fun hb25 => ?_)
        · skip
          have hno : ok (prv l k) s = false := by rw [hok]; simpa using hb25
          have hr : pairsB ok l = false := pairsT_false (by rw [pairsT_succ hs, hno, Bool.and_false]) _ hlt
          refine Exec.reg ?_
          refine Run.o1 (by simp only [go_sem, hs, hy, hkj, hr] <;> rfl) ?_
          refine Run.nil ?_
          refine BlkK.ret ?_
          refine ForK.ret ?_
          refine BlkK.ret ?_
          exact Ends.fin [] (rs := [.tmp 4]) rfl (by simp only [go_sem, hs, hy, hkj, hr] <;> rfl) (by simp only [go_sem, hs, hy, hkj, hr] <;> first | rfl | exact eqz)
        · skip
          refine BlkK.nrm ?_
          refine Exec.reg1 ?_
          refine Run.o1 (by simp only [go_sem, hs, hy, hkj]; (try simp (disch := omega) only [IntWalk.i64_in, IntWalk.u64_in, if_neg, if_pos])<;> rfl) ?_
          refine Run.o1 (by simp only [go_sem, hs, hy, hkj] <;> rfl) ?_
          refine Run.nil ?_
          refine ForK.nxt ?_ ?_ ?_
          · omega
          · exact Ghost.kp [0, 1, 8, 9, 10] [] (by simp only [go_sem, hs, hy, hkj] <;> first | exact eqz | rfl)
          · rw [pairsT_succ hs, hX, Bool.true_and, hok]; simpa using hb25
      · skip
        have hk0 : k = 0 := by have := of_decide_eq_false hb16; omega
        have hpv : prv l k = none := by rw [hk0]; rfl
        have hok : ok (prv l k) s = ok none s := by rw [hpv]
        have hcon := hp none s (fun z hz => by cases hz) (List.mem_of_getElem? hs)
        simp only [befD] at hcon
        refine Exec.skipS ?_
        refine Exec.reg ?_
        iterate 3 (refine Run.o1 (by simp only [go_sem, hs] <;> rfl) ?_)
        refine Run.calw (by simp only [go_sem] <;> rfl) (hcon) (by assumption) (by simp only [go_sem, hs] <;> rfl) (by simp only [go_sem, hs] <;> rfl) (by exact ⟨by first | exact WkR.pure rfl | exact WkR.nil _ | exact WkR.int (by omega), by first | exact WkR.pure rfl | exact WkR.nil _ | exact WkR.int (by omega), wkr_caps _ _ _⟩) (fr0) (by simp only [go_sem, hs] <;> rfl) ?_
        refine Run.o1 (by simp only [go_sem, hs] <;> rfl) ?_
        refine Run.nil ?_
        refine Exec.cnd (by simp only [go_sem, hs] <;> rfl) (fun hb25 => ?_) (fun hb25 => ?_)
        · skip
          have hno : ok (prv l k) s = false := by rw [hok]; simpa using hb25
          have hr : pairsB ok l = false := pairsT_false (by rw [pairsT_succ hs, hno, Bool.and_false]) _ hlt
          refine Exec.reg ?_
          refine Run.o1 (by simp only [go_sem, hs, hr] <;> rfl) ?_
          refine Run.nil ?_
          refine BlkK.ret ?_
          refine ForK.ret ?_
          refine BlkK.ret ?_
          exact Ends.fin [] (rs := [.tmp 4]) rfl (by simp only [go_sem, hs, hr] <;> rfl) (by simp only [go_sem, hs, hr] <;> first | rfl | exact eqz)
        · skip
          refine BlkK.nrm ?_
          refine Exec.reg1 ?_
          refine Run.o1 (by simp only [go_sem, hs]; (try simp (disch := omega) only [IntWalk.i64_in, IntWalk.u64_in, if_neg, if_pos])<;> rfl) ?_
          refine Run.o1 (by simp only [go_sem, hs] <;> rfl) ?_
          refine Run.nil ?_
          refine ForK.nxt ?_ ?_ ?_
          · omega
          · exact Ghost.kp [0, 1, 8, 9, 10] [] (by simp only [go_sem, hs] <;> first | exact eqz | rfl)
          · rw [pairsT_succ hs, hX, Bool.true_and, hok]; simpa using hb25
    · skip
      have hke : k = l.length := by have := ge_of_dec hb11; omega
      subst hke
      have hr : pairsB ok l = true := hX
      refine Exec.exitS ?_
      refine ForK.ext ?_
      refine BlkK.hit ?_
      refine Exec.reg ?_
      refine Run.o1 (by simp only [go_sem, hr] <;> rfl) ?_
      refine Run.nil ?_
      exact Ends.fin [] (rs := [.tmp 4]) rfl (by simp only [go_sem, hr] <;> rfl) (by simp only [go_sem, hr] <;> first | rfl | exact eqz)

set_option maxRecDepth 20000 in
set_option maxHeartbeats 4000000 in
/-- meterworks/bill.pairs[int] -/
theorem c_pairs_Int {g : FuncId} {ds : List D} (ok : Option Int → Int → Bool) (hg : canCall Try.prog g = true) (l : List Int) (hl : l.length ≤ 1000) (hp : ∀ b s, (∀ y, b = some y → y ∈ l) → s ∈ l → Contract Try.prog g (befD encInt b :: .int s :: ds.map fun x => .leaf (.d x)) (.bool (ok b s)) []) : Contract Try.prog 57 [.leaf (.d (.sl 1 (l.map encInt))), .leaf (.d (.fn g ds))] (.bool (pairsB ok l)) [] := by
  refine con_of follows_mixed Try.func57 rfl (by simp only [List.length_cons, List.length_nil, Try.ntmps57]; omega) (by kernel_rfl) rfl ?_
  refine Exec.reg ?_
  refine Run.o ?_
  refine Run.nil ?_
  refine Exec.assocS ?_
  refine Exec.reg ?_
  iterate 3 (refine Run.o ?_)
  refine Run.nil ?_
  refine Exec.blk ?_
  refine Exec.forA [0, 1, 8, 9, 10] [] (l.length) (fun k => [.slot 10 (.int k)]) (fun k => pairsT ok l k = true) (fun k => by simp only [go_sem] <;> rfl) (by simp only [go_sem] <;> rfl) ?_ (fun k hk hX => ?_)
  · rfl
  · skip
    refine Exec.reg ?_
    refine Run.o ?_
    refine Run.nil ?_
    refine Exec.cndS (by simp only [go_sem] <;> rfl) (fun hb11 => ?_) (fun hb11 => ?_)
    · skip
      have hlt := lt_of_dec hb11
      obtain ⟨s, hs⟩ := elem_of hb11
      refine Exec.skipS ?_
      refine Exec.blk ?_
      refine Exec.reg ?_
      refine Run.o1 (by simp only [go_sem, hs] <;> rfl) ?_
      refine Run.o1 (by simp only [go_sem, hs]; (try simp (disch := omega) only [if_pos]); (try simp only [go_sem, hs])<;> rfl) ?_
      iterate 3 (refine Run.o1 (by simp only [go_sem, hs] <;> rfl) ?_)
      refine Run.nil ?_
      refine Exec.reg ?_
      refine Run.o1 (by simp only [go_sem, hs] <;> rfl) ?_
      refine Run.nil ?_
      refine Exec.assocS ?_
      refine Exec.reg ?_
      iterate 2 (refine Run.o1 (by simp only [go_sem, hs] <;> rfl) ?_)
      refine Run.nil ?_
      refine Exec.cndS (by simp only [go_sem, hs] <;> rfl) (fun hb16 => ?_) (fun hb16 => ?_)
      · skip
        have hk0 : 0 < k := by have := of_decide_eq_true hb16; omega
        obtain ⟨y, hy⟩ : ∃ y, l[k - 1]? = some y := ⟨_, List.getElem?_eq_getElem (by omega)⟩
        have hpv : prv l k = some y := by
          obtain ⟨j, rfl⟩ : ∃ j, k = j + 1 := ⟨k - 1, by omega⟩
          exact hy
        have hkj : ((k : Int) - 1).toNat = k - 1 := by omega
        have hok : ok (prv l k) s = ok (some y) s := by rw [hpv]
        have hcon := hp (some y) s (fun z hz => by cases hz; exact List.mem_of_getElem? hy) (List.mem_of_getElem? hs)
        simp only [befD] at hcon
        refine Exec.reg ?_
        iterate 2 (refine Run.o1 (by simp only [go_sem, hs, hy, hkj] <;> rfl) ?_)
        refine Run.o1 (by simp only [go_sem, hs, hy, hkj]; (try simp (disch := omega) only [IntWalk.i64_in, IntWalk.u64_in, if_neg, if_pos])<;> rfl) ?_
        refine Run.o1 (by simp only [go_sem, hs, hy, hkj]; (try simp (disch := omega) only [if_pos]); (try simp only [go_sem, hs, hy, hkj])<;> rfl) ?_
        refine Run.o1 (by simp only [go_sem, hs, hy, hkj] <;> rfl) ?_
        refine Run.nil ?_
        refine Exec.reg ?_
        iterate 3 (refine Run.o1 (by simp only [go_sem, hs, hy, hkj] <;> rfl) ?_)
        refine Run.calw (by simp only [go_sem] <;> rfl) (hcon) (by assumption) (by simp only [go_sem, hs, hy, hkj] <;> rfl) (by simp only [go_sem, hs, hy, hkj] <;> rfl) (by exact ⟨by first | exact WkR.pure rfl | exact WkR.nil _ | exact WkR.int (by omega), by first | exact WkR.pure rfl | exact WkR.nil _ | exact WkR.int (by omega), wkr_caps _ _ _⟩) (fr0) (by simp only [go_sem, hs, hy, hkj] <;> rfl) ?_
        refine Run.o1 (by simp only [go_sem, hs, hy, hkj] <;> rfl) ?_
        refine Run.nil ?_
        refine Exec.cnd (by simp only [go_sem, hs, hy, hkj] <;> rfl) (fun hb25 => ?_) (fun hb25 => ?_)
        · skip
          have hno : ok (prv l k) s = false := by rw [hok]; simpa using hb25
          have hr : pairsB ok l = false := pairsT_false (by rw [pairsT_succ hs, hno, Bool.and_false]) _ hlt
          refine Exec.reg ?_
          refine Run.o1 (by simp only [go_sem, hs, hy, hkj, hr] <;> rfl) ?_
          refine Run.nil ?_
          refine BlkK.ret ?_
          refine ForK.ret ?_
          refine BlkK.ret ?_
          exact Ends.fin [] (rs := [.tmp 4]) rfl (by simp only [go_sem, hs, hy, hkj, hr] <;> rfl) (by simp only [go_sem, hs, hy, hkj, hr] <;> first | rfl | exact eqz)
        · skip
          refine BlkK.nrm ?_
          refine Exec.reg1 ?_
          refine Run.o1 (by simp only [go_sem, hs, hy, hkj]; (try simp (disch := omega) only [IntWalk.i64_in, IntWalk.u64_in, if_neg, if_pos])<;> rfl) ?_
          refine Run.o1 (by simp only [go_sem, hs, hy, hkj] <;> rfl) ?_
          refine Run.nil ?_
          refine ForK.nxt ?_ ?_ ?_
          · omega
          · exact Ghost.kp [0, 1, 8, 9, 10] [] (by simp only [go_sem, hs, hy, hkj] <;> first | exact eqz | rfl)
          · rw [pairsT_succ hs, hX, Bool.true_and, hok]; simpa using hb25
      · skip
        have hk0 : k = 0 := by have := of_decide_eq_false hb16; omega
        have hpv : prv l k = none := by rw [hk0]; rfl
        have hok : ok (prv l k) s = ok none s := by rw [hpv]
        have hcon := hp none s (fun z hz => by cases hz) (List.mem_of_getElem? hs)
        simp only [befD] at hcon
        refine Exec.skipS ?_
        refine Exec.reg ?_
        iterate 3 (refine Run.o1 (by simp only [go_sem, hs] <;> rfl) ?_)
        refine Run.calw (by simp only [go_sem] <;> rfl) (hcon) (by assumption) (by simp only [go_sem, hs] <;> rfl) (by simp only [go_sem, hs] <;> rfl) (by exact ⟨by first | exact WkR.pure rfl | exact WkR.nil _ | exact WkR.int (by omega), by first | exact WkR.pure rfl | exact WkR.nil _ | exact WkR.int (by omega), wkr_caps _ _ _⟩) (fr0) (by simp only [go_sem, hs] <;> rfl) ?_
        refine Run.o1 (by simp only [go_sem, hs] <;> rfl) ?_
        refine Run.nil ?_
        refine Exec.cnd (by simp only [go_sem, hs] <;> rfl) (fun hb25 => ?_) (fun hb25 => ?_)
        · skip
          have hno : ok (prv l k) s = false := by rw [hok]; simpa using hb25
          have hr : pairsB ok l = false := pairsT_false (by rw [pairsT_succ hs, hno, Bool.and_false]) _ hlt
          refine Exec.reg ?_
          refine Run.o1 (by simp only [go_sem, hs, hr] <;> rfl) ?_
          refine Run.nil ?_
          refine BlkK.ret ?_
          refine ForK.ret ?_
          refine BlkK.ret ?_
          exact Ends.fin [] (rs := [.tmp 4]) rfl (by simp only [go_sem, hs, hr] <;> rfl) (by simp only [go_sem, hs, hr] <;> first | rfl | exact eqz)
        · skip
          refine BlkK.nrm ?_
          refine Exec.reg1 ?_
          refine Run.o1 (by simp only [go_sem, hs]; (try simp (disch := omega) only [IntWalk.i64_in, IntWalk.u64_in, if_neg, if_pos])<;> rfl) ?_
          refine Run.o1 (by simp only [go_sem, hs] <;> rfl) ?_
          refine Run.nil ?_
          refine ForK.nxt ?_ ?_ ?_
          · omega
          · exact Ghost.kp [0, 1, 8, 9, 10] [] (by simp only [go_sem, hs] <;> first | exact eqz | rfl)
          · rw [pairsT_succ hs, hX, Bool.true_and, hok]; simpa using hb25
    · skip
      have hke : k = l.length := by have := ge_of_dec hb11; omega
      subst hke
      have hr : pairsB ok l = true := hX
      refine Exec.exitS ?_
      refine ForK.ext ?_
      refine BlkK.hit ?_
      refine Exec.reg ?_
      refine Run.o1 (by simp only [go_sem, hr] <;> rfl) ?_
      refine Run.nil ?_
      exact Ends.fin [] (rs := [.tmp 4]) rfl (by simp only [go_sem, hr] <;> rfl) (by simp only [go_sem, hr] <;> first | rfl | exact eqz)

set_option maxRecDepth 20000 in
set_option maxHeartbeats 4000000 in
/-- meterworks/bill.pairs[meterworks/api.Note] -/
theorem c_pairs_Nt {g : FuncId} {ds : List D} (ok : Option Nt → Nt → Bool) (hg : canCall Try.prog g = true) (l : List Nt) (hl : l.length ≤ 1000) (hp : ∀ b s, (∀ y, b = some y → y ∈ l) → s ∈ l → Contract Try.prog g (befD encNt b :: ntV s :: ds.map fun x => .leaf (.d x)) (.bool (ok b s)) []) : Contract Try.prog 58 [.leaf (.d (.sl 3 (l.map encNt))), .leaf (.d (.fn g ds))] (.bool (pairsB ok l)) [] := by
  refine con_of follows_mixed Try.func58 rfl (by simp only [List.length_cons, List.length_nil, Try.ntmps58]; omega) (by kernel_rfl) rfl ?_
  refine Exec.reg ?_
  refine Run.o ?_
  refine Run.nil ?_
  refine Exec.assocS ?_
  refine Exec.reg ?_
  iterate 3 (refine Run.o ?_)
  refine Run.nil ?_
  refine Exec.blk ?_
  refine Exec.forA [0, 1, 8, 9, 10] [] (l.length) (fun k => [.slot 10 (.int k)]) (fun k => pairsT ok l k = true) (fun k => by simp only [go_sem] <;> rfl) (by simp only [go_sem] <;> rfl) ?_ (fun k hk hX => ?_)
  · rfl
  · skip
    refine Exec.reg ?_
    refine Run.o ?_
    refine Run.nil ?_
    refine Exec.cndS (by simp only [go_sem] <;> rfl) (fun hb11 => ?_) (fun hb11 => ?_)
    · skip
      have hlt := lt_of_dec hb11
      obtain ⟨s, hs⟩ := elem_of hb11
      refine Exec.skipS ?_
      refine Exec.blk ?_
      refine Exec.reg ?_
      refine Run.o1 (by simp only [go_sem, hs] <;> rfl) ?_
      refine Run.o1 (by simp only [go_sem, hs]; (try simp (disch := omega) only [if_pos]); (try simp only [go_sem, hs])<;> rfl) ?_
      iterate 4 (refine Run.o1 (by simp only [go_sem, hs] <;> rfl) ?_)
      refine Run.nil ?_
      refine Exec.reg ?_
      refine Run.o1 (by simp only [go_sem, hs] <;> rfl) ?_
      refine Run.nil ?_
      refine Exec.assocS ?_
      refine Exec.reg ?_
      iterate 2 (refine Run.o1 (by simp only [go_sem, hs] <;> rfl) ?_)
      refine Run.nil ?_
      refine Exec.cndS (by simp only [go_sem, hs] <;> rfl) (fun hb16 => ?_) (fun hb16 => ?_)
      · skip
        have hk0 : 0 < k := by have := of_decide_eq_true hb16; omega
        obtain ⟨y, hy⟩ : ∃ y, l[k - 1]? = some y := ⟨_, List.getElem?_eq_getElem (by omega)⟩
        have hpv : prv l k = some y := by
          obtain ⟨j, rfl⟩ : ∃ j, k = j + 1 := ⟨k - 1, by omega⟩
          exact hy
        have hkj : ((k : Int) - 1).toNat = k - 1 := by omega
        have hok : ok (prv l k) s = ok (some y) s := by rw [hpv]
        have hcon := hp (some y) s (fun z hz => by cases hz; exact List.mem_of_getElem? hy) (List.mem_of_getElem? hs)
        simp only [befD] at hcon
        refine Exec.reg ?_
        iterate 2 (refine Run.o1 (by simp only [go_sem, hs, hy, hkj] <;> rfl) ?_)
        refine Run.o1 (by simp only [go_sem, hs, hy, hkj]; (try simp (disch := omega) only [IntWalk.i64_in, IntWalk.u64_in, if_neg, if_pos])<;> rfl) ?_
        refine Run.o1 (by simp only [go_sem, hs, hy, hkj]; (try simp (disch := omega) only [if_pos]); (try simp only [go_sem, hs, hy, hkj])<;> rfl) ?_
        refine Run.o1 (by simp only [go_sem, hs, hy, hkj] <;> rfl) ?_
        refine Run.nil ?_
        refine Exec.reg ?_
        iterate 3 (refine Run.o1 (by simp only [go_sem, hs, hy, hkj] <;> rfl) ?_)
        refine Run.calw (by simp only [go_sem] <;> rfl) (hcon) (by assumption) (by simp only [go_sem, hs, hy, hkj] <;> rfl) (by simp only [go_sem, hs, hy, hkj] <;> rfl) (by exact ⟨by first | exact WkR.pure rfl | exact WkR.nil _ | exact WkR.int (by omega), by first | exact WkR.pure rfl | exact WkR.nil _ | exact WkR.int (by omega), wkr_caps _ _ _⟩) (fr0) (by simp only [go_sem, hs, hy, hkj] <;> rfl) ?_
        refine Run.o1 (by simp only [go_sem, hs, hy, hkj] <;> rfl) ?_
        refine Run.nil ?_
        refine Exec.cnd (by simp only [go_sem, hs, hy, hkj] <;> rfl) (fun hb25 => ?_) (fun hb25 => ?_)
        · skip
          have hno : ok (prv l k) s = false := by rw [hok]; simpa using hb25
          have hr : pairsB ok l = false := pairsT_false (by rw [pairsT_succ hs, hno, Bool.and_false]) _ hlt
          refine Exec.reg ?_
          refine Run.o1 (by simp only [go_sem, hs, hy, hkj, hr] <;> rfl) ?_
          refine Run.nil ?_
          refine BlkK.ret ?_
          refine ForK.ret ?_
          refine BlkK.ret ?_
          exact Ends.fin [] (rs := [.tmp 4]) rfl (by simp only [go_sem, hs, hy, hkj, hr] <;> rfl) (by simp only [go_sem, hs, hy, hkj, hr] <;> first | rfl | exact eqz)
        · skip
          refine BlkK.nrm ?_
          refine Exec.reg1 ?_
          refine Run.o1 (by simp only [go_sem, hs, hy, hkj]; (try simp (disch := omega) only [IntWalk.i64_in, IntWalk.u64_in, if_neg, if_pos])<;> rfl) ?_
          refine Run.o1 (by simp only [go_sem, hs, hy, hkj] <;> rfl) ?_
          refine Run.nil ?_
          refine ForK.nxt ?_ ?_ ?_
          · omega
          · exact Ghost.kp [0, 1, 8, 9, 10] [] (by simp only [go_sem, hs, hy, hkj] <;> first | exact eqz | rfl)
          · rw [pairsT_succ hs, hX, Bool.true_and, hok]; simpa using hb25
      · skip
        have hk0 : k = 0 := by have := of_decide_eq_false hb16; omega
        have hpv : prv l k = none := by rw [hk0]; rfl
        have hok : ok (prv l k) s = ok none s := by rw [hpv]
        have hcon := hp none s (fun z hz => by cases hz) (List.mem_of_getElem? hs)
        simp only [befD] at hcon
        refine Exec.skipS ?_
        refine Exec.reg ?_
        iterate 3 (refine Run.o1 (by simp only [go_sem, hs] <;> rfl) ?_)
        refine Run.calw (by simp only [go_sem] <;> rfl) (hcon) (by assumption) (by simp only [go_sem, hs] <;> rfl) (by simp only [go_sem, hs] <;> rfl) (by exact ⟨by first | exact WkR.pure rfl | exact WkR.nil _ | exact WkR.int (by omega), by first | exact WkR.pure rfl | exact WkR.nil _ | exact WkR.int (by omega), wkr_caps _ _ _⟩) (fr0) (by simp only [go_sem, hs] <;> rfl) ?_
        refine Run.o1 (by simp only [go_sem, hs] <;> rfl) ?_
        refine Run.nil ?_
        refine Exec.cnd (by simp only [go_sem, hs] <;> rfl) (fun hb25 => ?_) (fun hb25 => ?_)
        · skip
          have hno : ok (prv l k) s = false := by rw [hok]; simpa using hb25
          have hr : pairsB ok l = false := pairsT_false (by rw [pairsT_succ hs, hno, Bool.and_false]) _ hlt
          refine Exec.reg ?_
          refine Run.o1 (by simp only [go_sem, hs, hr] <;> rfl) ?_
          refine Run.nil ?_
          refine BlkK.ret ?_
          refine ForK.ret ?_
          refine BlkK.ret ?_
          exact Ends.fin [] (rs := [.tmp 4]) rfl (by simp only [go_sem, hs, hr] <;> rfl) (by simp only [go_sem, hs, hr] <;> first | rfl | exact eqz)
        · skip
          refine BlkK.nrm ?_
          refine Exec.reg1 ?_
          refine Run.o1 (by simp only [go_sem, hs]; (try simp (disch := omega) only [IntWalk.i64_in, IntWalk.u64_in, if_neg, if_pos])<;> rfl) ?_
          refine Run.o1 (by simp only [go_sem, hs] <;> rfl) ?_
          refine Run.nil ?_
          refine ForK.nxt ?_ ?_ ?_
          · omega
          · exact Ghost.kp [0, 1, 8, 9, 10] [] (by simp only [go_sem, hs] <;> first | exact eqz | rfl)
          · rw [pairsT_succ hs, hX, Bool.true_and, hok]; simpa using hb25
    · skip
      have hke : k = l.length := by have := ge_of_dec hb11; omega
      subst hke
      have hr : pairsB ok l = true := hX
      refine Exec.exitS ?_
      refine ForK.ext ?_
      refine BlkK.hit ?_
      refine Exec.reg ?_
      refine Run.o1 (by simp only [go_sem, hr] <;> rfl) ?_
      refine Run.nil ?_
      exact Ends.fin [] (rs := [.tmp 4]) rfl (by simp only [go_sem, hr] <;> rfl) (by simp only [go_sem, hr] <;> first | rfl | exact eqz)

set_option maxRecDepth 20000 in
set_option maxHeartbeats 4000000 in
/-- meterworks/bill.pairs[meterworks/api.Dispute] -/
theorem c_pairs_Dp {g : FuncId} {ds : List D} (ok : Option Dp → Dp → Bool) (hg : canCall Try.prog g = true) (l : List Dp) (hl : l.length ≤ 1000) (hp : ∀ b s, (∀ y, b = some y → y ∈ l) → s ∈ l → Contract Try.prog g (befD encDp b :: dpV s :: ds.map fun x => .leaf (.d x)) (.bool (ok b s)) []) : Contract Try.prog 59 [.leaf (.d (.sl 6 (l.map encDp))), .leaf (.d (.fn g ds))] (.bool (pairsB ok l)) [] := by
  refine con_of follows_mixed Try.func59 rfl (by simp only [List.length_cons, List.length_nil, Try.ntmps59]; omega) (by kernel_rfl) rfl ?_
  refine Exec.reg ?_
  refine Run.o ?_
  refine Run.nil ?_
  refine Exec.assocS ?_
  refine Exec.reg ?_
  iterate 3 (refine Run.o ?_)
  refine Run.nil ?_
  refine Exec.blk ?_
  refine Exec.forA [0, 1, 8, 9, 10] [] (l.length) (fun k => [.slot 10 (.int k)]) (fun k => pairsT ok l k = true) (fun k => by simp only [go_sem] <;> rfl) (by simp only [go_sem] <;> rfl) ?_ (fun k hk hX => ?_)
  · rfl
  · skip
    refine Exec.reg ?_
    refine Run.o ?_
    refine Run.nil ?_
    refine Exec.cndS (by simp only [go_sem] <;> rfl) (fun hb11 => ?_) (fun hb11 => ?_)
    · skip
      have hlt := lt_of_dec hb11
      obtain ⟨s, hs⟩ := elem_of hb11
      refine Exec.skipS ?_
      refine Exec.blk ?_
      refine Exec.reg ?_
      refine Run.o1 (by simp only [go_sem, hs] <;> rfl) ?_
      refine Run.o1 (by simp only [go_sem, hs]; (try simp (disch := omega) only [if_pos]); (try simp only [go_sem, hs])<;> rfl) ?_
      iterate 4 (refine Run.o1 (by simp only [go_sem, hs] <;> rfl) ?_)
      refine Run.nil ?_
      refine Exec.reg ?_
      refine Run.o1 (by simp only [go_sem, hs] <;> rfl) ?_
      refine Run.nil ?_
      refine Exec.assocS ?_
      refine Exec.reg ?_
      iterate 2 (refine Run.o1 (by simp only [go_sem, hs] <;> rfl) ?_)
      refine Run.nil ?_
      refine Exec.cndS (by simp only [go_sem, hs] <;> rfl) (fun hb16 => ?_) (fun hb16 => ?_)
      · skip
        have hk0 : 0 < k := by have := of_decide_eq_true hb16; omega
        obtain ⟨y, hy⟩ : ∃ y, l[k - 1]? = some y := ⟨_, List.getElem?_eq_getElem (by omega)⟩
        have hpv : prv l k = some y := by
          obtain ⟨j, rfl⟩ : ∃ j, k = j + 1 := ⟨k - 1, by omega⟩
          exact hy
        have hkj : ((k : Int) - 1).toNat = k - 1 := by omega
        have hok : ok (prv l k) s = ok (some y) s := by rw [hpv]
        have hcon := hp (some y) s (fun z hz => by cases hz; exact List.mem_of_getElem? hy) (List.mem_of_getElem? hs)
        simp only [befD] at hcon
        refine Exec.reg ?_
        iterate 2 (refine Run.o1 (by simp only [go_sem, hs, hy, hkj] <;> rfl) ?_)
        refine Run.o1 (by simp only [go_sem, hs, hy, hkj]; (try simp (disch := omega) only [IntWalk.i64_in, IntWalk.u64_in, if_neg, if_pos])<;> rfl) ?_
        refine Run.o1 (by simp only [go_sem, hs, hy, hkj]; (try simp (disch := omega) only [if_pos]); (try simp only [go_sem, hs, hy, hkj])<;> rfl) ?_
        refine Run.o1 (by simp only [go_sem, hs, hy, hkj] <;> rfl) ?_
        refine Run.nil ?_
        refine Exec.reg ?_
        iterate 3 (refine Run.o1 (by simp only [go_sem, hs, hy, hkj] <;> rfl) ?_)
        refine Run.calw (by simp only [go_sem] <;> rfl) (hcon) (by assumption) (by simp only [go_sem, hs, hy, hkj] <;> rfl) (by simp only [go_sem, hs, hy, hkj] <;> rfl) (by exact ⟨by first | exact WkR.pure rfl | exact WkR.nil _ | exact WkR.int (by omega), by first | exact WkR.pure rfl | exact WkR.nil _ | exact WkR.int (by omega), wkr_caps _ _ _⟩) (fr0) (by simp only [go_sem, hs, hy, hkj] <;> rfl) ?_
        refine Run.o1 (by simp only [go_sem, hs, hy, hkj] <;> rfl) ?_
        refine Run.nil ?_
        refine Exec.cnd (by simp only [go_sem, hs, hy, hkj] <;> rfl) (fun hb25 => ?_) (fun hb25 => ?_)
        · skip
          have hno : ok (prv l k) s = false := by rw [hok]; simpa using hb25
          have hr : pairsB ok l = false := pairsT_false (by rw [pairsT_succ hs, hno, Bool.and_false]) _ hlt
          refine Exec.reg ?_
          refine Run.o1 (by simp only [go_sem, hs, hy, hkj, hr] <;> rfl) ?_
          refine Run.nil ?_
          refine BlkK.ret ?_
          refine ForK.ret ?_
          refine BlkK.ret ?_
          exact Ends.fin [] (rs := [.tmp 4]) rfl (by simp only [go_sem, hs, hy, hkj, hr] <;> rfl) (by simp only [go_sem, hs, hy, hkj, hr] <;> first | rfl | exact eqz)
        · skip
          refine BlkK.nrm ?_
          refine Exec.reg1 ?_
          refine Run.o1 (by simp only [go_sem, hs, hy, hkj]; (try simp (disch := omega) only [IntWalk.i64_in, IntWalk.u64_in, if_neg, if_pos])<;> rfl) ?_
          refine Run.o1 (by simp only [go_sem, hs, hy, hkj] <;> rfl) ?_
          refine Run.nil ?_
          refine ForK.nxt ?_ ?_ ?_
          · omega
          · exact Ghost.kp [0, 1, 8, 9, 10] [] (by simp only [go_sem, hs, hy, hkj] <;> first | exact eqz | rfl)
          · rw [pairsT_succ hs, hX, Bool.true_and, hok]; simpa using hb25
      · skip
        have hk0 : k = 0 := by have := of_decide_eq_false hb16; omega
        have hpv : prv l k = none := by rw [hk0]; rfl
        have hok : ok (prv l k) s = ok none s := by rw [hpv]
        have hcon := hp none s (fun z hz => by cases hz) (List.mem_of_getElem? hs)
        simp only [befD] at hcon
        refine Exec.skipS ?_
        refine Exec.reg ?_
        iterate 3 (refine Run.o1 (by simp only [go_sem, hs] <;> rfl) ?_)
        refine Run.calw (by simp only [go_sem] <;> rfl) (hcon) (by assumption) (by simp only [go_sem, hs] <;> rfl) (by simp only [go_sem, hs] <;> rfl) (by exact ⟨by first | exact WkR.pure rfl | exact WkR.nil _ | exact WkR.int (by omega), by first | exact WkR.pure rfl | exact WkR.nil _ | exact WkR.int (by omega), wkr_caps _ _ _⟩) (fr0) (by simp only [go_sem, hs] <;> rfl) ?_
        refine Run.o1 (by simp only [go_sem, hs] <;> rfl) ?_
        refine Run.nil ?_
        refine Exec.cnd (by simp only [go_sem, hs] <;> rfl) (fun hb25 => ?_) (fun hb25 => ?_)
        · skip
          have hno : ok (prv l k) s = false := by rw [hok]; simpa using hb25
          have hr : pairsB ok l = false := pairsT_false (by rw [pairsT_succ hs, hno, Bool.and_false]) _ hlt
          refine Exec.reg ?_
          refine Run.o1 (by simp only [go_sem, hs, hr] <;> rfl) ?_
          refine Run.nil ?_
          refine BlkK.ret ?_
          refine ForK.ret ?_
          refine BlkK.ret ?_
          exact Ends.fin [] (rs := [.tmp 4]) rfl (by simp only [go_sem, hs, hr] <;> rfl) (by simp only [go_sem, hs, hr] <;> first | rfl | exact eqz)
        · skip
          refine BlkK.nrm ?_
          refine Exec.reg1 ?_
          refine Run.o1 (by simp only [go_sem, hs]; (try simp (disch := omega) only [IntWalk.i64_in, IntWalk.u64_in, if_neg, if_pos])<;> rfl) ?_
          refine Run.o1 (by simp only [go_sem, hs] <;> rfl) ?_
          refine Run.nil ?_
          refine ForK.nxt ?_ ?_ ?_
          · omega
          · exact Ghost.kp [0, 1, 8, 9, 10] [] (by simp only [go_sem, hs] <;> first | exact eqz | rfl)
          · rw [pairsT_succ hs, hX, Bool.true_and, hok]; simpa using hb25
    · skip
      have hke : k = l.length := by have := ge_of_dec hb11; omega
      subst hke
      have hr : pairsB ok l = true := hX
      refine Exec.exitS ?_
      refine ForK.ext ?_
      refine BlkK.hit ?_
      refine Exec.reg ?_
      refine Run.o1 (by simp only [go_sem, hr] <;> rfl) ?_
      refine Run.nil ?_
      exact Ends.fin [] (rs := [.tmp 4]) rfl (by simp only [go_sem, hr] <;> rfl) (by simp only [go_sem, hr] <;> first | rfl | exact eqz)

set_option maxRecDepth 20000 in
set_option maxHeartbeats 2000000 in
/-- meterworks/bill.isAccount_1 -/
theorem c_isAccount_1 (b : Option Trf) (t : Trf) : Contract Try.prog 52 [befD encTrf b, trfV t] (.bool (trfOK b t)) [] := by
  cases b
  · skip
    simp only [befD]
    refine con_of follows_mixed Try.func52 rfl (by simp only [List.length_cons, List.length_nil, Try.ntmps52]; omega) (by kernel_rfl) rfl ?_
    refine Exec.reg ?_
    iterate 2 (refine Run.o1 (by simp only [go_sem, trfOK, gt_iff_lt, eqd] <;> rfl) ?_)
    refine Run.nil ?_
    refine Exec.reg ?_
    iterate 2 (refine Run.o1 (by simp only [go_sem, trfOK, gt_iff_lt, eqd] <;> rfl) ?_)
    refine Run.c1 (c_bill_isDay _) (by simp only [go_sem, trfOK, gt_iff_lt, eqd] <;> rfl) (by simp only [go_sem, trfOK, gt_iff_lt, eqd] <;> rfl) ?_
    refine Run.o1 (by simp only [go_sem, trfOK, gt_iff_lt, eqd] <;> rfl) ?_
    iterate 2 (refine Run.gop (by simp only [go_sem] <;> rfl) (by simp only [go_sem, trfOK, gt_iff_lt, eqd] <;> rfl) (by simp only [go_sem] <;> rfl) ?_)
    refine Run.gcal (by simp only [go_sem] <;> rfl) (c_bill_within _ _ _) (by simp only [go_sem]) (by simp only [go_sem, trfOK, gt_iff_lt, eqd] <;> rfl) (by exact ⟨by first | exact WkR.pure rfl | exact WkR.nil _ | exact WkR.int (by first | omega | (simp; done) | (simp; omega)), by first | exact WkR.pure rfl | exact WkR.nil _ | exact WkR.int (by first | omega | (simp; done) | (simp; omega)), by first | exact WkR.pure rfl | exact WkR.nil _ | exact WkR.int (by first | omega | (simp; done) | (simp; omega)), trivial⟩) (by simp only [go_sem, trfOK, gt_iff_lt, eqd] <;> rfl) ?_
    iterate 2 (refine Run.o1 (by simp only [go_sem, trfOK, gt_iff_lt, eqd] <;> rfl) ?_)
    refine Run.nil ?_
    refine Exec.assocS ?_
    refine Exec.reg ?_
    iterate 2 (refine Run.o1 (by simp only [go_sem, trfOK, gt_iff_lt, eqd] <;> rfl) ?_)
    refine Run.nil ?_
    refine Exec.cndS (by simp only [go_sem, trfOK, gt_iff_lt, eqd] <;> rfl) (fun hb15 => ?_) (fun hb15 => ?_)
    · skip
      refine Exec.assocS ?_
      refine Exec.reg ?_
      iterate 2 (refine Run.o1 (by simp only [go_sem, trfOK, gt_iff_lt, eqd] <;> rfl) ?_)
      iterate 3 (refine Run.gop (by simp only [go_sem] <;> rfl) (by simp only [go_sem, trfOK, gt_iff_lt, eqd] <;> rfl) (by simp only [go_sem] <;> rfl) ?_)
      iterate 2 (refine Run.o1 (by simp only [go_sem, trfOK, gt_iff_lt, eqd] <;> rfl) ?_)
      refine Run.nil ?_
      refine Exec.retS ?_
      exact Ends.fin [] (rs := [.tmp 4]) rfl (by simp only [go_sem, trfOK, gt_iff_lt, eqd] <;> rfl) (by simp only [go_sem, trfOK, gt_iff_lt, eqd] <;> first | rfl | exact eqz)
    · exact absurd hb15 (by simp)
  · skip
    rename_i y
    simp only [befD]
    refine con_of follows_mixed Try.func52 rfl (by simp only [List.length_cons, List.length_nil, Try.ntmps52]; omega) (by kernel_rfl) rfl ?_
    refine Exec.reg ?_
    iterate 2 (refine Run.o1 (by simp only [go_sem, trfOK, gt_iff_lt, eqd] <;> rfl) ?_)
    refine Run.nil ?_
    refine Exec.reg ?_
    iterate 2 (refine Run.o1 (by simp only [go_sem, trfOK, gt_iff_lt, eqd] <;> rfl) ?_)
    refine Run.c1 (c_bill_isDay _) (by simp only [go_sem, trfOK, gt_iff_lt, eqd] <;> rfl) (by simp only [go_sem, trfOK, gt_iff_lt, eqd] <;> rfl) ?_
    refine Run.o1 (by simp only [go_sem, trfOK, gt_iff_lt, eqd] <;> rfl) ?_
    iterate 2 (refine Run.gop (by simp only [go_sem] <;> rfl) (by simp only [go_sem, trfOK, gt_iff_lt, eqd] <;> rfl) (by simp only [go_sem] <;> rfl) ?_)
    refine Run.gcal (by simp only [go_sem] <;> rfl) (c_bill_within _ _ _) (by simp only [go_sem]) (by simp only [go_sem, trfOK, gt_iff_lt, eqd] <;> rfl) (by exact ⟨by first | exact WkR.pure rfl | exact WkR.nil _ | exact WkR.int (by first | omega | (simp; done) | (simp; omega)), by first | exact WkR.pure rfl | exact WkR.nil _ | exact WkR.int (by first | omega | (simp; done) | (simp; omega)), by first | exact WkR.pure rfl | exact WkR.nil _ | exact WkR.int (by first | omega | (simp; done) | (simp; omega)), trivial⟩) (by simp only [go_sem, trfOK, gt_iff_lt, eqd] <;> rfl) ?_
    iterate 2 (refine Run.o1 (by simp only [go_sem, trfOK, gt_iff_lt, eqd] <;> rfl) ?_)
    refine Run.nil ?_
    refine Exec.assocS ?_
    refine Exec.reg ?_
    iterate 2 (refine Run.o1 (by simp only [go_sem, trfOK, gt_iff_lt, eqd] <;> rfl) ?_)
    refine Run.nil ?_
    refine Exec.cndS (by simp only [go_sem, trfOK, gt_iff_lt, eqd] <;> rfl) (fun hb15 => ?_) (fun hb15 => ?_)
    · exact absurd hb15 (by simp)
    · skip
      refine Exec.skipS ?_
      by_cases hg : (inD t.fr 0 131072 && inD t.pence 0 10000) = true
      · skip
        refine Exec.opk 13 ?_
        iterate 2 (refine OpenK.o1 (by simp only [go_sem, trfOK, gt_iff_lt, eqd, hg, Bool.true_and] <;> rfl) ?_)
        iterate 7 (refine OpenK.y1 (by simp only [go_sem, trfOK, gt_iff_lt, eqd, hg, Bool.true_and] <;> rfl) ?_)
        iterate 2 (refine OpenK.o1 (by simp only [go_sem, trfOK, gt_iff_lt, eqd, hg, Bool.true_and] <;> rfl) ?_)
        refine OpenK.nil (OpenE.fin (by decide +kernel) (by decide +kernel) ?_)
        exact Ends.fin [] (rs := [.tmp 4]) rfl (by simp only [go_sem, trfOK, gt_iff_lt, eqd, hg, Bool.true_and] <;> rfl) (by simp only [go_sem, trfOK, gt_iff_lt, eqd, hg, Bool.true_and] <;> first | rfl | exact eqz)
      · skip
        have hg : (inD t.fr 0 131072 && inD t.pence 0 10000) = false := by simpa using hg
        refine Exec.opk 13 ?_
        iterate 2 (refine OpenK.o1 (by simp only [go_sem, trfOK, gt_iff_lt, eqd, hg, Bool.false_and] <;> rfl) ?_)
        iterate 7 (refine OpenK.s ?_)
        iterate 2 (refine OpenK.o1 (by simp only [go_sem, trfOK, gt_iff_lt, eqd, hg, Bool.false_and] <;> rfl) ?_)
        refine OpenK.nil (OpenE.fin (by decide +kernel) (by decide +kernel) ?_)
        exact Ends.fin [] (rs := [.tmp 4]) rfl (by simp only [go_sem, trfOK, gt_iff_lt, eqd, hg, Bool.false_and] <;> rfl) (by simp only [go_sem, trfOK, gt_iff_lt, eqd, hg, Bool.false_and] <;> first | rfl | exact eqz)

set_option maxRecDepth 20000 in
set_option maxHeartbeats 2000000 in
/-- meterworks/bill.isAccount_2 -/
theorem c_isAccount_2 (a : Ac) (hs : 0 ≤ a.start ∧ a.start ≤ 131072) (b : Option Int) (d : Int) : Contract Try.prog 53 [befD encInt b, .int d, .leaf (.d (.pt (encAc a)))] (.bool (dayOK a.start b d)) [] := by
  cases b
  · skip
    simp only [befD]
    refine con_of follows_mixed Try.func53 rfl (by simp only [List.length_cons, List.length_nil, Try.ntmps53]; omega) (by kernel_rfl) rfl ?_
    refine Exec.reg ?_
    refine Run.o1 (by simp only [go_sem, dayOK, gt_iff_lt] <;> rfl) ?_
    refine Run.nil ?_
    by_cases hg : inD d (a.start + 1) 131072 = true
    · skip
      refine Exec.reg ?_
      iterate 3 (refine Run.o1 (by simp only [go_sem, dayOK, gt_iff_lt, hg, Bool.true_and] <;> rfl) ?_)
      refine Run.o1 (by simp only [go_sem, dayOK, gt_iff_lt, hg, Bool.true_and]; (try simp (disch := omega) only [IntWalk.i64_in, IntWalk.u64_in, if_neg, if_pos])<;> rfl) ?_
      refine Run.c1 (c_bill_within _ _ _) (by simp only [go_sem, dayOK, gt_iff_lt, hg, Bool.true_and] <;> rfl) (by simp only [go_sem, dayOK, gt_iff_lt, hg, Bool.true_and] <;> rfl) ?_
      refine Run.o1 (by simp only [go_sem, dayOK, gt_iff_lt, hg, Bool.true_and] <;> rfl) ?_
      iterate 3 (refine Run.y1 (by simp only [go_sem, dayOK, gt_iff_lt, hg, Bool.true_and] <;> rfl) ?_)
      iterate 5 (refine Run.s ?_)
      refine Run.y1 (by simp only [go_sem, dayOK, gt_iff_lt, hg, Bool.true_and] <;> rfl) ?_
      iterate 2 (refine Run.o1 (by simp only [go_sem, dayOK, gt_iff_lt, hg, Bool.true_and] <;> rfl) ?_)
      refine Run.nil ?_
      exact Ends.fin [] (rs := [.tmp 5]) rfl (by simp only [go_sem, dayOK, gt_iff_lt, hg, Bool.true_and] <;> rfl) (by simp only [go_sem, dayOK, gt_iff_lt, hg, Bool.true_and] <;> first | rfl | exact eqz)
    · skip
      have hg : inD d (a.start + 1) 131072 = false := by simpa using hg
      refine Exec.reg ?_
      iterate 3 (refine Run.o1 (by simp only [go_sem, dayOK, gt_iff_lt, hg, Bool.false_and] <;> rfl) ?_)
      refine Run.o1 (by simp only [go_sem, dayOK, gt_iff_lt, hg, Bool.false_and]; (try simp (disch := omega) only [IntWalk.i64_in, IntWalk.u64_in, if_neg, if_pos])<;> rfl) ?_
      refine Run.c1 (c_bill_within _ _ _) (by simp only [go_sem, dayOK, gt_iff_lt, hg, Bool.false_and] <;> rfl) (by simp only [go_sem, dayOK, gt_iff_lt, hg, Bool.false_and] <;> rfl) ?_
      refine Run.o1 (by simp only [go_sem, dayOK, gt_iff_lt, hg, Bool.false_and] <;> rfl) ?_
      iterate 9 (refine Run.s ?_)
      iterate 2 (refine Run.o1 (by simp only [go_sem, dayOK, gt_iff_lt, hg, Bool.false_and] <;> rfl) ?_)
      refine Run.nil ?_
      exact Ends.fin [] (rs := [.tmp 5]) rfl (by simp only [go_sem, dayOK, gt_iff_lt, hg, Bool.false_and] <;> rfl) (by simp only [go_sem, dayOK, gt_iff_lt, hg, Bool.false_and] <;> first | rfl | exact eqz)
  · skip
    rename_i y
    simp only [befD]
    refine con_of follows_mixed Try.func53 rfl (by simp only [List.length_cons, List.length_nil, Try.ntmps53]; omega) (by kernel_rfl) rfl ?_
    refine Exec.reg ?_
    refine Run.o1 (by simp only [go_sem, dayOK, gt_iff_lt] <;> rfl) ?_
    refine Run.nil ?_
    by_cases hg : inD d (a.start + 1) 131072 = true
    · skip
      refine Exec.reg ?_
      iterate 3 (refine Run.o1 (by simp only [go_sem, dayOK, gt_iff_lt, hg, Bool.true_and] <;> rfl) ?_)
      refine Run.o1 (by simp only [go_sem, dayOK, gt_iff_lt, hg, Bool.true_and]; (try simp (disch := omega) only [IntWalk.i64_in, IntWalk.u64_in, if_neg, if_pos])<;> rfl) ?_
      refine Run.c1 (c_bill_within _ _ _) (by simp only [go_sem, dayOK, gt_iff_lt, hg, Bool.true_and] <;> rfl) (by simp only [go_sem, dayOK, gt_iff_lt, hg, Bool.true_and] <;> rfl) ?_
      refine Run.o1 (by simp only [go_sem, dayOK, gt_iff_lt, hg, Bool.true_and] <;> rfl) ?_
      iterate 9 (refine Run.y1 (by simp only [go_sem, dayOK, gt_iff_lt, hg, Bool.true_and] <;> rfl) ?_)
      iterate 2 (refine Run.o1 (by simp only [go_sem, dayOK, gt_iff_lt, hg, Bool.true_and] <;> rfl) ?_)
      refine Run.nil ?_
      exact Ends.fin [] (rs := [.tmp 5]) rfl (by simp only [go_sem, dayOK, gt_iff_lt, hg, Bool.true_and] <;> rfl) (by simp only [go_sem, dayOK, gt_iff_lt, hg, Bool.true_and] <;> first | rfl | exact eqz)
    · skip
      have hg : inD d (a.start + 1) 131072 = false := by simpa using hg
      refine Exec.reg ?_
      iterate 3 (refine Run.o1 (by simp only [go_sem, dayOK, gt_iff_lt, hg, Bool.false_and] <;> rfl) ?_)
      refine Run.o1 (by simp only [go_sem, dayOK, gt_iff_lt, hg, Bool.false_and]; (try simp (disch := omega) only [IntWalk.i64_in, IntWalk.u64_in, if_neg, if_pos])<;> rfl) ?_
      refine Run.c1 (c_bill_within _ _ _) (by simp only [go_sem, dayOK, gt_iff_lt, hg, Bool.false_and] <;> rfl) (by simp only [go_sem, dayOK, gt_iff_lt, hg, Bool.false_and] <;> rfl) ?_
      refine Run.o1 (by simp only [go_sem, dayOK, gt_iff_lt, hg, Bool.false_and] <;> rfl) ?_
      iterate 9 (refine Run.s ?_)
      iterate 2 (refine Run.o1 (by simp only [go_sem, dayOK, gt_iff_lt, hg, Bool.false_and] <;> rfl) ?_)
      refine Run.nil ?_
      exact Ends.fin [] (rs := [.tmp 5]) rfl (by simp only [go_sem, dayOK, gt_iff_lt, hg, Bool.false_and] <;> rfl) (by simp only [go_sem, dayOK, gt_iff_lt, hg, Bool.false_and] <;> first | rfl | exact eqz)

set_option maxRecDepth 20000 in
set_option maxHeartbeats 2000000 in
/-- meterworks/bill.isAccount_3 -/
theorem c_isAccount_3 (a : Ac) (hs : 0 ≤ a.start ∧ a.start ≤ 131072) (b : Option Nt) (n : Nt) : Contract Try.prog 54 [befD encNt b, ntV n, .leaf (.d (.pt (encAc a)))] (.bool (noteOK a.start n)) [] := by
  cases b
  · skip
    simp only [befD]
    refine con_of follows_mixed Try.func54 rfl (by simp only [List.length_cons, List.length_nil, Try.ntmps54]; omega) (by kernel_rfl) rfl ?_
    refine Exec.reg ?_
    iterate 2 (refine Run.o1 (by simp only [go_sem, noteOK] <;> rfl) ?_)
    refine Run.nil ?_
    refine Exec.reg ?_
    iterate 4 (refine Run.o1 (by simp only [go_sem, noteOK] <;> rfl) ?_)
    refine Run.o1 (by simp only [go_sem, noteOK]; (try simp (disch := omega) only [IntWalk.i64_in, IntWalk.u64_in, if_neg, if_pos])<;> rfl) ?_
    refine Run.c1 (c_bill_within _ _ _) (by simp only [go_sem, noteOK] <;> rfl) (by simp only [go_sem, noteOK] <;> rfl) ?_
    refine Run.o1 (by simp only [go_sem, noteOK] <;> rfl) ?_
    iterate 4 (refine Run.gop (by simp only [go_sem] <;> rfl) (by simp only [go_sem, noteOK] <;> rfl) (by simp only [go_sem] <;> rfl) ?_)
    refine Run.gcal (by simp only [go_sem] <;> rfl) (c_bill_within _ _ _) (by simp only [go_sem]) (by simp only [go_sem, noteOK] <;> rfl) (by exact ⟨by first | exact WkR.pure rfl | exact WkR.nil _ | exact WkR.int (by first | omega | (simp; done) | (simp; omega)), by first | exact WkR.pure rfl | exact WkR.nil _ | exact WkR.int (by first | omega | (simp; done) | (simp; omega)), by first | exact WkR.pure rfl | exact WkR.nil _ | exact WkR.int (by first | omega | (simp; done) | (simp; omega)), trivial⟩) (by simp only [go_sem, noteOK] <;> rfl) ?_
    iterate 2 (refine Run.o1 (by simp only [go_sem, noteOK] <;> rfl) ?_)
    iterate 2 (refine Run.gop (by simp only [go_sem] <;> rfl) (by simp only [go_sem, noteOK] <;> rfl) (by simp only [go_sem] <;> rfl) ?_)
    refine Run.gcal (by simp only [go_sem] <;> rfl) (c_bill_within _ _ _) (by simp only [go_sem]) (by simp only [go_sem, noteOK] <;> rfl) (by exact ⟨by first | exact WkR.pure rfl | exact WkR.nil _ | exact WkR.int (by first | omega | (simp; done) | (simp; omega)), by first | exact WkR.pure rfl | exact WkR.nil _ | exact WkR.int (by first | omega | (simp; done) | (simp; omega)), by first | exact WkR.pure rfl | exact WkR.nil _ | exact WkR.int (by first | omega | (simp; done) | (simp; omega)), trivial⟩) (by simp only [go_sem, noteOK] <;> rfl) ?_
    iterate 2 (refine Run.o1 (by simp only [go_sem, noteOK] <;> rfl) ?_)
    refine Run.nil ?_
    exact Ends.fin [] (rs := [.tmp 5]) rfl (by simp only [go_sem, noteOK] <;> rfl) (by simp only [go_sem, noteOK] <;> first | rfl | exact eqz)
  · skip
    rename_i y
    simp only [befD]
    refine con_of follows_mixed Try.func54 rfl (by simp only [List.length_cons, List.length_nil, Try.ntmps54]; omega) (by kernel_rfl) rfl ?_
    refine Exec.reg ?_
    iterate 2 (refine Run.o1 (by simp only [go_sem, noteOK] <;> rfl) ?_)
    refine Run.nil ?_
    refine Exec.reg ?_
    iterate 4 (refine Run.o1 (by simp only [go_sem, noteOK] <;> rfl) ?_)
    refine Run.o1 (by simp only [go_sem, noteOK]; (try simp (disch := omega) only [IntWalk.i64_in, IntWalk.u64_in, if_neg, if_pos])<;> rfl) ?_
    refine Run.c1 (c_bill_within _ _ _) (by simp only [go_sem, noteOK] <;> rfl) (by simp only [go_sem, noteOK] <;> rfl) ?_
    refine Run.o1 (by simp only [go_sem, noteOK] <;> rfl) ?_
    iterate 4 (refine Run.gop (by simp only [go_sem] <;> rfl) (by simp only [go_sem, noteOK] <;> rfl) (by simp only [go_sem] <;> rfl) ?_)
    refine Run.gcal (by simp only [go_sem] <;> rfl) (c_bill_within _ _ _) (by simp only [go_sem]) (by simp only [go_sem, noteOK] <;> rfl) (by exact ⟨by first | exact WkR.pure rfl | exact WkR.nil _ | exact WkR.int (by first | omega | (simp; done) | (simp; omega)), by first | exact WkR.pure rfl | exact WkR.nil _ | exact WkR.int (by first | omega | (simp; done) | (simp; omega)), by first | exact WkR.pure rfl | exact WkR.nil _ | exact WkR.int (by first | omega | (simp; done) | (simp; omega)), trivial⟩) (by simp only [go_sem, noteOK] <;> rfl) ?_
    iterate 2 (refine Run.o1 (by simp only [go_sem, noteOK] <;> rfl) ?_)
    iterate 2 (refine Run.gop (by simp only [go_sem] <;> rfl) (by simp only [go_sem, noteOK] <;> rfl) (by simp only [go_sem] <;> rfl) ?_)
    refine Run.gcal (by simp only [go_sem] <;> rfl) (c_bill_within _ _ _) (by simp only [go_sem]) (by simp only [go_sem, noteOK] <;> rfl) (by exact ⟨by first | exact WkR.pure rfl | exact WkR.nil _ | exact WkR.int (by first | omega | (simp; done) | (simp; omega)), by first | exact WkR.pure rfl | exact WkR.nil _ | exact WkR.int (by first | omega | (simp; done) | (simp; omega)), by first | exact WkR.pure rfl | exact WkR.nil _ | exact WkR.int (by first | omega | (simp; done) | (simp; omega)), trivial⟩) (by simp only [go_sem, noteOK] <;> rfl) ?_
    iterate 2 (refine Run.o1 (by simp only [go_sem, noteOK] <;> rfl) ?_)
    refine Run.nil ?_
    exact Ends.fin [] (rs := [.tmp 5]) rfl (by simp only [go_sem, noteOK] <;> rfl) (by simp only [go_sem, noteOK] <;> first | rfl | exact eqz)

set_option maxRecDepth 20000 in
set_option maxHeartbeats 4000000 in
/-- meterworks/bill.isAccount_4 -/
theorem c_isAccount_4 (a : Ac) (hs : 0 ≤ a.start ∧ a.start ≤ 131072) (b : Option Dp) (d : Dp) : Contract Try.prog 55 [befD encDp b, dpV d, .leaf (.d (.pt (encAc a)))] (.bool (dspOK a.start b d)) [] := by
  have ef2 : (inD d.err (-500) 500 && inD d.alw 0 500 && inD d.fee 0 1000000) = dspQ d := rfl
  cases b
  · skip
    simp only [befD]
    refine con_of follows_mixed Try.func55 rfl (by simp only [List.length_cons, List.length_nil, Try.ntmps55]; omega) (by kernel_rfl) rfl ?_
    refine Exec.reg ?_
    iterate 2 (refine Run.o1 (by simp only [go_sem, ef2, ge_iff_le] <;> rfl) ?_)
    refine Run.nil ?_
    by_cases hf : inD d.fr a.start 131072 = true
    · skip
      have hfb := inD_iff.1 hf
      have ef1 : (inD d.to (d.fr + 1) 131072 && inD d.day d.to 131072) = dspP a.start d := by unfold dspP; rw [hf, Bool.true_and]
      refine Exec.reg ?_
      iterate 4 (refine Run.o1 (by simp only [go_sem, ef2, ge_iff_le, hf, ef1] <;> rfl) ?_)
      refine Run.c1 (c_bill_within _ _ _) (by simp only [go_sem, ef2, ge_iff_le, hf, ef1] <;> rfl) (by simp only [go_sem, ef2, ge_iff_le, hf, ef1] <;> rfl) ?_
      refine Run.o1 (by simp only [go_sem, ef2, ge_iff_le, hf, ef1] <;> rfl) ?_
      iterate 4 (refine Run.y1 (by simp only [go_sem, ef2, ge_iff_le, hf, ef1] <;> rfl) ?_)
      refine Run.y1 (by simp only [go_sem, ef2, ge_iff_le, hf, ef1]; (try simp (disch := omega) only [IntWalk.i64_in, IntWalk.u64_in, if_neg, if_pos])<;> rfl) ?_
      refine Run.calw (by simp only [go_sem] <;> rfl) (c_bill_within _ _ _) (by simp only [go_sem]) (by simp only [go_sem, ef2, ge_iff_le, hf, ef1] <;> rfl) (by simp only [go_sem, ef2, ge_iff_le, hf, ef1] <;> rfl) (by exact ⟨by first | exact WkR.pure rfl | exact WkR.nil _ | exact WkR.int (by first | omega | (simp; done) | (simp; omega)), by first | exact WkR.pure rfl | exact WkR.nil _ | exact WkR.int (by first | omega | (simp; done) | (simp; omega)), by first | exact WkR.pure rfl | exact WkR.nil _ | exact WkR.int (by first | omega | (simp; done) | (simp; omega)), trivial⟩) (fr0) (by simp only [go_sem, ef2, ge_iff_le, hf, ef1] <;> rfl) ?_
      iterate 2 (refine Run.o1 (by simp only [go_sem, ef2, ge_iff_le, hf, ef1] <;> rfl) ?_)
      iterate 4 (refine Run.gop (by simp only [go_sem] <;> rfl) (by simp only [go_sem, ef2, ge_iff_le, hf, ef1] <;> rfl) (by simp only [go_sem] <;> rfl) ?_)
      refine Run.gcal (by simp only [go_sem] <;> rfl) (c_bill_within _ _ _) (by simp only [go_sem]) (by simp only [go_sem, ef2, ge_iff_le, hf, ef1] <;> rfl) (by exact ⟨by first | exact WkR.pure rfl | exact WkR.nil _ | exact WkR.int (by first | omega | (simp; done) | (simp; omega)), by first | exact WkR.pure rfl | exact WkR.nil _ | exact WkR.int (by first | omega | (simp; done) | (simp; omega)), by first | exact WkR.pure rfl | exact WkR.nil _ | exact WkR.int (by first | omega | (simp; done) | (simp; omega)), trivial⟩) (by simp only [go_sem, ef2, ge_iff_le, hf, ef1] <;> rfl) ?_
      iterate 2 (refine Run.o1 (by simp only [go_sem, ef2, ge_iff_le, hf, ef1] <;> rfl) ?_)
      refine Run.nil ?_
      refine Exec.reg ?_
      iterate 2 (refine Run.o1 (by simp only [go_sem, ef2, ge_iff_le, hf, ef1] <;> rfl) ?_)
      refine Run.c1 (c_bill_within _ _ _) (by simp only [go_sem, ef2, ge_iff_le, hf, ef1] <;> rfl) (by simp only [go_sem, ef2, ge_iff_le, hf, ef1] <;> rfl) ?_
      refine Run.o1 (by simp only [go_sem, ef2, ge_iff_le, hf, ef1] <;> rfl) ?_
      iterate 2 (refine Run.gop (by simp only [go_sem] <;> rfl) (by simp only [go_sem, ef2, ge_iff_le, hf, ef1] <;> rfl) (by simp only [go_sem] <;> rfl) ?_)
      refine Run.gcal (by simp only [go_sem] <;> rfl) (c_bill_within _ _ _) (by simp only [go_sem]) (by simp only [go_sem, ef2, ge_iff_le, hf, ef1] <;> rfl) (by exact ⟨by first | exact WkR.pure rfl | exact WkR.nil _ | exact WkR.int (by first | omega | (simp; done) | (simp; omega)), by first | exact WkR.pure rfl | exact WkR.nil _ | exact WkR.int (by first | omega | (simp; done) | (simp; omega)), by first | exact WkR.pure rfl | exact WkR.nil _ | exact WkR.int (by first | omega | (simp; done) | (simp; omega)), trivial⟩) (by simp only [go_sem, ef2, ge_iff_le, hf, ef1] <;> rfl) ?_
      iterate 2 (refine Run.o1 (by simp only [go_sem, ef2, ge_iff_le, hf, ef1] <;> rfl) ?_)
      iterate 2 (refine Run.gop (by simp only [go_sem] <;> rfl) (by simp only [go_sem, ef2, ge_iff_le, hf, ef1] <;> rfl) (by simp only [go_sem] <;> rfl) ?_)
      refine Run.gcal (by simp only [go_sem] <;> rfl) (c_bill_within _ _ _) (by simp only [go_sem]) (by simp only [go_sem, ef2, ge_iff_le, hf, ef1] <;> rfl) (by exact ⟨by first | exact WkR.pure rfl | exact WkR.nil _ | exact WkR.int (by first | omega | (simp; done) | (simp; omega)), by first | exact WkR.pure rfl | exact WkR.nil _ | exact WkR.int (by first | omega | (simp; done) | (simp; omega)), by first | exact WkR.pure rfl | exact WkR.nil _ | exact WkR.int (by first | omega | (simp; done) | (simp; omega)), trivial⟩) (by simp only [go_sem, ef2, ge_iff_le, hf, ef1] <;> rfl) ?_
      iterate 2 (refine Run.o1 (by simp only [go_sem, ef2, ge_iff_le, hf, ef1] <;> rfl) ?_)
      refine Run.nil ?_
      by_cases hg : (dspP a.start d && dspQ d) = true
      · skip
        have hg2 := hg
        rw [Bool.and_eq_true] at hg2
        obtain ⟨hgP, hgQ⟩ := hg2
        refine Exec.opk 20 ?_
        iterate 2 (refine OpenK.o1 (by simp only [go_sem, ef2, ge_iff_le, hf, ef1, dspOK, hgP, hgQ, Bool.true_and] <;> rfl) ?_)
        refine OpenK.y1 (by simp only [go_sem, ef2, ge_iff_le, hf, ef1, dspOK, hgP, hgQ, Bool.true_and] <;> rfl) ?_
        iterate 2 (refine OpenK.o1 (by simp only [go_sem, ef2, ge_iff_le, hf, ef1, dspOK, hgP, hgQ, Bool.true_and] <;> rfl) ?_)
        iterate 3 (refine OpenK.y1 (by simp only [go_sem, ef2, ge_iff_le, hf, ef1, dspOK, hgP, hgQ, Bool.true_and] <;> rfl) ?_)
        iterate 7 (refine OpenK.s ?_)
        refine OpenK.y1 (by simp only [go_sem, ef2, ge_iff_le, hf, ef1, dspOK, hgP, hgQ, Bool.true_and] <;> rfl) ?_
        iterate 2 (refine OpenK.o1 (by simp only [go_sem, ef2, ge_iff_le, hf, ef1, dspOK, hgP, hgQ, Bool.true_and] <;> rfl) ?_)
        refine OpenK.nil (OpenE.finT (by kernel_rfl) (by kernel_rfl) (by kernel_rfl) ?_)
        exact Ends.fin [] (rs := [.tmp 5]) rfl (by simp only [go_sem, ef2, ge_iff_le, hf, ef1, dspOK, hgP, hgQ, Bool.true_and] <;> rfl) (by simp only [go_sem, ef2, ge_iff_le, hf, ef1, dspOK, hgP, hgQ, Bool.true_and] <;> first | rfl | exact eqz)
      · skip
        have hg : (dspP a.start d && dspQ d) = false := by simpa using hg
        refine Exec.opk 20 ?_
        iterate 2 (refine OpenK.o1 (by simp only [go_sem, ef2, ge_iff_le, hf, ef1, dspOK, hg, Bool.false_and] <;> rfl) ?_)
        refine OpenK.gop (by simp only [go_sem] <;> rfl) (by simp only [go_sem, ef2, ge_iff_le, hf, ef1, dspOK, hg, Bool.false_and] <;> rfl) (by simp only [go_sem] <;> rfl) ?_
        iterate 2 (refine OpenK.o1 (by simp only [go_sem, ef2, ge_iff_le, hf, ef1, dspOK, hg, Bool.false_and] <;> rfl) ?_)
        iterate 11 (refine OpenK.s ?_)
        iterate 2 (refine OpenK.o1 (by simp only [go_sem, ef2, ge_iff_le, hf, ef1, dspOK, hg, Bool.false_and] <;> rfl) ?_)
        refine OpenK.nil (OpenE.finT (by kernel_rfl) (by kernel_rfl) (by kernel_rfl) ?_)
        exact Ends.fin [] (rs := [.tmp 5]) rfl (by simp only [go_sem, ef2, ge_iff_le, hf, ef1, dspOK, hg, Bool.false_and] <;> rfl) (by simp only [go_sem, ef2, ge_iff_le, hf, ef1, dspOK, hg, Bool.false_and] <;> first | rfl | exact eqz)
    · skip
      have hf : inD d.fr a.start 131072 = false := by simpa using hf
      have hP : dspP a.start d = false := by unfold dspP; rw [hf, Bool.false_and, Bool.false_and]
      refine Exec.reg ?_
      iterate 4 (refine Run.o1 (by simp only [go_sem, ef2, ge_iff_le, hf, dspOK, hP, Bool.false_and] <;> rfl) ?_)
      refine Run.c1 (c_bill_within _ _ _) (by simp only [go_sem, ef2, ge_iff_le, hf, dspOK, hP, Bool.false_and] <;> rfl) (by simp only [go_sem, ef2, ge_iff_le, hf, dspOK, hP, Bool.false_and] <;> rfl) ?_
      refine Run.o1 (by simp only [go_sem, ef2, ge_iff_le, hf, dspOK, hP, Bool.false_and] <;> rfl) ?_
      iterate 6 (refine Run.s ?_)
      iterate 2 (refine Run.o1 (by simp only [go_sem, ef2, ge_iff_le, hf, dspOK, hP, Bool.false_and] <;> rfl) ?_)
      iterate 5 (refine Run.s ?_)
      iterate 2 (refine Run.o1 (by simp only [go_sem, ef2, ge_iff_le, hf, dspOK, hP, Bool.false_and] <;> rfl) ?_)
      refine Run.nil ?_
      refine Exec.reg ?_
      iterate 2 (refine Run.o1 (by simp only [go_sem, ef2, ge_iff_le, hf, dspOK, hP, Bool.false_and] <;> rfl) ?_)
      refine Run.c1 (c_bill_within _ _ _) (by simp only [go_sem, ef2, ge_iff_le, hf, dspOK, hP, Bool.false_and] <;> rfl) (by simp only [go_sem, ef2, ge_iff_le, hf, dspOK, hP, Bool.false_and] <;> rfl) ?_
      refine Run.o1 (by simp only [go_sem, ef2, ge_iff_le, hf, dspOK, hP, Bool.false_and] <;> rfl) ?_
      iterate 2 (refine Run.gop (by simp only [go_sem] <;> rfl) (by simp only [go_sem, ef2, ge_iff_le, hf, dspOK, hP, Bool.false_and] <;> rfl) (by simp only [go_sem] <;> rfl) ?_)
      refine Run.gcal (by simp only [go_sem] <;> rfl) (c_bill_within _ _ _) (by simp only [go_sem]) (by simp only [go_sem, ef2, ge_iff_le, hf, dspOK, hP, Bool.false_and] <;> rfl) (by exact ⟨by first | exact WkR.pure rfl | exact WkR.nil _ | exact WkR.int (by first | omega | (simp; done) | (simp; omega)), by first | exact WkR.pure rfl | exact WkR.nil _ | exact WkR.int (by first | omega | (simp; done) | (simp; omega)), by first | exact WkR.pure rfl | exact WkR.nil _ | exact WkR.int (by first | omega | (simp; done) | (simp; omega)), trivial⟩) (by simp only [go_sem, ef2, ge_iff_le, hf, dspOK, hP, Bool.false_and] <;> rfl) ?_
      iterate 2 (refine Run.o1 (by simp only [go_sem, ef2, ge_iff_le, hf, dspOK, hP, Bool.false_and] <;> rfl) ?_)
      iterate 2 (refine Run.gop (by simp only [go_sem] <;> rfl) (by simp only [go_sem, ef2, ge_iff_le, hf, dspOK, hP, Bool.false_and] <;> rfl) (by simp only [go_sem] <;> rfl) ?_)
      refine Run.gcal (by simp only [go_sem] <;> rfl) (c_bill_within _ _ _) (by simp only [go_sem]) (by simp only [go_sem, ef2, ge_iff_le, hf, dspOK, hP, Bool.false_and] <;> rfl) (by exact ⟨by first | exact WkR.pure rfl | exact WkR.nil _ | exact WkR.int (by first | omega | (simp; done) | (simp; omega)), by first | exact WkR.pure rfl | exact WkR.nil _ | exact WkR.int (by first | omega | (simp; done) | (simp; omega)), by first | exact WkR.pure rfl | exact WkR.nil _ | exact WkR.int (by first | omega | (simp; done) | (simp; omega)), trivial⟩) (by simp only [go_sem, ef2, ge_iff_le, hf, dspOK, hP, Bool.false_and] <;> rfl) ?_
      iterate 2 (refine Run.o1 (by simp only [go_sem, ef2, ge_iff_le, hf, dspOK, hP, Bool.false_and] <;> rfl) ?_)
      refine Run.nil ?_
      refine Exec.opk 20 ?_
      iterate 2 (refine OpenK.o1 (by simp only [go_sem, ef2, ge_iff_le, hf, dspOK, hP, Bool.false_and] <;> rfl) ?_)
      refine OpenK.s ?_
      iterate 2 (refine OpenK.o1 (by simp only [go_sem, ef2, ge_iff_le, hf, dspOK, hP, Bool.false_and] <;> rfl) ?_)
      iterate 11 (refine OpenK.s ?_)
      iterate 2 (refine OpenK.o1 (by simp only [go_sem, ef2, ge_iff_le, hf, dspOK, hP, Bool.false_and] <;> rfl) ?_)
      refine OpenK.nil (OpenE.finT (by kernel_rfl) (by kernel_rfl) (by kernel_rfl) ?_)
      exact Ends.fin [] (rs := [.tmp 5]) rfl (by simp only [go_sem, ef2, ge_iff_le, hf, dspOK, hP, Bool.false_and] <;> rfl) (by simp only [go_sem, ef2, ge_iff_le, hf, dspOK, hP, Bool.false_and] <;> first | rfl | exact eqz)
  · skip
    rename_i y
    simp only [befD]
    refine con_of follows_mixed Try.func55 rfl (by simp only [List.length_cons, List.length_nil, Try.ntmps55]; omega) (by kernel_rfl) rfl ?_
    refine Exec.reg ?_
    iterate 2 (refine Run.o1 (by simp only [go_sem, ef2, ge_iff_le] <;> rfl) ?_)
    refine Run.nil ?_
    by_cases hf : inD d.fr a.start 131072 = true
    · skip
      have hfb := inD_iff.1 hf
      have ef1 : (inD d.to (d.fr + 1) 131072 && inD d.day d.to 131072) = dspP a.start d := by unfold dspP; rw [hf, Bool.true_and]
      refine Exec.reg ?_
      iterate 4 (refine Run.o1 (by simp only [go_sem, ef2, ge_iff_le, hf, ef1] <;> rfl) ?_)
      refine Run.c1 (c_bill_within _ _ _) (by simp only [go_sem, ef2, ge_iff_le, hf, ef1] <;> rfl) (by simp only [go_sem, ef2, ge_iff_le, hf, ef1] <;> rfl) ?_
      refine Run.o1 (by simp only [go_sem, ef2, ge_iff_le, hf, ef1] <;> rfl) ?_
      iterate 4 (refine Run.y1 (by simp only [go_sem, ef2, ge_iff_le, hf, ef1] <;> rfl) ?_)
      refine Run.y1 (by simp only [go_sem, ef2, ge_iff_le, hf, ef1]; (try simp (disch := omega) only [IntWalk.i64_in, IntWalk.u64_in, if_neg, if_pos])<;> rfl) ?_
      refine Run.calw (by simp only [go_sem] <;> rfl) (c_bill_within _ _ _) (by simp only [go_sem]) (by simp only [go_sem, ef2, ge_iff_le, hf, ef1] <;> rfl) (by simp only [go_sem, ef2, ge_iff_le, hf, ef1] <;> rfl) (by exact ⟨by first | exact WkR.pure rfl | exact WkR.nil _ | exact WkR.int (by first | omega | (simp; done) | (simp; omega)), by first | exact WkR.pure rfl | exact WkR.nil _ | exact WkR.int (by first | omega | (simp; done) | (simp; omega)), by first | exact WkR.pure rfl | exact WkR.nil _ | exact WkR.int (by first | omega | (simp; done) | (simp; omega)), trivial⟩) (fr0) (by simp only [go_sem, ef2, ge_iff_le, hf, ef1] <;> rfl) ?_
      iterate 2 (refine Run.o1 (by simp only [go_sem, ef2, ge_iff_le, hf, ef1] <;> rfl) ?_)
      iterate 4 (refine Run.gop (by simp only [go_sem] <;> rfl) (by simp only [go_sem, ef2, ge_iff_le, hf, ef1] <;> rfl) (by simp only [go_sem] <;> rfl) ?_)
      refine Run.gcal (by simp only [go_sem] <;> rfl) (c_bill_within _ _ _) (by simp only [go_sem]) (by simp only [go_sem, ef2, ge_iff_le, hf, ef1] <;> rfl) (by exact ⟨by first | exact WkR.pure rfl | exact WkR.nil _ | exact WkR.int (by first | omega | (simp; done) | (simp; omega)), by first | exact WkR.pure rfl | exact WkR.nil _ | exact WkR.int (by first | omega | (simp; done) | (simp; omega)), by first | exact WkR.pure rfl | exact WkR.nil _ | exact WkR.int (by first | omega | (simp; done) | (simp; omega)), trivial⟩) (by simp only [go_sem, ef2, ge_iff_le, hf, ef1] <;> rfl) ?_
      iterate 2 (refine Run.o1 (by simp only [go_sem, ef2, ge_iff_le, hf, ef1] <;> rfl) ?_)
      refine Run.nil ?_
      refine Exec.reg ?_
      iterate 2 (refine Run.o1 (by simp only [go_sem, ef2, ge_iff_le, hf, ef1] <;> rfl) ?_)
      refine Run.c1 (c_bill_within _ _ _) (by simp only [go_sem, ef2, ge_iff_le, hf, ef1] <;> rfl) (by simp only [go_sem, ef2, ge_iff_le, hf, ef1] <;> rfl) ?_
      refine Run.o1 (by simp only [go_sem, ef2, ge_iff_le, hf, ef1] <;> rfl) ?_
      iterate 2 (refine Run.gop (by simp only [go_sem] <;> rfl) (by simp only [go_sem, ef2, ge_iff_le, hf, ef1] <;> rfl) (by simp only [go_sem] <;> rfl) ?_)
      refine Run.gcal (by simp only [go_sem] <;> rfl) (c_bill_within _ _ _) (by simp only [go_sem]) (by simp only [go_sem, ef2, ge_iff_le, hf, ef1] <;> rfl) (by exact ⟨by first | exact WkR.pure rfl | exact WkR.nil _ | exact WkR.int (by first | omega | (simp; done) | (simp; omega)), by first | exact WkR.pure rfl | exact WkR.nil _ | exact WkR.int (by first | omega | (simp; done) | (simp; omega)), by first | exact WkR.pure rfl | exact WkR.nil _ | exact WkR.int (by first | omega | (simp; done) | (simp; omega)), trivial⟩) (by simp only [go_sem, ef2, ge_iff_le, hf, ef1] <;> rfl) ?_
      iterate 2 (refine Run.o1 (by simp only [go_sem, ef2, ge_iff_le, hf, ef1] <;> rfl) ?_)
      iterate 2 (refine Run.gop (by simp only [go_sem] <;> rfl) (by simp only [go_sem, ef2, ge_iff_le, hf, ef1] <;> rfl) (by simp only [go_sem] <;> rfl) ?_)
      refine Run.gcal (by simp only [go_sem] <;> rfl) (c_bill_within _ _ _) (by simp only [go_sem]) (by simp only [go_sem, ef2, ge_iff_le, hf, ef1] <;> rfl) (by exact ⟨by first | exact WkR.pure rfl | exact WkR.nil _ | exact WkR.int (by first | omega | (simp; done) | (simp; omega)), by first | exact WkR.pure rfl | exact WkR.nil _ | exact WkR.int (by first | omega | (simp; done) | (simp; omega)), by first | exact WkR.pure rfl | exact WkR.nil _ | exact WkR.int (by first | omega | (simp; done) | (simp; omega)), trivial⟩) (by simp only [go_sem, ef2, ge_iff_le, hf, ef1] <;> rfl) ?_
      iterate 2 (refine Run.o1 (by simp only [go_sem, ef2, ge_iff_le, hf, ef1] <;> rfl) ?_)
      refine Run.nil ?_
      by_cases hg : (dspP a.start d && dspQ d) = true
      · skip
        have hg2 := hg
        rw [Bool.and_eq_true] at hg2
        obtain ⟨hgP, hgQ⟩ := hg2
        refine Exec.opk 20 ?_
        iterate 2 (refine OpenK.o1 (by simp only [go_sem, ef2, ge_iff_le, hf, ef1, dspOK, hgP, hgQ, Bool.true_and] <;> rfl) ?_)
        refine OpenK.y1 (by simp only [go_sem, ef2, ge_iff_le, hf, ef1, dspOK, hgP, hgQ, Bool.true_and] <;> rfl) ?_
        iterate 2 (refine OpenK.o1 (by simp only [go_sem, ef2, ge_iff_le, hf, ef1, dspOK, hgP, hgQ, Bool.true_and] <;> rfl) ?_)
        iterate 11 (refine OpenK.y1 (by simp only [go_sem, ef2, ge_iff_le, hf, ef1, dspOK, hgP, hgQ, Bool.true_and] <;> rfl) ?_)
        iterate 2 (refine OpenK.o1 (by simp only [go_sem, ef2, ge_iff_le, hf, ef1, dspOK, hgP, hgQ, Bool.true_and] <;> rfl) ?_)
        refine OpenK.nil (OpenE.finT (by kernel_rfl) (by kernel_rfl) (by kernel_rfl) ?_)
        exact Ends.fin [] (rs := [.tmp 5]) rfl (by simp only [go_sem, ef2, ge_iff_le, hf, ef1, dspOK, hgP, hgQ, Bool.true_and] <;> rfl) (by simp only [go_sem, ef2, ge_iff_le, hf, ef1, dspOK, hgP, hgQ, Bool.true_and] <;> first | rfl | exact eqz)
      · skip
        have hg : (dspP a.start d && dspQ d) = false := by simpa using hg
        refine Exec.opk 20 ?_
        iterate 2 (refine OpenK.o1 (by simp only [go_sem, ef2, ge_iff_le, hf, ef1, dspOK, hg, Bool.false_and] <;> rfl) ?_)
        refine OpenK.gop (by simp only [go_sem] <;> rfl) (by simp only [go_sem, ef2, ge_iff_le, hf, ef1, dspOK, hg, Bool.false_and] <;> rfl) (by simp only [go_sem] <;> rfl) ?_
        iterate 2 (refine OpenK.o1 (by simp only [go_sem, ef2, ge_iff_le, hf, ef1, dspOK, hg, Bool.false_and] <;> rfl) ?_)
        iterate 11 (refine OpenK.s ?_)
        iterate 2 (refine OpenK.o1 (by simp only [go_sem, ef2, ge_iff_le, hf, ef1, dspOK, hg, Bool.false_and] <;> rfl) ?_)
        refine OpenK.nil (OpenE.finT (by kernel_rfl) (by kernel_rfl) (by kernel_rfl) ?_)
        exact Ends.fin [] (rs := [.tmp 5]) rfl (by simp only [go_sem, ef2, ge_iff_le, hf, ef1, dspOK, hg, Bool.false_and] <;> rfl) (by simp only [go_sem, ef2, ge_iff_le, hf, ef1, dspOK, hg, Bool.false_and] <;> first | rfl | exact eqz)
    · skip
      have hf : inD d.fr a.start 131072 = false := by simpa using hf
      have hP : dspP a.start d = false := by unfold dspP; rw [hf, Bool.false_and, Bool.false_and]
      refine Exec.reg ?_
      iterate 4 (refine Run.o1 (by simp only [go_sem, ef2, ge_iff_le, hf, dspOK, hP, Bool.false_and] <;> rfl) ?_)
      refine Run.c1 (c_bill_within _ _ _) (by simp only [go_sem, ef2, ge_iff_le, hf, dspOK, hP, Bool.false_and] <;> rfl) (by simp only [go_sem, ef2, ge_iff_le, hf, dspOK, hP, Bool.false_and] <;> rfl) ?_
      refine Run.o1 (by simp only [go_sem, ef2, ge_iff_le, hf, dspOK, hP, Bool.false_and] <;> rfl) ?_
      iterate 6 (refine Run.s ?_)
      iterate 2 (refine Run.o1 (by simp only [go_sem, ef2, ge_iff_le, hf, dspOK, hP, Bool.false_and] <;> rfl) ?_)
      iterate 5 (refine Run.s ?_)
      iterate 2 (refine Run.o1 (by simp only [go_sem, ef2, ge_iff_le, hf, dspOK, hP, Bool.false_and] <;> rfl) ?_)
      refine Run.nil ?_
      refine Exec.reg ?_
      iterate 2 (refine Run.o1 (by simp only [go_sem, ef2, ge_iff_le, hf, dspOK, hP, Bool.false_and] <;> rfl) ?_)
      refine Run.c1 (c_bill_within _ _ _) (by simp only [go_sem, ef2, ge_iff_le, hf, dspOK, hP, Bool.false_and] <;> rfl) (by simp only [go_sem, ef2, ge_iff_le, hf, dspOK, hP, Bool.false_and] <;> rfl) ?_
      refine Run.o1 (by simp only [go_sem, ef2, ge_iff_le, hf, dspOK, hP, Bool.false_and] <;> rfl) ?_
      iterate 2 (refine Run.gop (by simp only [go_sem] <;> rfl) (by simp only [go_sem, ef2, ge_iff_le, hf, dspOK, hP, Bool.false_and] <;> rfl) (by simp only [go_sem] <;> rfl) ?_)
      refine Run.gcal (by simp only [go_sem] <;> rfl) (c_bill_within _ _ _) (by simp only [go_sem]) (by simp only [go_sem, ef2, ge_iff_le, hf, dspOK, hP, Bool.false_and] <;> rfl) (by exact ⟨by first | exact WkR.pure rfl | exact WkR.nil _ | exact WkR.int (by first | omega | (simp; done) | (simp; omega)), by first | exact WkR.pure rfl | exact WkR.nil _ | exact WkR.int (by first | omega | (simp; done) | (simp; omega)), by first | exact WkR.pure rfl | exact WkR.nil _ | exact WkR.int (by first | omega | (simp; done) | (simp; omega)), trivial⟩) (by simp only [go_sem, ef2, ge_iff_le, hf, dspOK, hP, Bool.false_and] <;> rfl) ?_
      iterate 2 (refine Run.o1 (by simp only [go_sem, ef2, ge_iff_le, hf, dspOK, hP, Bool.false_and] <;> rfl) ?_)
      iterate 2 (refine Run.gop (by simp only [go_sem] <;> rfl) (by simp only [go_sem, ef2, ge_iff_le, hf, dspOK, hP, Bool.false_and] <;> rfl) (by simp only [go_sem] <;> rfl) ?_)
      refine Run.gcal (by simp only [go_sem] <;> rfl) (c_bill_within _ _ _) (by simp only [go_sem]) (by simp only [go_sem, ef2, ge_iff_le, hf, dspOK, hP, Bool.false_and] <;> rfl) (by exact ⟨by first | exact WkR.pure rfl | exact WkR.nil _ | exact WkR.int (by first | omega | (simp; done) | (simp; omega)), by first | exact WkR.pure rfl | exact WkR.nil _ | exact WkR.int (by first | omega | (simp; done) | (simp; omega)), by first | exact WkR.pure rfl | exact WkR.nil _ | exact WkR.int (by first | omega | (simp; done) | (simp; omega)), trivial⟩) (by simp only [go_sem, ef2, ge_iff_le, hf, dspOK, hP, Bool.false_and] <;> rfl) ?_
      iterate 2 (refine Run.o1 (by simp only [go_sem, ef2, ge_iff_le, hf, dspOK, hP, Bool.false_and] <;> rfl) ?_)
      refine Run.nil ?_
      refine Exec.opk 20 ?_
      iterate 2 (refine OpenK.o1 (by simp only [go_sem, ef2, ge_iff_le, hf, dspOK, hP, Bool.false_and] <;> rfl) ?_)
      refine OpenK.s ?_
      iterate 2 (refine OpenK.o1 (by simp only [go_sem, ef2, ge_iff_le, hf, dspOK, hP, Bool.false_and] <;> rfl) ?_)
      iterate 11 (refine OpenK.s ?_)
      iterate 2 (refine OpenK.o1 (by simp only [go_sem, ef2, ge_iff_le, hf, dspOK, hP, Bool.false_and] <;> rfl) ?_)
      refine OpenK.nil (OpenE.finT (by kernel_rfl) (by kernel_rfl) (by kernel_rfl) ?_)
      exact Ends.fin [] (rs := [.tmp 5]) rfl (by simp only [go_sem, ef2, ge_iff_le, hf, dspOK, hP, Bool.false_and] <;> rfl) (by simp only [go_sem, ef2, ge_iff_le, hf, dspOK, hP, Bool.false_and] <;> first | rfl | exact eqz)

theorem pairs_all {α : Type} (q : α → Bool) (l : List α) : pairsB (fun _ x => q x) l = l.all q := by
  rw [Bool.eq_iff_iff, List.all_eq_true]
  unfold pairsB
  rw [pairsT_iff (Nat.le_refl _)]
  constructor
  · intro h x hx
    obtain ⟨i, hi⟩ := List.getElem?_of_mem hx
    exact h i x (List.getElem?_eq_some_iff.1 hi).1 hi
  · exact fun h i x _ hx => h x (List.mem_of_getElem? hx)
theorem sizes_iff {a : Ac} : sizesB a = true ↔ (1 ≤ a.ts.length ∧ a.ts.length ≤ 6) ∧ a.bs.length ≤ 12 ∧ a.ns.length ≤ 24 ∧ a.ds.length ≤ 4 := by
  unfold sizesB
  simp only [Bool.and_eq_true, decide_eq_true_eq, inD_iff]
  omega
set_option maxRecDepth 20000 in
set_option maxHeartbeats 8000000 in
/-- meterworks/bill.isAccount -/
theorem c_bill_isAccount (a : Ac) : Contract Try.prog 45 [acV a] (.bool (acctB a)) [] := by
  have ef1 : (inD a.start 0 131072 && inD a.fig 0 1073741824 && inD a.daily 0 100000 && inD a.stand 0 100000) = numsB a := rfl
  have ef2 : (inD (a.ts.length : Int) 1 6 && decide ((a.bs.length : Int) ≤ 12) && decide ((a.ns.length : Int) ≤ 24) && decide ((a.ds.length : Int) ≤ 4)) = sizesB a := by rw [Bool.eq_iff_iff, sizes_iff]; simp only [Bool.and_eq_true, decide_eq_true_eq, inD_iff]; omega
  have hpa := pairs_all (noteOK a.start) a.ns
  refine con_of follows_mixed Try.func45 rfl (by simp only [List.length_cons, List.length_nil, Try.ntmps45]; omega) (by kernel_rfl) rfl ?_
  refine Exec.reg ?_
  iterate 2 (refine Run.o1 (by simp only [go_sem, ef1, ef2, hpa] <;> rfl) ?_)
  refine Run.nil ?_
  refine Exec.reg ?_
  refine Run.o1 (by simp only [go_sem, ef1, ef2, hpa] <;> rfl) ?_
  refine Run.nil ?_
  refine Exec.reg ?_
  iterate 2 (refine Run.o1 (by simp only [go_sem, ef1, ef2, hpa] <;> rfl) ?_)
  refine Run.nil ?_
  refine Exec.reg ?_
  iterate 2 (refine Run.o1 (by simp only [go_sem, ef1, ef2, hpa] <;> rfl) ?_)
  refine Run.nil ?_
  refine Exec.reg ?_
  iterate 2 (refine Run.o1 (by simp only [go_sem, ef1, ef2, hpa] <;> rfl) ?_)
  refine Run.nil ?_
  refine Exec.reg ?_
  iterate 2 (refine Run.o1 (by simp only [go_sem, ef1, ef2, hpa] <;> rfl) ?_)
  refine Run.c1 (c_bill_isDay _) (by simp only [go_sem, ef1, ef2, hpa] <;> rfl) (by simp only [go_sem, ef1, ef2, hpa] <;> rfl) ?_
  refine Run.o1 (by simp only [go_sem, ef1, ef2, hpa] <;> rfl) ?_
  iterate 2 (refine Run.gop (by simp only [go_sem] <;> rfl) (by simp only [go_sem, ef1, ef2, hpa] <;> rfl) (by simp only [go_sem] <;> rfl) ?_)
  refine Run.gcal (by simp only [go_sem] <;> rfl) (c_bill_within _ _ _) (by simp only [go_sem]) (by simp only [go_sem, ef1, ef2, hpa] <;> rfl) (by exact ⟨by first | exact WkR.pure rfl | exact WkR.nil _ | exact WkR.int (by first | omega | (simp; done) | (simp; omega)), by first | exact WkR.pure rfl | exact WkR.nil _ | exact WkR.int (by first | omega | (simp; done) | (simp; omega)), by first | exact WkR.pure rfl | exact WkR.nil _ | exact WkR.int (by first | omega | (simp; done) | (simp; omega)), trivial⟩) (by simp only [go_sem, ef1, ef2, hpa] <;> rfl) ?_
  iterate 2 (refine Run.o1 (by simp only [go_sem, ef1, ef2, hpa] <;> rfl) ?_)
  iterate 2 (refine Run.gop (by simp only [go_sem] <;> rfl) (by simp only [go_sem, ef1, ef2, hpa] <;> rfl) (by simp only [go_sem] <;> rfl) ?_)
  refine Run.gcal (by simp only [go_sem] <;> rfl) (c_bill_within _ _ _) (by simp only [go_sem]) (by simp only [go_sem, ef1, ef2, hpa] <;> rfl) (by exact ⟨by first | exact WkR.pure rfl | exact WkR.nil _ | exact WkR.int (by first | omega | (simp; done) | (simp; omega)), by first | exact WkR.pure rfl | exact WkR.nil _ | exact WkR.int (by first | omega | (simp; done) | (simp; omega)), by first | exact WkR.pure rfl | exact WkR.nil _ | exact WkR.int (by first | omega | (simp; done) | (simp; omega)), trivial⟩) (by simp only [go_sem, ef1, ef2, hpa] <;> rfl) ?_
  iterate 2 (refine Run.o1 (by simp only [go_sem, ef1, ef2, hpa] <;> rfl) ?_)
  iterate 2 (refine Run.gop (by simp only [go_sem] <;> rfl) (by simp only [go_sem, ef1, ef2, hpa] <;> rfl) (by simp only [go_sem] <;> rfl) ?_)
  refine Run.gcal (by simp only [go_sem] <;> rfl) (c_bill_within _ _ _) (by simp only [go_sem]) (by simp only [go_sem, ef1, ef2, hpa] <;> rfl) (by exact ⟨by first | exact WkR.pure rfl | exact WkR.nil _ | exact WkR.int (by first | omega | (simp; done) | (simp; omega)), by first | exact WkR.pure rfl | exact WkR.nil _ | exact WkR.int (by first | omega | (simp; done) | (simp; omega)), by first | exact WkR.pure rfl | exact WkR.nil _ | exact WkR.int (by first | omega | (simp; done) | (simp; omega)), trivial⟩) (by simp only [go_sem, ef1, ef2, hpa] <;> rfl) ?_
  iterate 2 (refine Run.o1 (by simp only [go_sem, ef1, ef2, hpa] <;> rfl) ?_)
  refine Run.nil ?_
  refine Exec.reg ?_
  iterate 3 (refine Run.o1 (by simp only [go_sem, ef1, ef2, hpa] <;> rfl) ?_)
  refine Run.c1 (c_bill_within _ _ _) (by simp only [go_sem, ef1, ef2, hpa] <;> rfl) (by simp only [go_sem, ef1, ef2, hpa] <;> rfl) ?_
  refine Run.o1 (by simp only [go_sem, ef1, ef2, hpa] <;> rfl) ?_
  iterate 4 (refine Run.gop (by simp only [go_sem] <;> rfl) (by simp only [go_sem, ef1, ef2, hpa] <;> rfl) (by simp only [go_sem] <;> rfl) ?_)
  iterate 2 (refine Run.o1 (by simp only [go_sem, ef1, ef2, hpa] <;> rfl) ?_)
  iterate 4 (refine Run.gop (by simp only [go_sem] <;> rfl) (by simp only [go_sem, ef1, ef2, hpa] <;> rfl) (by simp only [go_sem] <;> rfl) ?_)
  iterate 2 (refine Run.o1 (by simp only [go_sem, ef1, ef2, hpa] <;> rfl) ?_)
  iterate 4 (refine Run.gop (by simp only [go_sem] <;> rfl) (by simp only [go_sem, ef1, ef2, hpa] <;> rfl) (by simp only [go_sem] <;> rfl) ?_)
  iterate 2 (refine Run.o1 (by simp only [go_sem, ef1, ef2, hpa] <;> rfl) ?_)
  refine Run.nil ?_
  by_cases hns : (numsB a && sizesB a) = true
  · skip
    have hns2 := hns
    rw [Bool.and_eq_true] at hns2
    obtain ⟨hn, hz⟩ := hns2
    have hsz := sizes_iff.1 hz
    have hst : 0 ≤ a.start ∧ a.start ≤ 131072 := by
      unfold numsB at hn
      simp only [Bool.and_eq_true, inD_iff] at hn
      exact hn.1.1.1
    refine Exec.reg ?_
    refine Run.frz 1 (by simp only [go_sem] <;> rfl) ?_
    refine Run.frz 9 (by simp only [go_sem] <;> rfl) ?_
    refine Run.frz 10 (by simp only [go_sem] <;> rfl) ?_
    refine Run.frz 11 (by simp only [go_sem] <;> rfl) ?_
    iterate 2 (refine Run.o1 (by simp only [go_sem, ef1, ef2, hpa, hn, hz, acctB, Bool.true_and] <;> rfl) ?_)
    refine Run.y1 (by simp only [go_sem, ef1, ef2, hpa, hn, hz, acctB, Bool.true_and] <;> rfl) ?_
    iterate 2 (refine Run.o1 (by simp only [go_sem, ef1, ef2, hpa, hn, hz, acctB, Bool.true_and] <;> rfl) ?_)
    iterate 3 (refine Run.y1 (by simp only [go_sem, ef1, ef2, hpa, hn, hz, acctB, Bool.true_and] <;> rfl) ?_)
    refine Run.calw (by simp only [go_sem] <;> rfl) (c_pairs_Trf trfOK (ds := []) (by simp only [go_sem]) a.ts (by omega) (fun b s _ _ => c_isAccount_1 b s)) (by simp only [go_sem]) (by simp only [go_sem, ef1, ef2, hpa, hn, hz, acctB, Bool.true_and] <;> rfl) (by simp only [go_sem, ef1, ef2, hpa, hn, hz, acctB, Bool.true_and] <;> rfl) (by exact ⟨by first | exact WkR.pure rfl | exact WkR.nil _ | exact WkR.int (by first | omega | (simp; done) | (simp; omega)), by first | exact WkR.pure rfl | exact WkR.nil _ | exact WkR.int (by first | omega | (simp; done) | (simp; omega)), trivial⟩) (fr0) (by simp only [go_sem, ef1, ef2, hpa, hn, hz, acctB, Bool.true_and] <;> rfl) ?_
    iterate 2 (refine Run.o1 (by simp only [go_sem, ef1, ef2, hpa, hn, hz, acctB, Bool.true_and] <;> rfl) ?_)
    iterate 3 (refine Run.gop (by simp only [go_sem] <;> rfl) (by simp only [go_sem, ef1, ef2, hpa, hn, hz, acctB, Bool.true_and] <;> rfl) (by simp only [go_sem] <;> rfl) ?_)
    refine Run.gcal (by simp only [go_sem] <;> rfl) (c_pairs_Int (dayOK a.start) (ds := [.pt (encAc a)]) (by simp only [go_sem]) a.bs (by omega) (fun b s _ _ => c_isAccount_2 a hst b s)) (by simp only [go_sem]) (by simp only [go_sem, ef1, ef2, hpa, hn, hz, acctB, Bool.true_and] <;> rfl) (by exact ⟨by first | exact WkR.pure rfl | exact WkR.nil _ | exact WkR.int (by first | omega | (simp; done) | (simp; omega)), by first | exact WkR.pure rfl | exact WkR.nil _ | exact WkR.int (by first | omega | (simp; done) | (simp; omega)), trivial⟩) (by simp only [go_sem, ef1, ef2, hpa, hn, hz, acctB, Bool.true_and] <;> rfl) ?_
    iterate 2 (refine Run.o1 (by simp only [go_sem, ef1, ef2, hpa, hn, hz, acctB, Bool.true_and] <;> rfl) ?_)
    iterate 3 (refine Run.gop (by simp only [go_sem] <;> rfl) (by simp only [go_sem, ef1, ef2, hpa, hn, hz, acctB, Bool.true_and] <;> rfl) (by simp only [go_sem] <;> rfl) ?_)
    refine Run.gcal (by simp only [go_sem] <;> rfl) (c_pairs_Nt (fun _ n => noteOK a.start n) (ds := [.pt (encAc a)]) (by simp only [go_sem]) a.ns (by omega) (fun b s _ _ => c_isAccount_3 a hst b s)) (by simp only [go_sem]) (by simp only [go_sem, ef1, ef2, hpa, hn, hz, acctB, Bool.true_and] <;> rfl) (by exact ⟨by first | exact WkR.pure rfl | exact WkR.nil _ | exact WkR.int (by first | omega | (simp; done) | (simp; omega)), by first | exact WkR.pure rfl | exact WkR.nil _ | exact WkR.int (by first | omega | (simp; done) | (simp; omega)), trivial⟩) (by simp only [go_sem, ef1, ef2, hpa, hn, hz, acctB, Bool.true_and] <;> rfl) ?_
    iterate 2 (refine Run.o1 (by simp only [go_sem, ef1, ef2, hpa, hn, hz, acctB, Bool.true_and] <;> rfl) ?_)
    iterate 3 (refine Run.gop (by simp only [go_sem] <;> rfl) (by simp only [go_sem, ef1, ef2, hpa, hn, hz, acctB, Bool.true_and] <;> rfl) (by simp only [go_sem] <;> rfl) ?_)
    refine Run.gcal (by simp only [go_sem] <;> rfl) (c_pairs_Dp (dspOK a.start) (ds := [.pt (encAc a)]) (by simp only [go_sem]) a.ds (by omega) (fun b s _ _ => c_isAccount_4 a hst b s)) (by simp only [go_sem]) (by simp only [go_sem, ef1, ef2, hpa, hn, hz, acctB, Bool.true_and] <;> rfl) (by exact ⟨by first | exact WkR.pure rfl | exact WkR.nil _ | exact WkR.int (by first | omega | (simp; done) | (simp; omega)), by first | exact WkR.pure rfl | exact WkR.nil _ | exact WkR.int (by first | omega | (simp; done) | (simp; omega)), trivial⟩) (by simp only [go_sem, ef1, ef2, hpa, hn, hz, acctB, Bool.true_and] <;> rfl) ?_
    iterate 2 (refine Run.o1 (by simp only [go_sem, ef1, ef2, hpa, hn, hz, acctB, Bool.true_and] <;> rfl) ?_)
    refine Run.nil ?_
    exact Ends.fin [] (rs := [.tmp 2]) rfl (by simp only [go_sem, ef1, ef2, hpa, hn, hz, acctB, Bool.true_and] <;> rfl) (by simp only [go_sem, ef1, ef2, hpa, hn, hz, acctB, Bool.true_and] <;> first | rfl | exact eqz)
  · skip
    have hns : (numsB a && sizesB a) = false := by simpa using hns
    refine Exec.reg ?_
    refine Run.frz 1 (by simp only [go_sem] <;> rfl) ?_
    refine Run.frz 9 (by simp only [go_sem] <;> rfl) ?_
    refine Run.frz 10 (by simp only [go_sem] <;> rfl) ?_
    refine Run.frz 11 (by simp only [go_sem] <;> rfl) ?_
    iterate 2 (refine Run.o1 (by simp only [go_sem, ef1, ef2, hpa, hns, acctB, Bool.false_and] <;> rfl) ?_)
    refine Run.gop (by simp only [go_sem] <;> rfl) (by simp only [go_sem, ef1, ef2, hpa, hns, acctB, Bool.false_and] <;> rfl) (by simp only [go_sem] <;> rfl) ?_
    iterate 2 (refine Run.o1 (by simp only [go_sem, ef1, ef2, hpa, hns, acctB, Bool.false_and] <;> rfl) ?_)
    iterate 4 (refine Run.s ?_)
    iterate 2 (refine Run.o1 (by simp only [go_sem, ef1, ef2, hpa, hns, acctB, Bool.false_and] <;> rfl) ?_)
    iterate 4 (refine Run.s ?_)
    iterate 2 (refine Run.o1 (by simp only [go_sem, ef1, ef2, hpa, hns, acctB, Bool.false_and] <;> rfl) ?_)
    iterate 4 (refine Run.s ?_)
    iterate 2 (refine Run.o1 (by simp only [go_sem, ef1, ef2, hpa, hns, acctB, Bool.false_and] <;> rfl) ?_)
    iterate 4 (refine Run.s ?_)
    iterate 2 (refine Run.o1 (by simp only [go_sem, ef1, ef2, hpa, hns, acctB, Bool.false_and] <;> rfl) ?_)
    refine Run.nil ?_
    exact Ends.fin [] (rs := [.tmp 2]) rfl (by simp only [go_sem, ef1, ef2, hpa, hns, acctB, Bool.false_and] <;> rfl) (by simp only [go_sem, ef1, ef2, hpa, hns, acctB, Bool.false_and] <;> first | rfl | exact eqz)

end Go.Mw

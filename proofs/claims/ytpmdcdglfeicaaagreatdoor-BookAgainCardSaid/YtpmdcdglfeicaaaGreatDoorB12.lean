/- A function that recovers what was refused; no condition but those in each. -/
import Derived.Test.YtpmdcdglfeicaaaGreatDoorD1
import Derived.Test.YtpmdcdglfeicaaaGreatDoorB8
import Derived.Test.YtpmdcdglfeicaaaGreatDoorB6
import Derived.WalkKit
import Derived.Defers
import Derived.Recover
import Derived.Test.YtpmdcdglfeicaaaGreatDoorB4
import Derived.Test.YtpmdcdglfeicaaaGreatDoorB11
import Derived.Test.YtpmdcdglfeicaaaGreatDoorB9
set_option maxHeartbeats 8000000
set_option maxRecDepth 20000
set_option linter.unusedSimpArgs false
set_option linter.unusedVariables false
set_option linter.unusedSectionVars false
set_option linter.deprecated false
namespace Go.Mw
open Go.Proofs Go.RowKit
theorem tmps18_105 (a b v : Value) : #[a, b] ++ (((Array.replicate 16 undef).setIfInBounds 3 v).setIfInBounds 0 v) = #[a, b, v, undef, undef, v, undef, undef, undef, undef, undef, undef, undef, undef, undef, undef, undef, undef] := by kernel_rfl
theorem idle105 (p q : Addr) (w : World) : CallsD Tryz.prog 105 #[.pointer (some p), .pointer (some q)] .returning w fun e u' w' => e = .returned (.tuple #[]) ∧ u' = .returning ∧ w' = w := by
 refine callsD_of_wpS Tryz.func105 rfl fun c₀ cs hu => ?_
 apply wpS_seq
 apply wpS_region
 simp [wpOpsS, go_sem, recoverD, hu, Tryz.ntmps105, Exit.thenS]
 rw [tmps18_105]
 refine wpS_of_wp ?_
 have hnil : ∀ w : World, (binOp BinOp.neq 20 .nilIface .nilIface).run Tryz.prog w = .ok (.bool false) w := fun _ => by kernel_rfl
 have heg : ∀ w : World, (eqGuard BinOp.neq 20 (Operand.tmp 6) (Operand.const .nilIface) .nilIface .nilIface).run Tryz.prog w = .ok () w := fun _ => by kernel_rfl
 go_wp2
 cases c₀
 simp_all [bodyPostS, results, Tryz.results105, Exit.thenS]
theorem wrong105 (p q : Nat) (w : World) {cp cq : Value} {tp tq : TypeId} (hp : w.heap[p]? = some (.cells #[cp] tp (0, 0))) (hq : w.heap[q]? = some (.cells #[cq] tq (0, 0))) (hpq : p ≠ q) :
  CallsD Tryz.prog 105 #[.pointer (some ⟨p, 0, none⟩), .pointer (some ⟨q, 0, none⟩)] (.panicking [{ v := pvE, recovered := false }]) w fun e u' w' => e = .returned (.tuple #[]) ∧ u' = .panicking [{ v := pvE, recovered := true }] ∧
   w' = (((w.setCell ⟨p, 0, none⟩ (.slice none 0 0)).setCell ⟨q, 0, none⟩ (.int .i64 8)).alloc (.cells #[.int .i64 8] 172)).drew := by
 have mixed := mixedT
 refine callsD_of_wpS Tryz.func105 rfl fun c₀ cs hu => ?_
 apply wpS_seq
 apply wpS_region
 simp [wpOpsS, go_sem, recoverD, hu, Tryz.ntmps105, Exit.thenS]
 rw [tmps18_105]
 refine wpS_of_wp ?_
 have hnil : ∀ w : World, (binOp BinOp.neq 20 pvE .nilIface).run Tryz.prog w = .ok (.bool true) w := fun _ => by kernel_rfl
 have hta : ∀ w : World, (Instr.typeAssert pvE 20 172 true).run Tryz.prog w = .ok (.tuple #[.agg #[.int .i64 8], .bool true]) w := fun _ => by kernel_rfl
 have heg : ∀ w : World, (eqGuard BinOp.neq 20 (Operand.tmp 6) (Operand.const .nilIface) pvE .nilIface).run Tryz.prog w = .ok () w := fun _ => by kernel_rfl
 generalize hv : pvE = v at hnil hta heg ⊢
 have hlp := (Array.getElem?_eq_some_iff.1 hp).1
 have hlq := (Array.getElem?_eq_some_iff.1 hq).1
 have hpa : ∀ o, (w.alloc o).drew.heap[p]? = some (.cells #[cp] tp (0, 0)) := fun o => (Below.heap_alloc w o p hlp).trans hp
 have hqa : ∀ o, (w.alloc o).drew.heap[q]? = some (.cells #[cq] tq (0, 0)) := fun o => (Below.heap_alloc w o q hlq).trans hq
 have hna : ∀ o, (w.alloc o).drew.heap[w.heap.size]? = some o := fun o => heap_alloc_new w o
 have cpa : ∀ o, (w.alloc o).drew.cell? ⟨p, 0, none⟩ = some cp := fun o => by rw [Lib.cell_of_heap (hpa o)]; rfl
 have cqa : ∀ o, (w.alloc o).drew.cell? ⟨q, 0, none⟩ = some cq := fun o => by rw [Lib.cell_of_heap (hqa o)]; rfl
 have cna : (w.alloc (.cells #[.int .i64 8] 172)).drew.cell? ⟨w.heap.size, 0, none⟩ = some (.int .i64 8) := by rw [Lib.cell_of_heap (hna _)]; rfl
 have fpa : ∀ o, (w.alloc o).drew.frozen? ⟨p, 0, none⟩ = false := fun o => Lib.frozen_of_heap (hpa o) _
 have fqa : ∀ o, (w.alloc o).drew.frozen? ⟨q, 0, none⟩ = false := fun o => Lib.frozen_of_heap (hqa o) _
 have cp0 : w.cell? ⟨p, 0, none⟩ = some cp := by rw [Lib.cell_of_heap hp]; rfl
 have cq0 : w.cell? ⟨q, 0, none⟩ = some cq := by rw [Lib.cell_of_heap hq]; rfl
 have fp0 : w.frozen? ⟨p, 0, none⟩ = false := Lib.frozen_of_heap hp _
 have fq0 : w.frozen? ⟨q, 0, none⟩ = false := Lib.frozen_of_heap hq _
 have hqp : q ≠ p := fun h => hpq h.symm
 go_wp2
 go_region
 exact ⟨rfl, _, rfl, _, results_none rfl _ _ _, rfl, rfl, rfl⟩
theorem read51_ok (x : Value) (w : World) (G : Value → World → Prop)
  (hf : Calls Tryz.prog 52 #[x] ((w.alloc (.cells #[.slice none 0 0] 28)).alloc (.cells #[.int .i64 0] 35)) fun e w' => ∃ p n c, e = .returned (.slice p n c) ∧ G (.slice p n c) w' ∧
   w'.heap[w.heap.size]? = some (.cells #[.slice none 0 0] 28 (0, 0)) ∧ w'.heap[w.heap.size + 1]? = some (.cells #[.int .i64 0] 35 (0, 0))) :
  Calls Tryz.prog 51 #[.func (.func 52) #[] #[x]] w fun e w' => ∃ r w2, G r w2 ∧ e = .returned (.tuple #[r, .int .i64 0]) ∧ w' = (w2.setCell ⟨w.heap.size, 0, none⟩ r).setCell ⟨w.heap.size + 1, 0, none⟩ (.int .i64 0) := by
 have hmf : ∀ (fn : Fn) (first cap : Array Value) (w : World), (Instr.makeFunc fn first cap).run Tryz.prog w = .ok (.func fn first cap) w := fun _ _ _ _ => rfl
 go_enter_defers Tryz.func51, Tryz.ntmps51
 go_wp2_with (go_at_call 52; refine hf.mono ?_)
 rintro e w2 ⟨p, n, c, rfl, hG, h1, h2⟩
 have c1 : w2.cell? ⟨w.heap.size, 0, none⟩ = some (.slice none 0 0) := by rw [Lib.cell_of_heap h1]; rfl
 have c2 : w2.cell? ⟨w.heap.size + 1, 0, none⟩ = some (.int .i64 0) := by rw [Lib.cell_of_heap h2]; rfl
 have f1 : w2.frozen? ⟨w.heap.size, 0, none⟩ = false := Lib.frozen_of_heap h1 _
 have f2 : w2.frozen? ⟨w.heap.size + 1, 0, none⟩ = false := Lib.frozen_of_heap h2 _
 go_wp2
 have hne : w.heap.size ≠ w.heap.size + 1 := by omega
 have g1 : ((w2.setCell ⟨w.heap.size, 0, none⟩ (.slice p n c)).setCell ⟨w.heap.size + 1, 0, none⟩ (.int .i64 0)).heap[w.heap.size]? = some (.cells #[.slice p n c] 28 (0, 0)) :=
  (Below.heap_setCell _ ⟨w.heap.size + 1, 0, none⟩ _ _ hne).trans ((Lib.heap_setCell_same (i := 0) h1 (.slice p n c)).trans rfl)
 have g2 : ((w2.setCell ⟨w.heap.size, 0, none⟩ (.slice p n c)).setCell ⟨w.heap.size + 1, 0, none⟩ (.int .i64 0)).heap[w.heap.size + 1]? = some (.cells #[.int .i64 0] 35 (0, 0)) :=
  (Lib.heap_setCell_same (i := 0) ((Below.heap_setCell w2 ⟨w.heap.size, 0, none⟩ _ _ (fun h => hne h.symm)).trans h2) (.int .i64 0)).trans rfl
 have d1 : ((w2.setCell ⟨w.heap.size, 0, none⟩ (.slice p n c)).setCell ⟨w.heap.size + 1, 0, none⟩ (.int .i64 0)).cell? ⟨w.heap.size, 0, none⟩ = some (.slice p n c) := by rw [Lib.cell_of_heap g1]; rfl
 have d2 : ((w2.setCell ⟨w.heap.size, 0, none⟩ (.slice p n c)).setCell ⟨w.heap.size + 1, 0, none⟩ (.int .i64 0)).cell? ⟨w.heap.size + 1, 0, none⟩ = some (.int .i64 0) := by rw [Lib.cell_of_heap g2]; rfl
 refine leaves_cons (f := 105) (args := #[.pointer (some ⟨w.heap.size, 0, none⟩), .pointer (some ⟨w.heap.size + 1, 0, none⟩)]) (by simp) (by simp [go_sem]) ?_
 refine (idle105 ⟨w.heap.size, 0, none⟩ ⟨w.heap.size + 1, 0, none⟩ _).mono ?_
 rintro e u' w'' ⟨rfl, rfl, rfl⟩
 generalize hW : (w2.setCell ⟨w.heap.size, 0, none⟩ (.slice p n c)).setCell ⟨w.heap.size + 1, 0, none⟩ (.int .i64 0) = W at d1 d2 ⊢
 simp [Leaves, settle, results, Tryz.results51, go_sem, d1, d2]
 exact ⟨_, w2, hG, rfl, hW.symm⟩
theorem read51_pan (x : Value) (w : World) (G : World → Prop)
  (hf : Calls Tryz.prog 52 #[x] ((w.alloc (.cells #[.slice none 0 0] 28)).alloc (.cells #[.int .i64 0] 35)) fun e w' => e = .panicked (chain0 pvE) ∧ G w' ∧
   w'.heap[w.heap.size]? = some (.cells #[.slice none 0 0] 28 (0, 0)) ∧ w'.heap[w.heap.size + 1]? = some (.cells #[.int .i64 0] 35 (0, 0))) :
  Calls Tryz.prog 51 #[.func (.func 52) #[] #[x]] w fun e w' => ∃ w2, G w2 ∧ e = .returned (.tuple #[.slice none 0 0, .int .i64 8]) ∧ w' = (((w2.setCell ⟨w.heap.size, 0, none⟩ (.slice none 0 0)).setCell ⟨w.heap.size + 1, 0, none⟩ (.int .i64 8)).alloc (.cells #[.int .i64 8] 172)).drew := by
 have hmf : ∀ (fn : Fn) (first cap : Array Value) (w : World), (Instr.makeFunc fn first cap).run Tryz.prog w = .ok (.func fn first cap) w := fun _ _ _ _ => rfl
 go_enter_defers Tryz.func51, Tryz.ntmps51
 go_wp2_with (go_at_call 52; refine hf.mono ?_)
 rintro e w2 ⟨rfl, hG, h1, h2⟩
 go_wp2
 have hne : w.heap.size ≠ w.heap.size + 1 := by omega
 have hl2 := (Array.getElem?_eq_some_iff.1 h2).1
 have g1 : ((w2.setCell ⟨w.heap.size, 0, none⟩ (.slice none 0 0)).setCell ⟨w.heap.size + 1, 0, none⟩ (.int .i64 8)).heap[w.heap.size]? = some (.cells #[.slice none 0 0] 28 (0, 0)) :=
  (Below.heap_setCell _ ⟨w.heap.size + 1, 0, none⟩ _ _ hne).trans ((Lib.heap_setCell_same (i := 0) h1 (.slice none 0 0)).trans rfl)
 have g2 : ((w2.setCell ⟨w.heap.size, 0, none⟩ (.slice none 0 0)).setCell ⟨w.heap.size + 1, 0, none⟩ (.int .i64 8)).heap[w.heap.size + 1]? = some (.cells #[.int .i64 8] 35 (0, 0)) :=
  (Lib.heap_setCell_same (i := 0) ((Below.heap_setCell w2 ⟨w.heap.size, 0, none⟩ _ _ (fun h => hne h.symm)).trans h2) (.int .i64 8)).trans rfl
 have hs : ((w2.setCell ⟨w.heap.size, 0, none⟩ (.slice none 0 0)).setCell ⟨w.heap.size + 1, 0, none⟩ (.int .i64 8)).heap.size = w2.heap.size := by rw [sz_set, sz_set]
 refine leaves_cons (f := 105) (args := #[.pointer (some ⟨w.heap.size, 0, none⟩), .pointer (some ⟨w.heap.size + 1, 0, none⟩)]) (by simp) (by simp [go_sem]) ?_
 refine (wrong105 w.heap.size (w.heap.size + 1) w2 h1 h2 hne).mono ?_
 rintro e u' w'' ⟨rfl, rfl, rfl⟩
 generalize hW : (w2.setCell ⟨w.heap.size, 0, none⟩ (.slice none 0 0)).setCell ⟨w.heap.size + 1, 0, none⟩ (.int .i64 8) = W at g1 g2 hs ⊢
 have k1 : (W.alloc (.cells #[.int .i64 8] 172)).drew.heap[w.heap.size]? = some (.cells #[.slice none 0 0] 28 (0, 0)) := (Below.heap_alloc W _ _ (by omega)).trans g1
 have k2 : (W.alloc (.cells #[.int .i64 8] 172)).drew.heap[w.heap.size + 1]? = some (.cells #[.int .i64 8] 35 (0, 0)) := (Below.heap_alloc W _ _ (by omega)).trans g2
 have d1 : (W.alloc (.cells #[.int .i64 8] 172)).drew.cell? ⟨w.heap.size, 0, none⟩ = some (.slice none 0 0) := by rw [Lib.cell_of_heap k1]; rfl
 have d2 : (W.alloc (.cells #[.int .i64 8] 172)).drew.cell? ⟨w.heap.size + 1, 0, none⟩ = some (.int .i64 8) := by rw [Lib.cell_of_heap k2]; rfl
 generalize hV : (W.alloc (.cells #[.int .i64 8] 172)).drew = V at d1 d2 ⊢
 simp [Leaves, settle, results, Tryz.results51, go_sem, d1, d2]
 trace_state
 exact ⟨w2, hG, by rw [hW, hV]⟩
end Go.Mw
namespace Go.Mw
open Go.Proofs
open Go.Bk
theorem readOk51 : ReadOk Tryz.prog 51 52 28 35 := fun x w G h => read51_ok x w G h
theorem readPan51 : ReadPan Tryz.prog 51 52 pvE 28 35 172 := fun x w G h => read51_pan x w G h
def rgE (r : Option (List Pg)) : AV := match r with
 | some l => .tup [(false, [.d (pgsD l)]), (false, [.d (.i 0)])]
 | none => .tup [(false, [.d (pgsD [])]), (false, [.d (.i 8)])]
theorem c_read51 (b : Bs) (hb : b.length ≤ 1000000000) : Contract Tryz.prog 51 [.leaf (.d (.fn 52 [.pt [.raw (.string (bs b))]]))] (rgE (parseG b)) [] := by
 cases h : parseG b with
 | some l => exact con_readOk readOk51 (fun _ _ _ h => sl_slice h) (c_rdPg hb h)
 | none => exact con_readPan readPan51 (fun _ _ => RepD.nil _ _ _) (p_rdPg hb h)
theorem c_ReadPages (b : Bs) (hb : b.length ≤ 1000000000) : Contract Tryz.prog 18 [.str b] (rgE (parseG b)) [] := by
 have hcr := c_read51 b hb
 generalize parseG b = q at hcr ⊢
 rcases q with _ | l
 ·skip
  dsimp only [rgE] at hcr ⊢
  refine con_of follows_mixed Tryz.func18 rfl (by simp only [List.length_cons, List.length_nil, Tryz.ntmps18]; omega) V169 rfl ?_
  refine Exec.reg ?_
  iterate 3 (refine Run.o ?_)
  refine Run.nil (Exec.reg ?_)
  refine Run.frz 1 V162 ?_
  refine Run.o ?_
  refine Run.frz 4 V162 ?_
  refine Run.c1 (hcr) V162 V162 ?_
  iterate 4 (refine Run.o ?_)
  refine Run.nil ?_
  exact Ends.fin [] (rs := [.tmp 2, .tmp 3]) rfl V162 V137
 ·skip
  dsimp only [rgE] at hcr ⊢
  refine con_of follows_mixed Tryz.func18 rfl (by simp only [List.length_cons, List.length_nil, Tryz.ntmps18]; omega) V169 rfl ?_
  refine Exec.reg ?_
  iterate 3 (refine Run.o ?_)
  refine Run.nil (Exec.reg ?_)
  refine Run.frz 1 V162 ?_
  refine Run.o ?_
  refine Run.frz 4 V162 ?_
  refine Run.c1 (hcr) V162 V162 ?_
  iterate 4 (refine Run.o ?_)
  refine Run.nil ?_
  exact Ends.fin [] (rs := [.tmp 2, .tmp 3]) rfl V162 V137
end Go.Mw
namespace Go.Mw
open Go.Proofs
open Go.Bk
attribute [local go_sem] decide_true beq_self_eq_true bne_self_eq_false
end Go.Mw

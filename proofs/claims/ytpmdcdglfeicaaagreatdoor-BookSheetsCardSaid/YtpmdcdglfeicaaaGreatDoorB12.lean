/- Three strings against three strings; no condition but those in each. -/
import Derived.Test.YtpmdcdglfeicaaaGreatDoorD1
import Derived.Test.YtpmdcdglfeicaaaGreatDoorB4
import Derived.Laws.StructEq
import Derived.ChangeKeysEq
import Derived.Test.YtpmdcdglfeicaaaGreatDoorB11
import Derived.Test.YtpmdcdglfeicaaaGreatDoorB8
import Derived.Test.YtpmdcdglfeicaaaGreatDoorB6
import Derived.WalkKit
import Derived.Defers
import Derived.Recover
import Derived.Test.YtpmdcdglfeicaaaGreatDoorB9
set_option linter.unusedSimpArgs false
set_option linter.unusedVariables false
set_option linter.unusedSectionVars false
set_option linter.deprecated false
namespace Go.Mw
open Go.RowKit
section eq
variable {P : Program} {A : ASt} {d : Nat} {x y : Operand} {ty : TypeId} {pos : String} {af : Array Edge} {g : Option (Nat × Bool)} {t e tz : TypeId}
theorem all3 {S : Settled} {ι : Nat → Value} {H : Nat → Option AO} {w : World} {a b c : List UInt8} {v : Value} (h : RepV S ι H w (.val true [.d (.raw (.string (bs a))), .d (.raw (.string (bs b))), .d (.raw (.string (bs c)))]) v) :
  v = .agg #[.string (bs a), .string (bs b), .string (bs c)] := by
 obtain ⟨vs, rfl, h⟩ := h
 have hl := h.length
 obtain ⟨v0, e0, h0⟩ := h.get' (i := 0) rfl
 obtain ⟨v1, e1, h1⟩ := h.get' (i := 1) rfl
 obtain ⟨v2, e2, h2⟩ := h.get' (i := 2) rfl
 rw [raw_eq h0] at e0
 rw [raw_eq h1] at e1
 rw [raw_eq h2] at e2
 match vs, hl, e0, e1, e2 with
 | [x0, x1, x2], _, e0, e1, e2 =>
  simp at e0 e1 e2
  rw [e0, e1, e2]
theorem exec_eq {a : Act} {w : World} {xs ys : Array Value} {b : Bool} (ex : a.eval x = .agg xs) (ey : a.eval y = .agg ys) (hg : P.eqGuardType P.depth t = false) (h : (Op.equalIn 10000 t (.agg xs) (.agg ys)).run P w = .ok b w) :
  (execOp a.eval ⟨some d, .binOp .eql t x y tz, ty, pos, af, g⟩).run P w = .ok (.value (.bool b)) w := by
 simp [execOp, ex, ey, run_eqGuard_agg w _ _ _ _ _ _ hg, run_eql_struct, h]
theorem semV_eq3 (hu : P.underlying t = some (.array 3 e)) (he : P.underlying e = some .string) {i : TypeInfo} (hi : P.info? e = some i) (hc : P.cellsOf e = 1) (hg : P.eqGuardType P.depth t = false) {a b c a' b' c' : List UInt8}
  (hx : A.ev x = .val true [.d (.raw (.string (bs a))), .d (.raw (.string (bs b))), .d (.raw (.string (bs c)))])
  (hy : A.ev y = .val true [.d (.raw (.string (bs a'))), .d (.raw (.string (bs b'))), .d (.raw (.string (bs c')))]) :
  SemV P ⟨some d, .binOp .eql t x y tz, ty, pos, af, g⟩ A (.bool (a == a' && (b == b' && c == c'))) := by
 intro C S M ι act w hR
 have hvx := rep_ev hR x
 have hvy := rep_ev hR y
 rw [hx] at hvx
 rw [hy] at hvy
 have ex := all3 hvx
 have ey := all3 hvy
 have hag : tyAg P e = some false := by simp [tyAg, he]
 have heq : ∀ n w, (Op.equalIn (n + 2) t (.agg #[.string (bs a), .string (bs b), .string (bs c)]) (.agg #[.string (bs a'), .string (bs b'), .string (bs c')])).run P w = .ok (a == a' && (b == b' && c == c')) w := fun n w => by
  have p (cs : Array Value) (i : Nat) (v : Value) (h : cs[i]? = some v) := run_part_leaf (P := P) (w := w) hag h
  have q (u v : List UInt8) := run_equalIn_string (P := P) w n e (bs u) (bs v) he
  simp only [bs_list] at q
  rw [run_equalIn_array w (n + 1) _ _ hu hi, hc, show List.range 3 = [0, 1, 2] from rfl]
  have p0 := p #[.string (bs a), .string (bs b), .string (bs c)] 0 (.string (bs a)) rfl
  have r0 := p #[.string (bs a'), .string (bs b'), .string (bs c')] 0 (.string (bs a')) rfl
  have p1 := p #[.string (bs a), .string (bs b), .string (bs c)] 1 (.string (bs b)) rfl
  have r1 := p #[.string (bs a'), .string (bs b'), .string (bs c')] 1 (.string (bs b')) rfl
  have p2 := p #[.string (bs a), .string (bs b), .string (bs c)] 2 (.string (bs c)) rfl
  have r2 := p #[.string (bs a'), .string (bs b'), .string (bs c')] 2 (.string (bs c')) rfl
  simp only [Bool.not_true, Bool.false_eq_true, if_false, Op.eqItems, Sem.run_bind, Nat.mul_one, p0, p1, p2, r0, r1, r2, Result.andThen_ok, q]
  cases (a == a')
  ·rfl
  simp only [Bool.not_true, Bool.false_eq_true, if_false, Op.eqItems, Sem.run_bind, Nat.mul_one, p0, p1, p2, r0, r1, r2, Result.andThen_ok, q]
  cases (b == b')
  ·rfl
  simp only [Bool.not_true, Bool.false_eq_true, if_false, Op.eqItems, Sem.run_bind, Nat.mul_one, p0, p1, p2, r0, r1, r2, Result.andThen_ok, q]
  cases (c == c') <;> rfl
 refine ⟨.bool (a == a' && (b == b' && c == c')), ?_, ⟨_, rfl, RepD.raw _ rfl⟩⟩
 exact exec_eq ex ey hg (heq 9998 w)
end eq
end Go.Mw
namespace Go.Mw
open Go.Proofs
open Go.Bk
attribute [local go_sem] decide_true beq_self_eq_true bne_self_eq_false
theorem c_dw (s : Bs) (c : UInt8) (hc : c.toNat < 128) : Contract Tryz.prog 136 [.str s, .str [c]] (.str (dw c s)) [] := c_TrimLeft s c hc
theorem dw_len (c : UInt8) (s : Bs) : (dw c s).length ≤ s.length := by
 unfold dw Lib.trimLeftB
 exact (List.dropWhile_sublist _).length_le
abbrev vp (s : Bs) : Nat := valD (dw 32 s)
set_option maxRecDepth 20000 in
theorem p_mt0 (h : Bs) (hl : h.length ≤ 1000000000) (h7 : h.length ≠ 7) : Pan Tryz.prog pvE 92 [.str h] [] := by
 have d7 : ((h.length : Int) == 7) = false := beq_eq_false_iff_ne.2 (by omega)
 refine pan_of follows_mixed Tryz.func92 rfl V100 V162 rfl ?_
 refine Exec.reg ?_
 have X := Fx.mk d7
 refine Run.o1 V152 ?_
 refine Run.nil ?_
 refine Exec.pan (pv := pvE) 3 rfl ?_
 iterate 3 (refine Run.o1 V152 ?_)
 exact Run.panc (p_need false rfl) V158 V152 V66 rfl

set_option maxRecDepth 20000 in
theorem p_mt1 (h : Bs) (h7 : h.length = 7) (hf : figOK (dw 48 (h.drop 1)) = false) : Pan Tryz.prog pvE 92 [.str h] [] := by
 have d7 : ((h.length : Int) == 7) = true := by rw [h7]; rfl
 have hdl : (h.drop 1).length = 6 := by rw [List.length_drop]; omega
 have hwl := dw_len 48 (h.drop 1)
 refine pan_of follows_mixed Tryz.func92 rfl V100 V162 rfl ?_
 refine Exec.reg ?_
 have X := Fx.mk d7
 refine Run.o1 V133 ?_
 refine Run.nil (Exec.reg ?_)
 iterate 3 (refine Run.o1 V133 ?_)
 refine Run.c1 (c_need true rfl) V133 V133 ?_
 refine Run.nil ?_
 refine Exec.pan (pv := pvE) 3 rfl ?_
 refine Run.o1 V133 ?_
 refine Run.o1 V65 ?_
 refine Run.c1 (c_dw (h.drop 1) 48 (by decide)) V133 V133 ?_
 exact Run.panc (p_fig hf (by omega)) V158 V133 V66 rfl

set_option maxRecDepth 20000 in
theorem p_mt2 (h : Bs) (h7 : h.length = 7) (hf : figOK (dw 48 (h.drop 1)) = true) (hp : pad 48 6 (txt (valD (dw 48 (h.drop 1)))) ≠ h.drop 1) : Pan Tryz.prog pvE 92 [.str h] [] := by
 have d7 : ((h.length : Int) == 7) = true := by rw [h7]; rfl
 have hdl : (h.drop 1).length = 6 := by rw [List.length_drop]; omega
 have hwl := dw_len 48 (h.drop 1)
 have hfb := (fig_bnd hf)
 have dp := bs_ne hp
 refine pan_of follows_mixed Tryz.func92 rfl V100 V162 rfl ?_
 refine Exec.reg ?_
 have X := (Fx.mk d7).a dp
 refine Run.o1 V133 ?_
 refine Run.nil (Exec.reg ?_)
 iterate 3 (refine Run.o1 V133 ?_)
 refine Run.c1 (c_need true rfl) V133 V133 ?_
 refine Run.nil (Exec.reg ?_)
 refine Run.o1 V133 ?_
 refine Run.o1 V65 ?_
 refine Run.c1 (c_dw (h.drop 1) 48 (by decide)) V133 V133 ?_
 refine Run.c1 (c_fig (dw 48 (h.drop 1)) hf) V133 V133 ?_
 refine Run.o1 V133 ?_
 refine Run.nil ?_
 refine Exec.opp (pv := pvE) 8 5 [0, 1, 2, 3, 4] rfl V160 ?_
 refine OpenK.o1 V133 ?_
 refine OpenK.cal (c_wide (valD (dw 48 (h.drop 1))) 6 48 (by omega) (by omega)) V158 V133 V19 (fr0) V133 V156 V156 ?_
 refine OpenK.o1 V133 ?_
 refine OpenK.o1 V65 ?_
 refine OpenK.o1 V133 ?_
 exact OpenK.pang [] 0 (p_need false rfl) V158 V156 V156 V70 (fun q x h => by simp [look] at h) (fun q q' n h => by simp [look] at h) V160 V160 rfl

set_option maxRecDepth 20000 in
theorem c_mt (h : Bs) (h7 : h.length = 7) (hf : figOK (dw 48 (h.drop 1)) = true) (hp : pad 48 6 (txt (valD (dw 48 (h.drop 1)))) = h.drop 1) : Contract Tryz.prog 92 [.str h] (.int (valD (dw 48 (h.drop 1)))) [] := by
 have d7 : ((h.length : Int) == 7) = true := by rw [h7]; rfl
 have hdl : (h.drop 1).length = 6 := by rw [List.length_drop]; omega
 have hwl := dw_len 48 (h.drop 1)
 have hfb := (fig_bnd hf)
 have dp : (pad 48 6 (txt (valD (dw 48 (h.drop 1)))) == h.drop 1) = true := beq_iff_eq.2 hp
 refine con_of follows_mixed Tryz.func92 rfl V100 V162 rfl ?_
 refine Exec.reg ?_
 have X := (Fx.mk d7).a dp
 refine Run.o1 V133 ?_
 refine Run.nil (Exec.reg ?_)
 iterate 3 (refine Run.o1 V133 ?_)
 refine Run.c1 (c_need true rfl) V133 V133 ?_
 refine Run.nil (Exec.reg ?_)
 refine Run.o1 V133 ?_
 refine Run.o1 V65 ?_
 refine Run.c1 (c_dw (h.drop 1) 48 (by decide)) V133 V133 ?_
 refine Run.c1 (c_fig (dw 48 (h.drop 1)) hf) V133 V133 ?_
 refine Run.o1 V133 ?_
 refine Run.nil ?_
 refine Exec.opk 8 ?_
 refine OpenK.o1 V133 ?_
 refine OpenK.cal (c_wide (valD (dw 48 (h.drop 1))) 6 48 (by omega) (by omega)) V158 V133 V19 (fr0) V133 V156 V156 ?_
 refine OpenK.o1 V133 ?_
 refine OpenK.o1 V65 ?_
 refine OpenK.o1 V133 ?_
 refine OpenK.cal (c_need true rfl) V158 V133 V66 (fr0) V133 V156 V156 ?_
 refine OpenK.nil (OpenE.fin V160 V160 ?_)
 refine Exec.reg ?_
 iterate 2 (refine Run.o1 V133 ?_)
 refine Run.nil ?_
 exact Ends.fin [] (rs := [.tmp 2]) rfl V133 (by simp only [go_sem, X.h, Int.toNat_one] <;> first | rfl | exact eqz)

theorem c_meter {h : Bs} {m : Int} (hm : meterP h = some m) : Contract Tryz.prog 92 [.str h] (.int m) [] := by
 unfold meterP at hm
 split at hm
 ·next hc =>
  simp only [Option.some.injEq] at hm
  subst hm
  exact c_mt h hc.1 hc.2.1 hc.2.2
 ·cases hm
theorem p_meter {h : Bs} (hl : h.length ≤ 1000000000) (hm : meterP h = none) : Pan Tryz.prog pvE 92 [.str h] [] := by
 by_cases h7 : h.length = 7
 ·cases hf : figOK (dw 48 (h.drop 1)) with
  | false => exact p_mt1 h h7 hf
  | true =>
   refine p_mt2 h h7 hf fun hp => ?_
   unfold meterP at hm
   rw [if_pos ⟨h7, hf, hp⟩] at hm
   cases hm
 ·exact p_mt0 h hl h7
end Go.Mw
namespace Go.Mw
open Go.Proofs
open Go.Bk
attribute [local go_sem] decide_true beq_self_eq_true bne_self_eq_false
theorem cutA (s : Bs) : (s.take 14).drop 7 = (s.drop 7).take 7 := by rw [List.drop_take]
theorem cutB' (s : Bs) : (s.take 22).drop 15 = (s.drop 15).take 7 := by rw [List.drop_take]
def rv (b : Bool) (x : Bs) : AL := .d (.i ((bif b then vp x else 0 : Nat) : Int))
def from3 (k : Nat) : Int := if k = 0 then 0 else if k = 1 then 7 else if k = 2 then 15 else 23
@[go_sem] theorem rv_keep (b : Bool) (x : Bs) (os : List Nat) : AL.keep os (rv b x) = rv b x := rfl
theorem from3_0 : from3 0 = 0 := rfl
theorem from3_1 : from3 1 = 7 := rfl
theorem from3_2 : from3 2 = 15 := rfl
theorem from3_3 : from3 3 = 23 := rfl
abbrev trP (a b c : Bs) : Tr := ⟨vp a, vp b, vp c⟩
theorem trP_pos {a b c : Bs} (fa : figOK (dw 32 a) = true) (fb : figOK (dw 32 b) = true) (fc : figOK (dw 32 c) = true) : pos (trP a b c) := by
 have := fig_bnd fa
 have := fig_bnd fb
 have := fig_bnd fc
 unfold pos trP vp; simp only; omega
set_option maxRecDepth 20000 in
theorem p_tr0a (h : Bs) (hl : h.length ≤ 1000000000) (h22 : h.length ≠ 22) : Pan Tryz.prog pvE 93 [.str h] [] := by
 have d22 : ((h.length : Int) == 22) = false := beq_eq_false_iff_ne.2 (by omega)
 refine pan_of follows_mixed Tryz.func93 rfl V101 V162 rfl ?_
 refine Exec.reg ?_
 have X := Fx.mk d22
 refine Run.o1 V152 ?_
 refine Run.nil (Exec.reg ?_)
 refine Run.o1 V152 ?_
 refine Run.nil (Exec.reg ?_)
 refine Run.o1 V152 ?_
 refine Run.nil ?_
 refine Exec.pan (pv := pvE) 13 rfl ?_
 iterate 4 (refine Run.o1 V152 ?_)
 iterate 3 (refine Run.s ?_)
 iterate 2 (refine Run.o1 V152 ?_)
 iterate 3 (refine Run.s ?_)
 refine Run.o1 V152 ?_
 exact Run.panc (p_need false rfl) V158 V152 V66 rfl

set_option maxRecDepth 20000 in
theorem p_tr0b (h : Bs) (x : UInt8) (h22 : h.length = 22) (h6 : h[6]? = some x) (hx : x ≠ 32) : Pan Tryz.prog pvE 93 [.str h] [] := by
 have d22 : ((h.length : Int) == 22) = true := by rw [h22]; rfl
 have d6 : ((x.toNat : Int) == 32) = false := beq_eq_false_iff_ne.2 (fun e => hx (UInt8.toNat_inj.1 (by have : (32 : UInt8).toNat = 32 := rfl; omega)))
 have n6 : Int.toNat 6 = 6 := rfl
 have n7 : Int.toNat 7 = 7 := rfl
 have n14 : Int.toNat 14 = 14 := rfl
 have n15 : Int.toNat 15 = 15 := rfl
 have n22 : Int.toNat 22 = 22 := rfl
 have w1 : IntKind.i64.wrap 1 = 1 := rfl
 have w2 : IntKind.i64.wrap 2 = 2 := rfl
 have w3 : IntKind.i64.wrap 3 = 3 := rfl
 have w6 : IntKind.i64.wrap 6 = 6 := rfl
 have w7 : IntKind.i64.wrap 7 = 7 := rfl
 have w8 : IntKind.i64.wrap 8 = 8 := rfl
 have w14 : IntKind.i64.wrap 14 = 14 := rfl
 have w15 : IntKind.i64.wrap 15 = 15 := rfl
 have w22 : IntKind.i64.wrap 22 = 22 := rfl
 have w23 : IntKind.i64.wrap 23 = 23 := rfl
 refine pan_of follows_mixed Tryz.func93 rfl V101 V162 rfl ?_
 refine Exec.reg ?_
 have X := (((((((((((((((((Fx.mk d22).a d6).a h6).a n6).a n7).a n14).a n15).a n22).a w1).a w2).a w3).a w6).a w7).a w8).a w14).a w15).a w22).a w23
 refine Run.o1 V88 ?_
 refine Run.nil (Exec.reg ?_)
 refine Run.o1 V88 ?_
 refine Run.nil (Exec.reg ?_)
 refine Run.o1 V88 ?_
 refine Run.nil ?_
 refine Exec.pan (pv := pvE) 13 rfl ?_
 iterate 4 (refine Run.o1 V88 ?_)
 iterate 3 (refine Run.y1 V88 ?_)
 iterate 2 (refine Run.o1 V88 ?_)
 iterate 3 (refine Run.s ?_)
 refine Run.o1 V88 ?_
 exact Run.panc (p_need false rfl) V158 V88 V66 rfl

set_option maxRecDepth 20000 in
theorem p_tr0c (h : Bs) (x : UInt8) (h22 : h.length = 22) (h6 : h[6]? = some 32) (h14 : h[14]? = some x) (hx : x ≠ 32) : Pan Tryz.prog pvE 93 [.str h] [] := by
 have d22 : ((h.length : Int) == 22) = true := by rw [h22]; rfl
 have d32 : (((32 : UInt8).toNat : Int) == 32) = true := rfl
 have d6 : ((x.toNat : Int) == 32) = false := beq_eq_false_iff_ne.2 (fun e => hx (UInt8.toNat_inj.1 (by have : (32 : UInt8).toNat = 32 := rfl; omega)))
 have n6 : Int.toNat 6 = 6 := rfl
 have n7 : Int.toNat 7 = 7 := rfl
 have n14 : Int.toNat 14 = 14 := rfl
 have n15 : Int.toNat 15 = 15 := rfl
 have n22 : Int.toNat 22 = 22 := rfl
 have w1 : IntKind.i64.wrap 1 = 1 := rfl
 have w2 : IntKind.i64.wrap 2 = 2 := rfl
 have w3 : IntKind.i64.wrap 3 = 3 := rfl
 have w6 : IntKind.i64.wrap 6 = 6 := rfl
 have w7 : IntKind.i64.wrap 7 = 7 := rfl
 have w8 : IntKind.i64.wrap 8 = 8 := rfl
 have w14 : IntKind.i64.wrap 14 = 14 := rfl
 have w15 : IntKind.i64.wrap 15 = 15 := rfl
 have w22 : IntKind.i64.wrap 22 = 22 := rfl
 have w23 : IntKind.i64.wrap 23 = 23 := rfl
 refine pan_of follows_mixed Tryz.func93 rfl V101 V162 rfl ?_
 refine Exec.reg ?_
 have X := (((((((((((((((((((Fx.mk d22).a d32).a d6).a h6).a h14).a n6).a n7).a n14).a n15).a n22).a w1).a w2).a w3).a w6).a w7).a w8).a w14).a w15).a w22).a w23
 refine Run.o1 V88 ?_
 refine Run.nil (Exec.reg ?_)
 refine Run.o1 V88 ?_
 refine Run.nil (Exec.reg ?_)
 refine Run.o1 V88 ?_
 refine Run.nil ?_
 refine Exec.pan (pv := pvE) 13 rfl ?_
 iterate 4 (refine Run.o1 V88 ?_)
 iterate 3 (refine Run.y1 V88 ?_)
 iterate 2 (refine Run.o1 V88 ?_)
 iterate 3 (refine Run.y1 V88 ?_)
 refine Run.o1 V88 ?_
 exact Run.panc (p_need false rfl) V158 V88 V66 rfl

set_option maxRecDepth 20000 in
set_option maxHeartbeats 4000000 in
theorem p_tr1a (h a b c : Bs) (h22 : h.length = 22) (h6 : h[6]? = some 32) (h14 : h[14]? = some 32) (ea : h.take 6 = a) (eb : (h.take 14).drop 7 = b) (ec : (h.take 22).drop 15 = c)  (fa : figOK (dw 32 a) = false) : Pan Tryz.prog pvE 93 [.str h] [] := by
 have d22 : ((h.length : Int) == 22) = true := by rw [h22]; rfl
 have d32 : (((32 : UInt8).toNat : Int) == 32) = true := rfl
 have la : a.length = 6 := by rw [← ea, List.length_take]; omega
 have lb : b.length = 7 := by rw [← eb, List.length_drop, List.length_take]; omega
 have lc : c.length = 7 := by rw [← ec, List.length_drop, List.length_take]; omega
 have wa := dw_len 32 a
 have wb := dw_len 32 b
 have wc := dw_len 32 c
 have n6 : Int.toNat 6 = 6 := rfl
 have n7 : Int.toNat 7 = 7 := rfl
 have n14 : Int.toNat 14 = 14 := rfl
 have n15 : Int.toNat 15 = 15 := rfl
 have n22 : Int.toNat 22 = 22 := rfl
 have w1 : IntKind.i64.wrap 1 = 1 := rfl
 have w2 : IntKind.i64.wrap 2 = 2 := rfl
 have w3 : IntKind.i64.wrap 3 = 3 := rfl
 have w6 : IntKind.i64.wrap 6 = 6 := rfl
 have w7 : IntKind.i64.wrap 7 = 7 := rfl
 have w8 : IntKind.i64.wrap 8 = 8 := rfl
 have w14 : IntKind.i64.wrap 14 = 14 := rfl
 have w15 : IntKind.i64.wrap 15 = 15 := rfl
 have w22 : IntKind.i64.wrap 22 = 22 := rfl
 have w23 : IntKind.i64.wrap 23 = 23 := rfl
 have f00 : Nat.blt 0 0 = false := rfl
 have f01 : Nat.blt 0 1 = true := rfl
 have f02 : Nat.blt 0 2 = true := rfl
 have f03 : Nat.blt 0 3 = true := rfl
 have f10 : Nat.blt 1 0 = false := rfl
 have f11 : Nat.blt 1 1 = false := rfl
 have f12 : Nat.blt 1 2 = true := rfl
 have f13 : Nat.blt 1 3 = true := rfl
 have f20 : Nat.blt 2 0 = false := rfl
 have f21 : Nat.blt 2 1 = false := rfl
 have f22 : Nat.blt 2 2 = false := rfl
 have f23 : Nat.blt 2 3 = true := rfl
 refine pan_of follows_mixed Tryz.func93 rfl V101 V162 rfl ?_
 refine Exec.reg ?_
 have X := (((((((((((((((((((((((((((((((((Fx.mk f00).a f01).a f02).a f03).a f10).a f11).a f12).a f13).a f20).a f21).a f22).a f23).a d22).a d32).a h6).a h14).a ea).a eb).a ec).a n6).a n7).a n14).a n15).a n22).a w1).a w2).a w3).a w6).a w7).a w8).a w14).a w15).a w22).a w23
 refine Run.o1 V58 ?_
 refine Run.nil (Exec.reg ?_)
 refine Run.o1 V58 ?_
 refine Run.nil (Exec.reg ?_)
 refine Run.o1 V58 ?_
 refine Run.nil (Exec.reg ?_)
 iterate 4 (refine Run.o1 V58 ?_)
 iterate 3 (refine Run.y1 V58 ?_)
 iterate 2 (refine Run.o1 V58 ?_)
 iterate 3 (refine Run.y1 V58 ?_)
 refine Run.o1 V58 ?_
 refine Run.c1 (c_need true rfl) V58 V58 ?_
 refine Run.nil (Exec.reg ?_)
 refine Run.o1 V58 ?_
 refine Run.nil (Exec.assocS (Exec.reg ?_))
 refine Run.c1 (c_columns) V58 V58 ?_
 refine Run.o1 V58 ?_
 refine Run.nil (Exec.blk ?_)
 refine Exec.forA [0, 2, 3, 4, 5, 23, 24] [2, 3, 4] (0) (fun k => [.slot 24 (.int k), .slot 5 (.int (from3 k)), .obj 3 (.cells [rk (Nat.blt 0 k) a, rk (Nat.blt 1 k) b, rk (Nat.blt 2 k) c]), .obj 4 (.cells [rv (Nat.blt 0 k) a, rv (Nat.blt 1 k) b, rv (Nat.blt 2 k) c])]) (fun _ => True) (fun k => by simp only [go_sem] <;> rfl) V49 ?_ (fun k hk hX => ?_)
 ·trivial
 ·skip
  have h0 : k = 0 := by omega
  subst h0
  have cz : ((0 : Nat) : Int) = 0 := rfl
  have ca : ((0 + 1 : Nat) : Int) = 1 := rfl
  refine Exec.reg ?_
  have X := (X.a cz).a ca
  refine Run.o1 V58 ?_
  refine Run.nil ?_
  refine Exec.cndS V58 (fun hb25 => ?_) (fun hb25 => ?_)
  ·skip
   refine Exec.skipS (Exec.blk (Exec.reg ?_))
   iterate 4 (refine Run.o1 V58 ?_)
   refine Run.nil (Exec.reg ?_)
   iterate 5 (refine Run.o1 V58 ?_)
   refine Run.o1 V23 ?_
   iterate 2 (refine Run.o1 V20 ?_)
   refine Run.o1 V58 ?_
   refine Run.nil ?_
   refine Exec.pan (pv := pvE) 5 rfl ?_
   iterate 2 (refine Run.o1 V58 ?_)
   refine Run.o1 V20 ?_
   refine Run.o1 V58 ?_
   refine Run.c1 (c_dw a 32 (by decide)) V58 V58 ?_
   exact Run.panc (p_fig fa (by omega)) V158 V58 V66 rfl
  ·exact absurd hb25 (by simp)

set_option maxRecDepth 20000 in
set_option maxHeartbeats 4000000 in
theorem p_tr1b (h a b c : Bs) (h22 : h.length = 22) (h6 : h[6]? = some 32) (h14 : h[14]? = some 32) (ea : h.take 6 = a) (eb : (h.take 14).drop 7 = b) (ec : (h.take 22).drop 15 = c) (fa : figOK (dw 32 a) = true) (fb : figOK (dw 32 b) = false) : Pan Tryz.prog pvE 93 [.str h] [] := by
 have hfa := fig_bnd fa
 have d22 : ((h.length : Int) == 22) = true := by rw [h22]; rfl
 have d32 : (((32 : UInt8).toNat : Int) == 32) = true := rfl
 have la : a.length = 6 := by rw [← ea, List.length_take]; omega
 have lb : b.length = 7 := by rw [← eb, List.length_drop, List.length_take]; omega
 have lc : c.length = 7 := by rw [← ec, List.length_drop, List.length_take]; omega
 have wa := dw_len 32 a
 have wb := dw_len 32 b
 have wc := dw_len 32 c
 have n6 : Int.toNat 6 = 6 := rfl
 have n7 : Int.toNat 7 = 7 := rfl
 have n14 : Int.toNat 14 = 14 := rfl
 have n15 : Int.toNat 15 = 15 := rfl
 have n22 : Int.toNat 22 = 22 := rfl
 have w1 : IntKind.i64.wrap 1 = 1 := rfl
 have w2 : IntKind.i64.wrap 2 = 2 := rfl
 have w3 : IntKind.i64.wrap 3 = 3 := rfl
 have w6 : IntKind.i64.wrap 6 = 6 := rfl
 have w7 : IntKind.i64.wrap 7 = 7 := rfl
 have w8 : IntKind.i64.wrap 8 = 8 := rfl
 have w14 : IntKind.i64.wrap 14 = 14 := rfl
 have w15 : IntKind.i64.wrap 15 = 15 := rfl
 have w22 : IntKind.i64.wrap 22 = 22 := rfl
 have w23 : IntKind.i64.wrap 23 = 23 := rfl
 have f00 : Nat.blt 0 0 = false := rfl
 have f01 : Nat.blt 0 1 = true := rfl
 have f02 : Nat.blt 0 2 = true := rfl
 have f03 : Nat.blt 0 3 = true := rfl
 have f10 : Nat.blt 1 0 = false := rfl
 have f11 : Nat.blt 1 1 = false := rfl
 have f12 : Nat.blt 1 2 = true := rfl
 have f13 : Nat.blt 1 3 = true := rfl
 have f20 : Nat.blt 2 0 = false := rfl
 have f21 : Nat.blt 2 1 = false := rfl
 have f22 : Nat.blt 2 2 = false := rfl
 have f23 : Nat.blt 2 3 = true := rfl
 refine pan_of follows_mixed Tryz.func93 rfl V101 V162 rfl ?_
 refine Exec.reg ?_
 have X := (((((((((((((((((((((((((((((((((Fx.mk f00).a f01).a f02).a f03).a f10).a f11).a f12).a f13).a f20).a f21).a f22).a f23).a d22).a d32).a h6).a h14).a ea).a eb).a ec).a n6).a n7).a n14).a n15).a n22).a w1).a w2).a w3).a w6).a w7).a w8).a w14).a w15).a w22).a w23
 refine Run.o1 V58 ?_
 refine Run.nil (Exec.reg ?_)
 refine Run.o1 V58 ?_
 refine Run.nil (Exec.reg ?_)
 refine Run.o1 V58 ?_
 refine Run.nil (Exec.reg ?_)
 iterate 4 (refine Run.o1 V58 ?_)
 iterate 3 (refine Run.y1 V58 ?_)
 iterate 2 (refine Run.o1 V58 ?_)
 iterate 3 (refine Run.y1 V58 ?_)
 refine Run.o1 V58 ?_
 refine Run.c1 (c_need true rfl) V58 V58 ?_
 refine Run.nil (Exec.reg ?_)
 refine Run.o1 V58 ?_
 refine Run.nil (Exec.assocS (Exec.reg ?_))
 refine Run.c1 (c_columns) V58 V58 ?_
 refine Run.o1 V58 ?_
 refine Run.nil (Exec.blk ?_)
 refine Exec.forA [0, 2, 3, 4, 5, 23, 24] [2, 3, 4] (1) (fun k => [.slot 24 (.int k), .slot 5 (.int (from3 k)), .obj 3 (.cells [rk (Nat.blt 0 k) a, rk (Nat.blt 1 k) b, rk (Nat.blt 2 k) c]), .obj 4 (.cells [rv (Nat.blt 0 k) a, rv (Nat.blt 1 k) b, rv (Nat.blt 2 k) c])]) (fun _ => True) (fun k => by simp only [go_sem] <;> rfl) V49 ?_ (fun k hk hX => ?_)
 ·trivial
 ·skip
  by_cases h0 : k = 0
  ·skip
   subst h0
   have cz : ((0 : Nat) : Int) = 0 := rfl
   have ca : ((0 + 1 : Nat) : Int) = 1 := rfl
   refine Exec.reg ?_
   have X := (X.a cz).a ca
   refine Run.o1 V58 ?_
   refine Run.nil ?_
   refine Exec.cndS V58 (fun hb25 => ?_) (fun hb25 => ?_)
   ·skip
    refine Exec.skipS (Exec.blk (Exec.reg ?_))
    iterate 4 (refine Run.o1 V58 ?_)
    refine Run.nil (Exec.reg ?_)
    iterate 5 (refine Run.o1 V58 ?_)
    refine Run.o1 V23 ?_
    iterate 2 (refine Run.o1 V20 ?_)
    refine Run.o1 V58 ?_
    refine Run.nil (Exec.reg ?_)
    iterate 2 (refine Run.o1 V58 ?_)
    refine Run.o1 V20 ?_
    refine Run.o1 V58 ?_
    refine Run.c1 (c_dw a 32 (by decide)) V58 V58 ?_
    refine Run.c1 (c_fig (dw 32 a) fa) V58 V58 ?_
    refine Run.o1 V20 ?_
    refine Run.o1 V58 ?_
    refine Run.nil (Exec.reg1 ?_)
    iterate 2 (refine Run.o1 V58 ?_)
    iterate 2 (refine Run.o1 V23 ?_)
    refine Run.o1 V58 ?_
    refine Run.nil (BlkK.nrm (Exec.reg1 ?_))
    refine Run.o1 V23 ?_
    refine Run.o1 V58 ?_
    refine Run.nil ?_
    refine ForK.nxt ?_ ?_ ?_
    ·omega
    ·exact Ghost.kp [0, 2, 3, 4, 5, 23, 24] [2, 3, 4] V9
    ·trivial
   ·exact absurd hb25 (by simp)
  ·skip
   have h1 : k = 1 := by omega
   subst h1
   have cz : ((1 : Nat) : Int) = 1 := rfl
   have ca : ((1 + 1 : Nat) : Int) = 2 := rfl
   refine Exec.reg ?_
   have X := (X.a cz).a ca
   refine Run.o1 V58 ?_
   refine Run.nil ?_
   refine Exec.cndS V58 (fun hb25 => ?_) (fun hb25 => ?_)
   ·skip
    refine Exec.skipS (Exec.blk (Exec.reg ?_))
    iterate 4 (refine Run.o1 V58 ?_)
    refine Run.nil (Exec.reg ?_)
    iterate 5 (refine Run.o1 V58 ?_)
    refine Run.o1 V23 ?_
    iterate 2 (refine Run.o1 V20 ?_)
    refine Run.o1 V58 ?_
    refine Run.nil ?_
    refine Exec.pan (pv := pvE) 5 rfl ?_
    iterate 2 (refine Run.o1 V58 ?_)
    refine Run.o1 V20 ?_
    refine Run.o1 V58 ?_
    refine Run.c1 (c_dw b 32 (by decide)) V58 V58 ?_
    exact Run.panc (p_fig fb (by omega)) V158 V58 V66 rfl
   ·exact absurd hb25 (by simp)

set_option maxRecDepth 20000 in
set_option maxHeartbeats 4000000 in
theorem p_tr1c (h a b c : Bs) (h22 : h.length = 22) (h6 : h[6]? = some 32) (h14 : h[14]? = some 32) (ea : h.take 6 = a) (eb : (h.take 14).drop 7 = b) (ec : (h.take 22).drop 15 = c) (fa : figOK (dw 32 a) = true) (fb : figOK (dw 32 b) = true) (fc : figOK (dw 32 c) = false) : Pan Tryz.prog pvE 93 [.str h] [] := by
 have hfa := fig_bnd fa
 have hfb := fig_bnd fb
 have d22 : ((h.length : Int) == 22) = true := by rw [h22]; rfl
 have d32 : (((32 : UInt8).toNat : Int) == 32) = true := rfl
 have la : a.length = 6 := by rw [← ea, List.length_take]; omega
 have lb : b.length = 7 := by rw [← eb, List.length_drop, List.length_take]; omega
 have lc : c.length = 7 := by rw [← ec, List.length_drop, List.length_take]; omega
 have wa := dw_len 32 a
 have wb := dw_len 32 b
 have wc := dw_len 32 c
 have n6 : Int.toNat 6 = 6 := rfl
 have n7 : Int.toNat 7 = 7 := rfl
 have n14 : Int.toNat 14 = 14 := rfl
 have n15 : Int.toNat 15 = 15 := rfl
 have n22 : Int.toNat 22 = 22 := rfl
 have w1 : IntKind.i64.wrap 1 = 1 := rfl
 have w2 : IntKind.i64.wrap 2 = 2 := rfl
 have w3 : IntKind.i64.wrap 3 = 3 := rfl
 have w6 : IntKind.i64.wrap 6 = 6 := rfl
 have w7 : IntKind.i64.wrap 7 = 7 := rfl
 have w8 : IntKind.i64.wrap 8 = 8 := rfl
 have w14 : IntKind.i64.wrap 14 = 14 := rfl
 have w15 : IntKind.i64.wrap 15 = 15 := rfl
 have w22 : IntKind.i64.wrap 22 = 22 := rfl
 have w23 : IntKind.i64.wrap 23 = 23 := rfl
 have f00 : Nat.blt 0 0 = false := rfl
 have f01 : Nat.blt 0 1 = true := rfl
 have f02 : Nat.blt 0 2 = true := rfl
 have f03 : Nat.blt 0 3 = true := rfl
 have f10 : Nat.blt 1 0 = false := rfl
 have f11 : Nat.blt 1 1 = false := rfl
 have f12 : Nat.blt 1 2 = true := rfl
 have f13 : Nat.blt 1 3 = true := rfl
 have f20 : Nat.blt 2 0 = false := rfl
 have f21 : Nat.blt 2 1 = false := rfl
 have f22 : Nat.blt 2 2 = false := rfl
 have f23 : Nat.blt 2 3 = true := rfl
 refine pan_of follows_mixed Tryz.func93 rfl V101 V162 rfl ?_
 refine Exec.reg ?_
 have X := (((((((((((((((((((((((((((((((((Fx.mk f00).a f01).a f02).a f03).a f10).a f11).a f12).a f13).a f20).a f21).a f22).a f23).a d22).a d32).a h6).a h14).a ea).a eb).a ec).a n6).a n7).a n14).a n15).a n22).a w1).a w2).a w3).a w6).a w7).a w8).a w14).a w15).a w22).a w23
 refine Run.o1 V58 ?_
 refine Run.nil (Exec.reg ?_)
 refine Run.o1 V58 ?_
 refine Run.nil (Exec.reg ?_)
 refine Run.o1 V58 ?_
 refine Run.nil (Exec.reg ?_)
 iterate 4 (refine Run.o1 V58 ?_)
 iterate 3 (refine Run.y1 V58 ?_)
 iterate 2 (refine Run.o1 V58 ?_)
 iterate 3 (refine Run.y1 V58 ?_)
 refine Run.o1 V58 ?_
 refine Run.c1 (c_need true rfl) V58 V58 ?_
 refine Run.nil (Exec.reg ?_)
 refine Run.o1 V58 ?_
 refine Run.nil (Exec.assocS (Exec.reg ?_))
 refine Run.c1 (c_columns) V58 V58 ?_
 refine Run.o1 V58 ?_
 refine Run.nil (Exec.blk ?_)
 refine Exec.forA [0, 2, 3, 4, 5, 23, 24] [2, 3, 4] (2) (fun k => [.slot 24 (.int k), .slot 5 (.int (from3 k)), .obj 3 (.cells [rk (Nat.blt 0 k) a, rk (Nat.blt 1 k) b, rk (Nat.blt 2 k) c]), .obj 4 (.cells [rv (Nat.blt 0 k) a, rv (Nat.blt 1 k) b, rv (Nat.blt 2 k) c])]) (fun _ => True) (fun k => by simp only [go_sem] <;> rfl) V49 ?_ (fun k hk hX => ?_)
 ·trivial
 ·skip
  by_cases h0 : k = 0
  ·skip
   subst h0
   have cz : ((0 : Nat) : Int) = 0 := rfl
   have ca : ((0 + 1 : Nat) : Int) = 1 := rfl
   refine Exec.reg ?_
   have X := (X.a cz).a ca
   refine Run.o1 V58 ?_
   refine Run.nil ?_
   refine Exec.cndS V58 (fun hb25 => ?_) (fun hb25 => ?_)
   ·skip
    refine Exec.skipS (Exec.blk (Exec.reg ?_))
    iterate 4 (refine Run.o1 V58 ?_)
    refine Run.nil (Exec.reg ?_)
    iterate 5 (refine Run.o1 V58 ?_)
    refine Run.o1 V23 ?_
    iterate 2 (refine Run.o1 V20 ?_)
    refine Run.o1 V58 ?_
    refine Run.nil (Exec.reg ?_)
    iterate 2 (refine Run.o1 V58 ?_)
    refine Run.o1 V20 ?_
    refine Run.o1 V58 ?_
    refine Run.c1 (c_dw a 32 (by decide)) V58 V58 ?_
    refine Run.c1 (c_fig (dw 32 a) fa) V58 V58 ?_
    refine Run.o1 V20 ?_
    refine Run.o1 V58 ?_
    refine Run.nil (Exec.reg1 ?_)
    iterate 2 (refine Run.o1 V58 ?_)
    iterate 2 (refine Run.o1 V23 ?_)
    refine Run.o1 V58 ?_
    refine Run.nil (BlkK.nrm (Exec.reg1 ?_))
    refine Run.o1 V23 ?_
    refine Run.o1 V58 ?_
    refine Run.nil ?_
    refine ForK.nxt ?_ ?_ ?_
    ·omega
    ·exact Ghost.kp [0, 2, 3, 4, 5, 23, 24] [2, 3, 4] V9
    ·trivial
   ·exact absurd hb25 (by simp)
  ·skip
   by_cases h1 : k = 1
   ·skip
    subst h1
    have cz : ((1 : Nat) : Int) = 1 := rfl
    have ca : ((1 + 1 : Nat) : Int) = 2 := rfl
    refine Exec.reg ?_
    have X := (X.a cz).a ca
    refine Run.o1 V58 ?_
    refine Run.nil ?_
    refine Exec.cndS V58 (fun hb25 => ?_) (fun hb25 => ?_)
    ·skip
     refine Exec.skipS (Exec.blk (Exec.reg ?_))
     iterate 4 (refine Run.o1 V58 ?_)
     refine Run.nil (Exec.reg ?_)
     iterate 5 (refine Run.o1 V58 ?_)
     refine Run.o1 V23 ?_
     iterate 2 (refine Run.o1 V20 ?_)
     refine Run.o1 V58 ?_
     refine Run.nil (Exec.reg ?_)
     iterate 2 (refine Run.o1 V58 ?_)
     refine Run.o1 V20 ?_
     refine Run.o1 V58 ?_
     refine Run.c1 (c_dw b 32 (by decide)) V58 V58 ?_
     refine Run.c1 (c_fig (dw 32 b) fb) V58 V58 ?_
     refine Run.o1 V20 ?_
     refine Run.o1 V58 ?_
     refine Run.nil (Exec.reg1 ?_)
     iterate 2 (refine Run.o1 V58 ?_)
     iterate 2 (refine Run.o1 V23 ?_)
     refine Run.o1 V58 ?_
     refine Run.nil (BlkK.nrm (Exec.reg1 ?_))
     refine Run.o1 V23 ?_
     refine Run.o1 V58 ?_
     refine Run.nil ?_
     refine ForK.nxt ?_ ?_ ?_
     ·omega
     ·exact Ghost.kp [0, 2, 3, 4, 5, 23, 24] [2, 3, 4] V9
     ·trivial
    ·exact absurd hb25 (by simp)
   ·skip
    have h2 : k = 2 := by omega
    subst h2
    have cz : ((2 : Nat) : Int) = 2 := rfl
    have ca : ((2 + 1 : Nat) : Int) = 3 := rfl
    refine Exec.reg ?_
    have X := (X.a cz).a ca
    refine Run.o1 V58 ?_
    refine Run.nil ?_
    refine Exec.cndS V58 (fun hb25 => ?_) (fun hb25 => ?_)
    ·skip
     refine Exec.skipS (Exec.blk (Exec.reg ?_))
     iterate 4 (refine Run.o1 V58 ?_)
     refine Run.nil (Exec.reg ?_)
     iterate 5 (refine Run.o1 V58 ?_)
     refine Run.o1 V23 ?_
     iterate 2 (refine Run.o1 V20 ?_)
     refine Run.o1 V58 ?_
     refine Run.nil ?_
     refine Exec.pan (pv := pvE) 5 rfl ?_
     iterate 2 (refine Run.o1 V58 ?_)
     refine Run.o1 V20 ?_
     refine Run.o1 V58 ?_
     refine Run.c1 (c_dw c 32 (by decide)) V58 V58 ?_
     exact Run.panc (p_fig fc (by omega)) V158 V58 V66 rfl
    ·exact absurd hb25 (by simp)

set_option maxRecDepth 20000 in
set_option maxHeartbeats 4000000 in
theorem p_tr2 (h a b c : Bs) (h22 : h.length = 22) (h6 : h[6]? = some 32) (h14 : h[14]? = some 32) (ea : h.take 6 = a) (eb : (h.take 14).drop 7 = b) (ec : (h.take 22).drop 15 = c) (fa : figOK (dw 32 a) = true) (fb : figOK (dw 32 b) = true) (fc : figOK (dw 32 c) = true) (hn : (pad 32 6 (txt (vp a)) == a && (pad 32 7 (txt (vp b)) == b && pad 32 7 (txt (vp c)) == c)) = false) : Pan Tryz.prog pvE 93 [.str h] [] := by
 have hfa := fig_bnd fa
 have hfb := fig_bnd fb
 have hfc := fig_bnd fc
 have d22 : ((h.length : Int) == 22) = true := by rw [h22]; rfl
 have d32 : (((32 : UInt8).toNat : Int) == 32) = true := rfl
 have la : a.length = 6 := by rw [← ea, List.length_take]; omega
 have lb : b.length = 7 := by rw [← eb, List.length_drop, List.length_take]; omega
 have lc : c.length = 7 := by rw [← ec, List.length_drop, List.length_take]; omega
 have wa := dw_len 32 a
 have wb := dw_len 32 b
 have wc := dw_len 32 c
 have n6 : Int.toNat 6 = 6 := rfl
 have n7 : Int.toNat 7 = 7 := rfl
 have n14 : Int.toNat 14 = 14 := rfl
 have n15 : Int.toNat 15 = 15 := rfl
 have n22 : Int.toNat 22 = 22 := rfl
 have w1 : IntKind.i64.wrap 1 = 1 := rfl
 have w2 : IntKind.i64.wrap 2 = 2 := rfl
 have w3 : IntKind.i64.wrap 3 = 3 := rfl
 have w6 : IntKind.i64.wrap 6 = 6 := rfl
 have w7 : IntKind.i64.wrap 7 = 7 := rfl
 have w8 : IntKind.i64.wrap 8 = 8 := rfl
 have w14 : IntKind.i64.wrap 14 = 14 := rfl
 have w15 : IntKind.i64.wrap 15 = 15 := rfl
 have w22 : IntKind.i64.wrap 22 = 22 := rfl
 have w23 : IntKind.i64.wrap 23 = 23 := rfl
 have f00 : Nat.blt 0 0 = false := rfl
 have f01 : Nat.blt 0 1 = true := rfl
 have f02 : Nat.blt 0 2 = true := rfl
 have f03 : Nat.blt 0 3 = true := rfl
 have f10 : Nat.blt 1 0 = false := rfl
 have f11 : Nat.blt 1 1 = false := rfl
 have f12 : Nat.blt 1 2 = true := rfl
 have f13 : Nat.blt 1 3 = true := rfl
 have f20 : Nat.blt 2 0 = false := rfl
 have f21 : Nat.blt 2 1 = false := rfl
 have f22 : Nat.blt 2 2 = false := rfl
 have f23 : Nat.blt 2 3 = true := rfl
 refine pan_of follows_mixed Tryz.func93 rfl V101 V162 rfl ?_
 refine Exec.reg ?_
 have X := ((((((((((((((((((((((((((((((((((Fx.mk f00).a f01).a f02).a f03).a f10).a f11).a f12).a f13).a f20).a f21).a f22).a f23).a d22).a d32).a h6).a h14).a ea).a eb).a ec).a n6).a n7).a n14).a n15).a n22).a w1).a w2).a w3).a w6).a w7).a w8).a w14).a w15).a w22).a w23).a hn
 refine Run.o1 V58 ?_
 refine Run.nil (Exec.reg ?_)
 refine Run.o1 V58 ?_
 refine Run.nil (Exec.reg ?_)
 refine Run.o1 V58 ?_
 refine Run.nil (Exec.reg ?_)
 iterate 4 (refine Run.o1 V58 ?_)
 iterate 3 (refine Run.y1 V58 ?_)
 iterate 2 (refine Run.o1 V58 ?_)
 iterate 3 (refine Run.y1 V58 ?_)
 refine Run.o1 V58 ?_
 refine Run.c1 (c_need true rfl) V58 V58 ?_
 refine Run.nil (Exec.reg ?_)
 refine Run.o1 V58 ?_
 refine Run.nil (Exec.assocS (Exec.reg ?_))
 refine Run.c1 (c_columns) V58 V58 ?_
 refine Run.o1 V58 ?_
 refine Run.nil (Exec.blk ?_)
 refine Exec.forA [0, 2, 3, 4, 5, 23, 24] [2, 3, 4] (3) (fun k => [.slot 24 (.int k), .slot 5 (.int (from3 k)), .obj 3 (.cells [rk (Nat.blt 0 k) a, rk (Nat.blt 1 k) b, rk (Nat.blt 2 k) c]), .obj 4 (.cells [rv (Nat.blt 0 k) a, rv (Nat.blt 1 k) b, rv (Nat.blt 2 k) c])]) (fun _ => True) (fun k => by simp only [go_sem] <;> rfl) V49 ?_ (fun k hk hX => ?_)
 ·trivial
 ·skip
  by_cases h0 : k = 0
  ·skip
   subst h0
   have cz : ((0 : Nat) : Int) = 0 := rfl
   have ca : ((0 + 1 : Nat) : Int) = 1 := rfl
   refine Exec.reg ?_
   have X := (X.a cz).a ca
   refine Run.o1 V58 ?_
   refine Run.nil ?_
   refine Exec.cndS V58 (fun hb25 => ?_) (fun hb25 => ?_)
   ·skip
    refine Exec.skipS (Exec.blk (Exec.reg ?_))
    iterate 4 (refine Run.o1 V58 ?_)
    refine Run.nil (Exec.reg ?_)
    iterate 5 (refine Run.o1 V58 ?_)
    refine Run.o1 V23 ?_
    iterate 2 (refine Run.o1 V20 ?_)
    refine Run.o1 V58 ?_
    refine Run.nil (Exec.reg ?_)
    iterate 2 (refine Run.o1 V58 ?_)
    refine Run.o1 V20 ?_
    refine Run.o1 V58 ?_
    refine Run.c1 (c_dw a 32 (by decide)) V58 V58 ?_
    refine Run.c1 (c_fig (dw 32 a) fa) V58 V58 ?_
    refine Run.o1 V20 ?_
    refine Run.o1 V58 ?_
    refine Run.nil (Exec.reg1 ?_)
    iterate 2 (refine Run.o1 V58 ?_)
    iterate 2 (refine Run.o1 V23 ?_)
    refine Run.o1 V58 ?_
    refine Run.nil (BlkK.nrm (Exec.reg1 ?_))
    refine Run.o1 V23 ?_
    refine Run.o1 V58 ?_
    refine Run.nil ?_
    refine ForK.nxt ?_ ?_ ?_
    ·omega
    ·exact Ghost.kp [0, 2, 3, 4, 5, 23, 24] [2, 3, 4] V9
    ·trivial
   ·exact absurd hb25 (by simp)
  ·skip
   by_cases h1 : k = 1
   ·skip
    subst h1
    have cz : ((1 : Nat) : Int) = 1 := rfl
    have ca : ((1 + 1 : Nat) : Int) = 2 := rfl
    refine Exec.reg ?_
    have X := (X.a cz).a ca
    refine Run.o1 V58 ?_
    refine Run.nil ?_
    refine Exec.cndS V58 (fun hb25 => ?_) (fun hb25 => ?_)
    ·skip
     refine Exec.skipS (Exec.blk (Exec.reg ?_))
     iterate 4 (refine Run.o1 V58 ?_)
     refine Run.nil (Exec.reg ?_)
     iterate 5 (refine Run.o1 V58 ?_)
     refine Run.o1 V23 ?_
     iterate 2 (refine Run.o1 V20 ?_)
     refine Run.o1 V58 ?_
     refine Run.nil (Exec.reg ?_)
     iterate 2 (refine Run.o1 V58 ?_)
     refine Run.o1 V20 ?_
     refine Run.o1 V58 ?_
     refine Run.c1 (c_dw b 32 (by decide)) V58 V58 ?_
     refine Run.c1 (c_fig (dw 32 b) fb) V58 V58 ?_
     refine Run.o1 V20 ?_
     refine Run.o1 V58 ?_
     refine Run.nil (Exec.reg1 ?_)
     iterate 2 (refine Run.o1 V58 ?_)
     iterate 2 (refine Run.o1 V23 ?_)
     refine Run.o1 V58 ?_
     refine Run.nil (BlkK.nrm (Exec.reg1 ?_))
     refine Run.o1 V23 ?_
     refine Run.o1 V58 ?_
     refine Run.nil ?_
     refine ForK.nxt ?_ ?_ ?_
     ·omega
     ·exact Ghost.kp [0, 2, 3, 4, 5, 23, 24] [2, 3, 4] V9
     ·trivial
    ·exact absurd hb25 (by simp)
   ·skip
    by_cases h2 : k = 2
    ·skip
     subst h2
     have cz : ((2 : Nat) : Int) = 2 := rfl
     have ca : ((2 + 1 : Nat) : Int) = 3 := rfl
     refine Exec.reg ?_
     have X := (X.a cz).a ca
     refine Run.o1 V58 ?_
     refine Run.nil ?_
     refine Exec.cndS V58 (fun hb25 => ?_) (fun hb25 => ?_)
     ·skip
      refine Exec.skipS (Exec.blk (Exec.reg ?_))
      iterate 4 (refine Run.o1 V58 ?_)
      refine Run.nil (Exec.reg ?_)
      iterate 5 (refine Run.o1 V58 ?_)
      refine Run.o1 V23 ?_
      iterate 2 (refine Run.o1 V20 ?_)
      refine Run.o1 V58 ?_
      refine Run.nil (Exec.reg ?_)
      iterate 2 (refine Run.o1 V58 ?_)
      refine Run.o1 V20 ?_
      refine Run.o1 V58 ?_
      refine Run.c1 (c_dw c 32 (by decide)) V58 V58 ?_
      refine Run.c1 (c_fig (dw 32 c) fc) V58 V58 ?_
      refine Run.o1 V20 ?_
      refine Run.o1 V58 ?_
      refine Run.nil (Exec.reg1 ?_)
      iterate 2 (refine Run.o1 V58 ?_)
      iterate 2 (refine Run.o1 V23 ?_)
      refine Run.o1 V58 ?_
      refine Run.nil (BlkK.nrm (Exec.reg1 ?_))
      refine Run.o1 V23 ?_
      refine Run.o1 V58 ?_
      refine Run.nil ?_
      refine ForK.nxt ?_ ?_ ?_
      ·omega
      ·exact Ghost.kp [0, 2, 3, 4, 5, 23, 24] [2, 3, 4] V9
      ·trivial
     ·exact absurd hb25 (by simp)
    ·skip
     have h3 : k = 3 := by omega
     subst h3
     have cz : ((3 : Nat) : Int) = 3 := rfl
     refine Exec.reg ?_
     have X := X.a cz
     refine Run.o1 V58 ?_
     refine Run.nil ?_
     refine Exec.cndS V58 (fun hb25 => ?_) (fun hb25 => ?_)
     ·exact absurd hb25 (by simp)
     ·skip
      refine Exec.exitS (ForK.ext (BlkK.hit (Exec.reg ?_)))
      refine Run.o1 V20 ?_
      refine Run.o1 V58 ?_
      refine Run.o1 V20 ?_
      refine Run.o1 V58 ?_
      refine Run.o1 V20 ?_
      iterate 4 (refine Run.o1 V58 ?_)
      refine Run.nil ?_
      refine Exec.opp (pv := pvE) 7 4 [0, 1, 2, 3] rfl V160 ?_
      refine OpenK.o1 V58 ?_
      refine OpenK.cal (c_rowOf (trP a b c) (trP_pos fa fb fc)) V158 V58 V66 (fr0) V58 V156 V156 ?_
      refine OpenK.o1 V58 ?_
      refine OpenK.val [.slot 56, .slot 57] (fun A' hA => semV_eq3 (a := pad 32 6 (txt (vp a))) (b := pad 32 7 (txt (vp b))) (c := pad 32 7 (txt (vp c))) (a' := a) (b' := b) (c' := c) Tryz.underlying148 Tryz.underlying9 (i := _) rfl V162 V162 V72 V73) V156 V156 V156 ?_
      have X := Fx.mk hn
      exact OpenK.pang [] 0 (p_need false rfl) V158 V156 V152 V70 (fun q x h => by simp [look] at h) (fun q q' n h => by simp [look] at h) V160 V160 rfl

set_option maxRecDepth 20000 in
set_option maxHeartbeats 4000000 in
theorem c_tr (h a b c : Bs) (h22 : h.length = 22) (h6 : h[6]? = some 32) (h14 : h[14]? = some 32) (ea : h.take 6 = a) (eb : (h.take 14).drop 7 = b) (ec : (h.take 22).drop 15 = c) (fa : figOK (dw 32 a) = true) (fb : figOK (dw 32 b) = true) (fc : figOK (dw 32 c) = true) (hn : (pad 32 6 (txt (vp a)) == a && (pad 32 7 (txt (vp b)) == b && pad 32 7 (txt (vp c)) == c)) = true) : Contract Tryz.prog 93 [.str h] (trV (trP a b c)) [] := by
 have hfa := fig_bnd fa
 have hfb := fig_bnd fb
 have hfc := fig_bnd fc
 have d22 : ((h.length : Int) == 22) = true := by rw [h22]; rfl
 have d32 : (((32 : UInt8).toNat : Int) == 32) = true := rfl
 have la : a.length = 6 := by rw [← ea, List.length_take]; omega
 have lb : b.length = 7 := by rw [← eb, List.length_drop, List.length_take]; omega
 have lc : c.length = 7 := by rw [← ec, List.length_drop, List.length_take]; omega
 have wa := dw_len 32 a
 have wb := dw_len 32 b
 have wc := dw_len 32 c
 have n6 : Int.toNat 6 = 6 := rfl
 have n7 : Int.toNat 7 = 7 := rfl
 have n14 : Int.toNat 14 = 14 := rfl
 have n15 : Int.toNat 15 = 15 := rfl
 have n22 : Int.toNat 22 = 22 := rfl
 have w1 : IntKind.i64.wrap 1 = 1 := rfl
 have w2 : IntKind.i64.wrap 2 = 2 := rfl
 have w3 : IntKind.i64.wrap 3 = 3 := rfl
 have w6 : IntKind.i64.wrap 6 = 6 := rfl
 have w7 : IntKind.i64.wrap 7 = 7 := rfl
 have w8 : IntKind.i64.wrap 8 = 8 := rfl
 have w14 : IntKind.i64.wrap 14 = 14 := rfl
 have w15 : IntKind.i64.wrap 15 = 15 := rfl
 have w22 : IntKind.i64.wrap 22 = 22 := rfl
 have w23 : IntKind.i64.wrap 23 = 23 := rfl
 have f00 : Nat.blt 0 0 = false := rfl
 have f01 : Nat.blt 0 1 = true := rfl
 have f02 : Nat.blt 0 2 = true := rfl
 have f03 : Nat.blt 0 3 = true := rfl
 have f10 : Nat.blt 1 0 = false := rfl
 have f11 : Nat.blt 1 1 = false := rfl
 have f12 : Nat.blt 1 2 = true := rfl
 have f13 : Nat.blt 1 3 = true := rfl
 have f20 : Nat.blt 2 0 = false := rfl
 have f21 : Nat.blt 2 1 = false := rfl
 have f22 : Nat.blt 2 2 = false := rfl
 have f23 : Nat.blt 2 3 = true := rfl
 refine con_of follows_mixed Tryz.func93 rfl V101 V162 rfl ?_
 refine Exec.reg ?_
 have X := ((((((((((((((((((((((((((((((((((Fx.mk f00).a f01).a f02).a f03).a f10).a f11).a f12).a f13).a f20).a f21).a f22).a f23).a d22).a d32).a h6).a h14).a ea).a eb).a ec).a n6).a n7).a n14).a n15).a n22).a w1).a w2).a w3).a w6).a w7).a w8).a w14).a w15).a w22).a w23).a hn
 refine Run.o1 V58 ?_
 refine Run.nil (Exec.reg ?_)
 refine Run.o1 V58 ?_
 refine Run.nil (Exec.reg ?_)
 refine Run.o1 V58 ?_
 refine Run.nil (Exec.reg ?_)
 iterate 4 (refine Run.o1 V58 ?_)
 iterate 3 (refine Run.y1 V58 ?_)
 iterate 2 (refine Run.o1 V58 ?_)
 iterate 3 (refine Run.y1 V58 ?_)
 refine Run.o1 V58 ?_
 refine Run.c1 (c_need true rfl) V58 V58 ?_
 refine Run.nil (Exec.reg ?_)
 refine Run.o1 V58 ?_
 refine Run.nil (Exec.assocS (Exec.reg ?_))
 refine Run.c1 (c_columns) V58 V58 ?_
 refine Run.o1 V58 ?_
 refine Run.nil (Exec.blk ?_)
 refine Exec.forA [0, 2, 3, 4, 5, 23, 24] [2, 3, 4] (3) (fun k => [.slot 24 (.int k), .slot 5 (.int (from3 k)), .obj 3 (.cells [rk (Nat.blt 0 k) a, rk (Nat.blt 1 k) b, rk (Nat.blt 2 k) c]), .obj 4 (.cells [rv (Nat.blt 0 k) a, rv (Nat.blt 1 k) b, rv (Nat.blt 2 k) c])]) (fun _ => True) (fun k => by simp only [go_sem] <;> rfl) V49 ?_ (fun k hk hX => ?_)
 ·trivial
 ·skip
  by_cases h0 : k = 0
  ·skip
   subst h0
   have cz : ((0 : Nat) : Int) = 0 := rfl
   have ca : ((0 + 1 : Nat) : Int) = 1 := rfl
   refine Exec.reg ?_
   have X := (X.a cz).a ca
   refine Run.o1 V58 ?_
   refine Run.nil ?_
   refine Exec.cndS V58 (fun hb25 => ?_) (fun hb25 => ?_)
   ·skip
    refine Exec.skipS (Exec.blk (Exec.reg ?_))
    iterate 4 (refine Run.o1 V58 ?_)
    refine Run.nil (Exec.reg ?_)
    iterate 5 (refine Run.o1 V58 ?_)
    refine Run.o1 V23 ?_
    iterate 2 (refine Run.o1 V20 ?_)
    refine Run.o1 V58 ?_
    refine Run.nil (Exec.reg ?_)
    iterate 2 (refine Run.o1 V58 ?_)
    refine Run.o1 V20 ?_
    refine Run.o1 V58 ?_
    refine Run.c1 (c_dw a 32 (by decide)) V58 V58 ?_
    refine Run.c1 (c_fig (dw 32 a) fa) V58 V58 ?_
    refine Run.o1 V20 ?_
    refine Run.o1 V58 ?_
    refine Run.nil (Exec.reg1 ?_)
    iterate 2 (refine Run.o1 V58 ?_)
    iterate 2 (refine Run.o1 V23 ?_)
    refine Run.o1 V58 ?_
    refine Run.nil (BlkK.nrm (Exec.reg1 ?_))
    refine Run.o1 V23 ?_
    refine Run.o1 V58 ?_
    refine Run.nil ?_
    refine ForK.nxt ?_ ?_ ?_
    ·omega
    ·exact Ghost.kp [0, 2, 3, 4, 5, 23, 24] [2, 3, 4] V9
    ·trivial
   ·exact absurd hb25 (by simp)
  ·skip
   by_cases h1 : k = 1
   ·skip
    subst h1
    have cz : ((1 : Nat) : Int) = 1 := rfl
    have ca : ((1 + 1 : Nat) : Int) = 2 := rfl
    refine Exec.reg ?_
    have X := (X.a cz).a ca
    refine Run.o1 V58 ?_
    refine Run.nil ?_
    refine Exec.cndS V58 (fun hb25 => ?_) (fun hb25 => ?_)
    ·skip
     refine Exec.skipS (Exec.blk (Exec.reg ?_))
     iterate 4 (refine Run.o1 V58 ?_)
     refine Run.nil (Exec.reg ?_)
     iterate 5 (refine Run.o1 V58 ?_)
     refine Run.o1 V23 ?_
     iterate 2 (refine Run.o1 V20 ?_)
     refine Run.o1 V58 ?_
     refine Run.nil (Exec.reg ?_)
     iterate 2 (refine Run.o1 V58 ?_)
     refine Run.o1 V20 ?_
     refine Run.o1 V58 ?_
     refine Run.c1 (c_dw b 32 (by decide)) V58 V58 ?_
     refine Run.c1 (c_fig (dw 32 b) fb) V58 V58 ?_
     refine Run.o1 V20 ?_
     refine Run.o1 V58 ?_
     refine Run.nil (Exec.reg1 ?_)
     iterate 2 (refine Run.o1 V58 ?_)
     iterate 2 (refine Run.o1 V23 ?_)
     refine Run.o1 V58 ?_
     refine Run.nil (BlkK.nrm (Exec.reg1 ?_))
     refine Run.o1 V23 ?_
     refine Run.o1 V58 ?_
     refine Run.nil ?_
     refine ForK.nxt ?_ ?_ ?_
     ·omega
     ·exact Ghost.kp [0, 2, 3, 4, 5, 23, 24] [2, 3, 4] V9
     ·trivial
    ·exact absurd hb25 (by simp)
   ·skip
    by_cases h2 : k = 2
    ·skip
     subst h2
     have cz : ((2 : Nat) : Int) = 2 := rfl
     have ca : ((2 + 1 : Nat) : Int) = 3 := rfl
     refine Exec.reg ?_
     have X := (X.a cz).a ca
     refine Run.o1 V58 ?_
     refine Run.nil ?_
     refine Exec.cndS V58 (fun hb25 => ?_) (fun hb25 => ?_)
     ·skip
      refine Exec.skipS (Exec.blk (Exec.reg ?_))
      iterate 4 (refine Run.o1 V58 ?_)
      refine Run.nil (Exec.reg ?_)
      iterate 5 (refine Run.o1 V58 ?_)
      refine Run.o1 V23 ?_
      iterate 2 (refine Run.o1 V20 ?_)
      refine Run.o1 V58 ?_
      refine Run.nil (Exec.reg ?_)
      iterate 2 (refine Run.o1 V58 ?_)
      refine Run.o1 V20 ?_
      refine Run.o1 V58 ?_
      refine Run.c1 (c_dw c 32 (by decide)) V58 V58 ?_
      refine Run.c1 (c_fig (dw 32 c) fc) V58 V58 ?_
      refine Run.o1 V20 ?_
      refine Run.o1 V58 ?_
      refine Run.nil (Exec.reg1 ?_)
      iterate 2 (refine Run.o1 V58 ?_)
      iterate 2 (refine Run.o1 V23 ?_)
      refine Run.o1 V58 ?_
      refine Run.nil (BlkK.nrm (Exec.reg1 ?_))
      refine Run.o1 V23 ?_
      refine Run.o1 V58 ?_
      refine Run.nil ?_
      refine ForK.nxt ?_ ?_ ?_
      ·omega
      ·exact Ghost.kp [0, 2, 3, 4, 5, 23, 24] [2, 3, 4] V9
      ·trivial
     ·exact absurd hb25 (by simp)
    ·skip
     have h3 : k = 3 := by omega
     subst h3
     have cz : ((3 : Nat) : Int) = 3 := rfl
     refine Exec.reg ?_
     have X := X.a cz
     refine Run.o1 V58 ?_
     refine Run.nil ?_
     refine Exec.cndS V58 (fun hb25 => ?_) (fun hb25 => ?_)
     ·exact absurd hb25 (by simp)
     ·skip
      refine Exec.exitS (ForK.ext (BlkK.hit (Exec.reg ?_)))
      refine Run.o1 V20 ?_
      refine Run.o1 V58 ?_
      refine Run.o1 V20 ?_
      refine Run.o1 V58 ?_
      refine Run.o1 V20 ?_
      iterate 4 (refine Run.o1 V58 ?_)
      refine Run.nil ?_
      refine Exec.opk 7 ?_
      refine OpenK.o1 V58 ?_
      refine OpenK.cal (c_rowOf (trP a b c) (trP_pos fa fb fc)) V158 V58 V66 (fr0) V58 V156 V156 ?_
      refine OpenK.o1 V58 ?_
      refine OpenK.val [.slot 56, .slot 57] (fun A' hA => semV_eq3 (a := pad 32 6 (txt (vp a))) (b := pad 32 7 (txt (vp b))) (c := pad 32 7 (txt (vp c))) (a' := a) (b' := b) (c' := c) Tryz.underlying148 Tryz.underlying9 (i := _) rfl V162 V162 V72 V73) V156 V156 V156 ?_
      refine OpenK.cal (c_need true rfl) V158 V58 V66 (fr0) V58 V156 V156 ?_
      refine OpenK.nil (OpenE.fin V160 V160 ?_)
      refine Exec.reg ?_
      iterate 2 (refine Run.o1 V58 ?_)
      refine Run.nil ?_
      exact Ends.fin [] (rs := [.cell 2 146]) rfl V58 (by simp only [go_sem, X.h, rk, rv, cond_true, cond_false, from3_0, from3_1, from3_2, from3_3, Int.toNat_zero, List.drop_zero, Int.reduceAdd] <;> first | rfl | exact eqz)

end Go.Mw
namespace Go.Mw
open Go.Proofs Go.Bk
theorem c_try {h : Bs} {t : Tr} (hm : tryP h = some t) : Contract Tryz.prog 93 [.str h] (trV t) [] := by
 unfold tryP at hm
 split at hm
 ·next hc =>
  simp only [Option.some.injEq] at hm
  obtain ⟨⟨h1, h2, h3⟩, ⟨f1, f2, f3⟩, p1, p2, p3⟩ := hc
  subst hm
  refine c_tr h _ _ _ h1 h2 h3 rfl (cutA h) (cutB' h) f1 f2 f3 ?_
  simp only [Bool.and_eq_true, beq_iff_eq]
  exact ⟨p1, p2, p3⟩
 ·cases hm
theorem p_try {h : Bs} (hl : h.length ≤ 1000000000) (hm : tryP h = none) : Pan Tryz.prog pvE 93 [.str h] [] := by
 by_cases h22 : h.length = 22
 ·obtain ⟨x, hx⟩ : ∃ x, h[6]? = some x := ⟨_, List.getElem?_eq_getElem (by omega)⟩
  obtain ⟨y, hy⟩ : ∃ y, h[14]? = some y := ⟨_, List.getElem?_eq_getElem (by omega)⟩
  by_cases x32 : x = 32
  ·subst x32
   by_cases y32 : y = 32
   ·subst y32
    cases f1 : figOK (dw 32 (pieces h).1) with
    | false => exact p_tr1a h _ _ _ h22 hx hy rfl (cutA h) (cutB' h) f1
    | true =>
     cases f2 : figOK (dw 32 (pieces h).2.1) with
     | false => exact p_tr1b h _ _ _ h22 hx hy rfl (cutA h) (cutB' h) f1 f2
     | true =>
      cases f3 : figOK (dw 32 (pieces h).2.2) with
      | false => exact p_tr1c h _ _ _ h22 hx hy rfl (cutA h) (cutB' h) f1 f2 f3
      | true =>
       refine p_tr2 h _ _ _ h22 hx hy rfl (cutA h) (cutB' h) f1 f2 f3 ?_
       refine Bool.eq_false_iff.2 fun hn => ?_
       simp only [Bool.and_eq_true, beq_iff_eq] at hn
       unfold tryP at hm
       rw [if_pos ⟨⟨h22, hx, hy⟩, ⟨f1, f2, f3⟩, hn.1, hn.2.1, hn.2.2⟩] at hm
       cases hm
   ·exact p_tr0c h y h22 hx hy y32
  ·exact p_tr0b h x h22 hx x32
 ·exact p_tr0a h hl h22
end Go.Mw
namespace Go.Bk
open Go.Mw
theorem chk_cases {own : Bs} : chkOK own = true ∧ 3 ≤ own.length ∧ own[own.length - 2]? = some 32 ∧ chk (own.take (own.length - 2)) = own.drop (own.length - 1) ∨
  chkOK own = false ∧ (own.length < 3 ∨ 3 ≤ own.length ∧ (own[own.length - 2]? ≠ some 32 ∨ own[own.length - 2]? = some 32 ∧ chk (own.take (own.length - 2)) ≠ own.drop (own.length - 1))) := by
 unfold chkOK
 by_cases h1 : 3 ≤ own.length <;> by_cases h2 : own[own.length - 2]? = some 32 <;> by_cases h3 : chk (own.take (own.length - 2)) = own.drop (own.length - 1) <;> simp [h1, h2, h3] <;> omega
theorem stepPb {l : List Sh} {own : Bs} (h : chkOK own = false) : stepP l own = none := by unfold stepP; rw [if_neg (by rw [h]; simp)]
theorem stepPh {l : List Sh} {own : Bs} (h : chkOK own = true) (h2 : own.head? = some 35) : stepP l own = (meterP (own.take (own.length - 2))).map fun m => l ++ [⟨m, []⟩] := by unfold stepP; rw [if_pos h, if_pos h2]
theorem stepPn {own : Bs} (h : chkOK own = true) (h2 : own.head? ≠ some 35) : stepP [] own = none := by unfold stepP; rw [if_pos h, if_neg h2, if_pos rfl]
theorem stepPt {l : List Sh} {x : Sh} {own : Bs} (h : chkOK own = true) (h2 : own.head? ≠ some 35) : stepP (l ++ [x]) own = (tryP (own.take (own.length - 2))).map fun t => l ++ [⟨x.meter, x.tries ++ [t]⟩] := by
 unfold stepP
 rw [if_pos h, if_neg h2, if_neg (by simp)]
 congr 1
 funext t
 rw [addT_snoc]
theorem fold_long : ∀ (ls : List Bs) (l0 l : List Sh), ls.foldlM stepP l0 = some l → ∀ w ∈ ls, 3 ≤ w.length
 | [], _, _, _, w, hw => by cases hw
 | a :: ls, l0, l, h, w, hw => by
  rw [List.foldlM_cons] at h
  obtain ⟨l1, h1, h2⟩ := Option.bind_eq_some_iff.1 h
  rcases List.mem_cons.1 hw with rfl | hw
  ·cases hc : chkOK w
   ·rw [stepPb hc] at h1; cases h1
   ·rcases chk_cases (own := w) with hh | hh
    ·exact hh.2.1
    ·rw [hc] at hh; exact absurd hh.1 (by simp)
  ·exact fold_long ls l1 l h2 w hw
theorem ends_long : ∀ (ls : List Bs), (∀ w ∈ ls, 3 ≤ w.length) → 4 * ls.length ≤ (ends 10 ls).length
 | [], _ => by simp
 | a :: ls, h => by
  have := ends_long ls fun w hw => h w (List.mem_cons_of_mem _ hw)
  have := h a (List.mem_cons_self ..)
  rw [ends_cons]
  simp; omega
end Go.Bk
namespace Go.Mw
open Go.Proofs
open Go.Bk
attribute [local go_sem] decide_true beq_self_eq_true bne_self_eq_false
theorem c_sheetsErrorX (l : List Sh) (hl : l.length ≤ 1000000000000) (hz : ∀ x ∈ l, x.tries.length ≤ 1000) : Contract Tryz.prog 80 [.leaf (.d (shsD l))] (.int (sheetsE l)) [] := by
 by_cases h : 12 < l.length
 ·have e : sheetsE l = 3 := err3 _ _ h
  rw [e]; exact c_long_sheets l h hl
 ·exact c_sheetsError l (by omega) hz
def stP (ls : List Bs) (q : Nat × List Sh × Value) : Prop := foldK stepP ls q.1 = some q.2.1 ∧ q.1 ≤ ls.length ∧ bndT q.1 q.2.1
theorem end_P {ls : List Bs} {k : Nat} {l : List Sh} (h : foldK stepP ls k = some l) (hk : k = ls.length) : ls.foldlM stepP [] = some l := by rw [hk, foldK_all] at h; exact h
theorem bad_P {ls : List Bs} {k : Nat} (h : foldK stepP ls (k + 1) = none) : ls.foldlM stepP [] = none := fold_none h
set_option maxRecDepth 20000 in
set_option maxHeartbeats 16000000 in
theorem c_rdS (text : Bs) (ls : List Bs) (lf : List Sh) (hl : text.length ≤ 3000) (h : linesP text = some ls) (hm : ls.foldlM stepP [] = some lf) (hpe : sheetsE lf = 0) : Con Tryz.prog 91 [.leaf (.d (.pt [.raw (.string (bs text))]))] [] (.ret (.leaf (.d (shsD lf))) []) := by
 obtain ⟨hb1, hb2⟩ := lines_bnd h
 have h00 : ((0 : Int) == 0) = true := rfl
 have hl4 := ends_long ls (fold_long ls [] lf hm)
 rw [← lines_back h] at hl4
 refine con_of follows_mixed Tryz.func91 rfl V102 V162 rfl ?_
 refine Exec.reg ?_
 have X := (Fx.mk hpe).a h00
 refine Run.o1 V152 ?_
 refine Run.nil (Exec.assocS (Exec.reg ?_))
 refine Run.o1 V152 ?_
 refine Run.c1 (c_lines (by omega) h) V152 V152 ?_
 iterate 2 (refine Run.o1 V152 ?_)
 refine Run.nilo 1 1000 68 2 V156 V156 (by omega) (by omega) V156 ?_
 refine Run.pinNil 1002 1001 146 3 (.inl V156) V156 (by omega) (by omega) (by omega) (by omega) V156 ?_
 refine Run.nil (Exec.blk ?_)
 refine Exec.whl [1, 7, 8, 9] [1000, 1001, 1002] (fun (q : Nat × List Sh × Value) => [.slot 1 (.leaf (.own 1000 0 q.2.1.length q.2.1.length)), .slot 9 (.int q.1), .obj 1000 (.arr 68 2 (rowsV q.2.1 q.2.2)), .obj 1001 (.arr 146 3 ((lastT q.2.1).map encTr)), .obj 1002 (.pin q.2.2 (.own 1001 0 (lastT q.2.1).length (lastT q.2.1).length))]) (fun q => stP ls q) (fun q => ls.length - q.1) ((0, ([] : List Sh), Value.slice none 0 0)) (fun q => by simp only [go_sem] <;> rfl) (by simp only [go_sem, X.h, Int.natCast_zero, rowsV_nil, lastT_nil, List.map_nil, List.length_nil] <;> rfl) ?_ (fun q hX => ?_)
 ·exact ⟨foldK_zero _ _, Nat.zero_le _, bndT_nil⟩
 ·skip
  obtain ⟨k, l, v⟩ := q
  dsimp only at hX ⊢
  have hrl := rowsV_len l v
  have hkb := hX.2.1
  refine Exec.reg ?_
  have X := X.a hrl
  refine Run.o1 V152 ?_
  refine Run.nil ?_
  refine Exec.cndS V152 (fun hb10 => ?_) (fun hb10 => ?_)
  ·skip
   have hkn : k < ls.length := by have := of_decide_eq_true hb10; omega
   obtain ⟨s, hx⟩ : ∃ s, ls[k]? = some s := ⟨_, List.getElem?_eq_getElem hkn⟩
   have hsl := hb2 s (List.mem_of_getElem? hx)
   have hfk := foldK_step hx hX.1
   have hbT : bndT k l := hX.2.2
   have hbL : l.length ≤ k := hbT.1
   refine Exec.skipS (Exec.blk (Exec.reg ?_))
   have X := X.a hx
   refine Run.o1 V77 ?_
   iterate 2 (refine Run.o1 V152 ?_)
   refine Run.nil (Exec.reg ?_)
   iterate 2 (refine Run.o1 V152 ?_)
   refine Run.o1 V59 ?_
   refine Run.o1 V152 ?_
   refine Run.nil ?_
   by_cases hck : chkOK s = true
   ·skip
    have hcc := (chk_cases (own := s)).resolve_right (fun h => by rw [hck] at h; exact absurd h.1 (by simp))
    obtain ⟨_, k3, k4, k5⟩ := hcc
    have d17 : decide ((s.length : Int) - 2 > 0) = true := decide_eq_true (by omega)
    have tn : ((s.length : Int) - 2).toNat = s.length - 2 := by omega
    have hge : (0 ≤ (s.length : Int) - 2) = True := eq_true (by omega)
    have tn1 : ((s.length : Int) - 2 + 1).toNat = s.length - 1 := by omega
    have d33 : (chk (s.take (s.length - 2)) == s.drop (s.length - 1)) = true := beq_iff_eq.2 k5
    have d32 : (((32 : UInt8).toNat : Int) == 32) = true := rfl
    obtain ⟨c, hc0⟩ : ∃ c, s[0]? = some c := ⟨_, List.getElem?_eq_getElem (by omega)⟩
    have hhd : s.head? = some c := by rw [List.head?_eq_getElem?]; exact hc0
    refine Exec.opk 22 ?_
    have X := (((((((X.a d17).a hge).a tn).a tn1).a d33).a d32).a k4).a hc0
    iterate 3 (refine OpenK.o1 V91 ?_)
    iterate 4 (refine OpenK.y1 V91 ?_)
    iterate 2 (refine OpenK.o1 V91 ?_)
    iterate 2 (refine OpenK.y1 V91 ?_)
    refine OpenK.y1 V38 ?_
    refine OpenK.calw V156 (c_check (s.take (s.length - 2)) V154) V158 V91 V91 V66 (fr0) V91 V156 V156 ?_
    iterate 2 (refine OpenK.y1 V91 ?_)
    refine OpenK.y1 V39 ?_
    refine OpenK.y1 V38 ?_
    refine OpenK.y1 V91 ?_
    refine OpenK.o1 V91 ?_
    refine OpenK.cal (c_need true rfl) V158 V91 V66 (fr0) V91 V156 V156 ?_
    refine OpenK.nil (OpenE.finT V162 V162 V162 ?_)
    refine Exec.assocS ?_
    by_cases hc : c = 35
    ·skip
     subst hc
     have d35 : (((35 : UInt8).toNat : Int) == 35) = true := rfl
     have hst := stepPh (l := l) hck hhd
     rw [hst] at hfk
     refine Exec.reg ?_
     have X := X.a d35
     iterate 3 (refine Run.o1 V91 ?_)
     refine Run.nil ?_
     refine Exec.cndS V91 (fun hb38 => ?_) (fun hb38 => ?_)
     ·skip
      refine Exec.assocS ?_
      by_cases hmp : meterP (s.take (s.length - 2)) = none
      ·skip
       exact absurd (bad_P (hfk.trans (by rw [hmp]; rfl))) (by rw [hm]; simp)
      ·skip
       obtain ⟨m, hm1⟩ := Option.ne_none_iff_exists'.1 hmp
       rw [hm1, Option.map_some] at hfk
       have hnx := bndT_new hbT m
       by_cases hl0 : l = []
       ·skip
        subst hl0
        have hta : List.take (lastT []).length (List.map encTr (lastT [])) = List.map encTr (lastT []) := rfl
        refine Exec.reg ?_
        have X := Fx.mk hta
        refine Run.frz 1001 V152 ?_
        have X := ((((((((((((Fx.mk hpe).a h00).a hrl).a hx).a d17).a hge).a tn).a tn1).a d33).a d32).a k4).a hc0).a d35
        iterate 3 (refine Run.o1 V91 ?_)
        refine Run.o1 V38 ?_
        refine Run.c1 (c_meter hm1) V91 V91 ?_
        iterate 2 (refine Run.o1 V91 ?_)
        refine Run.o1 V3 ?_
        refine Run.o1 V91 ?_
        refine Run.pinNil 1002 1001 146 3 (.inr ⟨_, _, V156⟩) V156 (by omega) (by omega) (by omega) (by omega) V156 ?_
        refine Run.nil (Exec.exitS (BlkK.hit (Exec.reg1 ?_)))
        refine Run.o1 V39 ?_
        refine Run.o1 V91 ?_
        refine Run.nil ?_
        refine WhlK.nxt ((k + 1, [⟨m, []⟩], .slice none 0 0)) ?_ ?_ ?_
        ·show ls.length - (k + 1) < ls.length - k; omega
        ·exact ⟨hfk, hkn, hnx⟩
        ·exact Ghost.kp [1, 7, 8, 9] [1000, 1001, 1002] V12
       ·skip
        obtain ⟨l1, x, rfl⟩ := (snoc_or l).resolve_left hl0
        have hrv := rowsV_snoc l1 x v
        have hlt := lastT_snoc l1 x
        have hll : (l1 ++ [x]).length = l1.length + 1 := by simp
        have hrl2 := rows_len l1
        have hl1 : l1.length ≤ 200000000 := by omega
        have hta : List.take x.tries.length (List.map encTr x.tries) = List.map encTr x.tries := List.take_of_length_le (by simp)
        have hrb := rows_back l1 x
        have hr2 : rowsV (l1 ++ [x] ++ [⟨m, []⟩]) (.slice none 0 0) = (l1.map encSh ++ [[D.i x.meter, trsD x.tries]]) ++ [[.i m, .raw (.slice none 0 0)]] := by rw [rowsV_snoc, rows_back]
        have hl2 : lastT (l1 ++ [x] ++ [⟨m, []⟩]) = [] := lastT_snoc _ _
        refine Exec.reg ?_
        have X := ((Fx.mk hrv).a hlt).a hta
        refine Run.frz 1001 V152 ?_
        refine Run.unpinR 1002 1000 V152 V152 V152 ?_
        have X := ((((((((((((((((Fx.mk hpe).a h00).a hrl).a hx).a d17).a hge).a tn).a tn1).a d33).a d32).a k4).a hc0).a d35).a hll).a hrl2).a hr2).a hl2
        iterate 3 (refine Run.o1 V78 ?_)
        refine Run.o1 V24 ?_
        refine Run.c1 (c_meter hm1) V78 V78 ?_
        iterate 2 (refine Run.o1 V78 ?_)
        refine Run.o1 V1 ?_
        refine Run.o1 V78 ?_
        refine Run.pinNil 1002 1001 146 3 (.inr ⟨_, _, V156⟩) V156 (by omega) (by omega) (by omega) (by omega) V156 ?_
        refine Run.nil (Exec.exitS (BlkK.hit (Exec.reg1 ?_)))
        refine Run.o1 V28 ?_
        refine Run.o1 V78 ?_
        refine Run.nil ?_
        refine WhlK.nxt ((k + 1, l1 ++ [x] ++ [⟨m, []⟩], .slice none 0 0)) ?_ ?_ ?_
        ·show ls.length - (k + 1) < ls.length - k; omega
        ·exact ⟨hfk, hkn, hnx⟩
        ·exact Ghost.kp [1, 7, 8, 9] [1000, 1001, 1002] V10
     ·exact absurd hb38 (by simp)
    ·skip
     have hnh : s.head? ≠ some 35 := fun h => by rw [hhd] at h; exact hc (Option.some.inj h)
     have d35 : ((c.toNat : Int) == 35) = false := beq_eq_false_iff_ne.2 (fun h => hc (UInt8.toNat_inj.1 V136))
     refine Exec.reg ?_
     have X := X.a d35
     iterate 3 (refine Run.o1 V91 ?_)
     refine Run.nil ?_
     refine Exec.cndS V91 (fun hb38 => ?_) (fun hb38 => ?_)
     ·exact absurd hb38 (by simp)
     ·skip
      refine Exec.skipS ?_
      by_cases hl0 : l = []
      ·skip
       exact absurd (bad_P (hfk.trans (hl0 ▸ stepPn hck hnh))) (by rw [hm]; simp)
      ·skip
       obtain ⟨l1, x, rfl⟩ := (snoc_or l).resolve_left hl0
       have hrv := rowsV_snoc l1 x v
       have hlt := lastT_snoc l1 x
       have hll : (l1 ++ [x]).length = l1.length + 1 := by simp
       have hrl2 := rows_len l1
       have hl1 : l1.length ≤ 200000000 := by omega
       have hta : List.take x.tries.length (List.map encTr x.tries) = List.map encTr x.tries := List.take_of_length_le (by simp)
       have d4 : decide (((l1.length + 1 : Nat) : Int) > 0) = true := decide_eq_true (by omega)
       have hst := stepPt (l := l1) (x := x) hck hnh
       rw [hst] at hfk
       have t1 : (((l1.length + 1 : Nat) : Int) - 1).toNat = l1.length := by omega
       have hra := rows_at l1
       have hxt : x.tries.length ≤ k := hbT.2 x (by simp)
       refine Exec.reg ?_
       have X := ((((((X.a hll).a d4).a hrv).a hlt).a hrl2).a t1).a hra
       iterate 3 (refine Run.o1 V91 ?_)
       refine Run.c1 (c_need true rfl) V91 V91 ?_
       refine Run.nil (Exec.reg ?_)
       iterate 3 (refine Run.o1 V91 ?_)
       refine Run.o1 V39 ?_
       refine Run.o1 V38 ?_
       refine Run.o1 V91 ?_
       refine Run.nil ?_
       by_cases htp : tryP (s.take (s.length - 2)) = none
       ·skip
        exact absurd (bad_P (hfk.trans (by rw [htp]; rfl))) (by rw [hm]; simp)
       ·skip
        obtain ⟨t, ht1⟩ := Option.ne_none_iff_exists'.1 htp
        rw [ht1, Option.map_some] at hfk
        have hnx := bndT_try hbT t
        have hlt2 : lastT (l1 ++ [⟨x.meter, x.tries ++ [t]⟩]) = x.tries ++ [t] := lastT_snoc _ _
        refine Exec.opl1 16 13 rfl V160 ?_
        iterate 4 (refine OpenK.o1 V86 ?_)
        refine OpenK.pinl 1002 V156 V86 V86 V156 V156 ?_
        iterate 2 (refine OpenK.o1 V86 ?_)
        refine OpenK.o1 V30 ?_
        refine OpenK.cal (c_try ht1) V158 V86 V66 (fr0) V86 V156 V156 ?_
        refine OpenK.o1 V86 ?_
        refine OpenK.o1 V2 ?_
        iterate 2 (refine OpenK.o1 V86 ?_)
        refine OpenK.nil (OpenLE.pin (s := 66) (G := 1002) V160 V160 V156 V86 (.inr ⟨_, _, V86⟩) (fun u => V156) (fun u => V86) (fun u => V156) fun u => ?_)
        refine BlkK.nrm (Exec.reg1 ?_)
        refine Run.o1 V34 ?_
        refine Run.o1 V86 ?_
        refine Run.nil ?_
        refine WhlK.nxt ((k + 1, l1 ++ [⟨x.meter, x.tries ++ [t]⟩], u)) ?_ ?_ ?_
        ·show ls.length - (k + 1) < ls.length - k; omega
        ·exact ⟨hfk, hkn, hnx⟩
        ·exact Ghost.kp [1, 7, 8, 9] [1000, 1001, 1002] V8
   ·skip
    exact absurd (bad_P (hfk.trans (stepPb (by simpa using hck)))) (by rw [hm]; simp)
  ·skip
   have hke : k = ls.length := by have := of_decide_eq_false hb10; have := hX.2.1; omega
   have hf1 := end_P hX.1 hke
   rw [hm] at hf1
   have hle : lf = l := Option.some.inj hf1
   subst hle
   have hbT : bndT k lf := hX.2.2
   have hbL : lf.length ≤ k := hbT.1
   clear hf1
   refine Exec.exitS (WhlK.ext (BlkK.hit ?_))
   by_cases hl0 : lf = []
   ·skip
    subst hl0
    have hta : List.take (lastT []).length (List.map encTr (lastT [])) = List.map encTr (lastT []) := rfl
    have hrv := rowsV_nil v
    refine Exec.reg ?_
    have X := Fx.mk hta
    refine Run.frz 1001 V152 ?_
    have X := Fx.mk hrv
    refine Run.frz 1000 (by simp only [go_sem, X.h, List.take_nil] <;> rfl) ?_
    have X := ((Fx.mk hpe).a h00).a hrl
    refine Run.o1 V152 ?_
    refine Run.c1 (c_sheetsErrorX [] (by simp) (by simp)) V152 V152 ?_
    refine Run.o1 V152 ?_
    refine Run.c1 (c_need true rfl) V152 V152 ?_
    refine Run.nil (Exec.reg ?_)
    iterate 2 (refine Run.o1 V152 ?_)
    refine Run.nil ?_
    exact Ends.fin [] (rs := [.tmp 1]) rfl V152 V121
   ·skip
    have hz : ∀ y ∈ lf, y.tries.length ≤ 1000 := fun y hy => by have := hbT.2 y hy; omega
    obtain ⟨l1, x, rfl⟩ := (snoc_or lf).resolve_left hl0
    have hrv := rowsV_snoc l1 x v
    have hlt := lastT_snoc l1 x
    have hll : (l1 ++ [x]).length = l1.length + 1 := by simp
    have hrl2 := rows_len l1
    have hl1 : l1.length ≤ 200000000 := by omega
    have hta : List.take x.tries.length (List.map encTr x.tries) = List.map encTr x.tries := List.take_of_length_le (by simp)
    have htr := take_rows l1 x
    refine Exec.reg ?_
    have X := ((Fx.mk hrv).a hlt).a hta
    refine Run.frz 1001 V152 ?_
    refine Run.unpinR 1002 1000 V152 V152 V152 ?_
    have X := ((Fx.mk hll).a hrl2).a htr
    refine Run.frz 1000 V152 ?_
    have X := ((((Fx.mk hpe).a h00).a hrl).a hll).a hrl2
    refine Run.o1 V152 ?_
    refine Run.c1 (c_sheetsErrorX (l1 ++ [x]) (by omega) hz) V152 V152 ?_
    refine Run.o1 V152 ?_
    refine Run.c1 (c_need true rfl) V152 V152 ?_
    refine Run.nil (Exec.reg ?_)
    iterate 2 (refine Run.o1 V152 ?_)
    refine Run.nil ?_
    exact Ends.fin [] (rs := [.tmp 1]) rfl V152 V121

set_option maxRecDepth 20000 in
set_option maxHeartbeats 16000000 in
theorem p_rdS2 (text : Bs) (ls : List Bs) (lf : List Sh) (hl : text.length ≤ 3000) (h : linesP text = some ls) (hm : ls.foldlM stepP [] = some lf) (hpe : sheetsE lf ≠ 0) : Pan Tryz.prog pvE 91 [.leaf (.d (.pt [.raw (.string (bs text))]))] [] := by
 obtain ⟨hb1, hb2⟩ := lines_bnd h
 have h00 : (sheetsE lf == 0) = false := by simpa using hpe
 have hl4 := ends_long ls (fold_long ls [] lf hm)
 rw [← lines_back h] at hl4
 refine pan_of follows_mixed Tryz.func91 rfl V102 V162 rfl ?_
 refine Exec.reg ?_
 have X := Fx.mk h00
 refine Run.o1 V152 ?_
 refine Run.nil (Exec.assocS (Exec.reg ?_))
 refine Run.o1 V152 ?_
 refine Run.c1 (c_lines (by omega) h) V152 V152 ?_
 iterate 2 (refine Run.o1 V152 ?_)
 refine Run.nilo 1 1000 68 2 V156 V156 (by omega) (by omega) V156 ?_
 refine Run.pinNil 1002 1001 146 3 (.inl V156) V156 (by omega) (by omega) (by omega) (by omega) V156 ?_
 refine Run.nil (Exec.blk ?_)
 refine Exec.whl [1, 7, 8, 9] [1000, 1001, 1002] (fun (q : Nat × List Sh × Value) => [.slot 1 (.leaf (.own 1000 0 q.2.1.length q.2.1.length)), .slot 9 (.int q.1), .obj 1000 (.arr 68 2 (rowsV q.2.1 q.2.2)), .obj 1001 (.arr 146 3 ((lastT q.2.1).map encTr)), .obj 1002 (.pin q.2.2 (.own 1001 0 (lastT q.2.1).length (lastT q.2.1).length))]) (fun q => stP ls q) (fun q => ls.length - q.1) ((0, ([] : List Sh), Value.slice none 0 0)) (fun q => by simp only [go_sem] <;> rfl) (by simp only [go_sem, X.h, Int.natCast_zero, rowsV_nil, lastT_nil, List.map_nil, List.length_nil] <;> rfl) ?_ (fun q hX => ?_)
 ·exact ⟨foldK_zero _ _, Nat.zero_le _, bndT_nil⟩
 ·skip
  obtain ⟨k, l, v⟩ := q
  dsimp only at hX ⊢
  have hrl := rowsV_len l v
  have hkb := hX.2.1
  refine Exec.reg ?_
  have X := X.a hrl
  refine Run.o1 V152 ?_
  refine Run.nil ?_
  refine Exec.cndS V152 (fun hb10 => ?_) (fun hb10 => ?_)
  ·skip
   have hkn : k < ls.length := by have := of_decide_eq_true hb10; omega
   obtain ⟨s, hx⟩ : ∃ s, ls[k]? = some s := ⟨_, List.getElem?_eq_getElem hkn⟩
   have hsl := hb2 s (List.mem_of_getElem? hx)
   have hfk := foldK_step hx hX.1
   have hbT : bndT k l := hX.2.2
   have hbL : l.length ≤ k := hbT.1
   refine Exec.skipS (Exec.blk (Exec.reg ?_))
   have X := X.a hx
   refine Run.o1 V77 ?_
   iterate 2 (refine Run.o1 V152 ?_)
   refine Run.nil (Exec.reg ?_)
   iterate 2 (refine Run.o1 V152 ?_)
   refine Run.o1 V59 ?_
   refine Run.o1 V152 ?_
   refine Run.nil ?_
   by_cases hck : chkOK s = true
   ·skip
    have hcc := (chk_cases (own := s)).resolve_right (fun h => by rw [hck] at h; exact absurd h.1 (by simp))
    obtain ⟨_, k3, k4, k5⟩ := hcc
    have d17 : decide ((s.length : Int) - 2 > 0) = true := decide_eq_true (by omega)
    have tn : ((s.length : Int) - 2).toNat = s.length - 2 := by omega
    have hge : (0 ≤ (s.length : Int) - 2) = True := eq_true (by omega)
    have tn1 : ((s.length : Int) - 2 + 1).toNat = s.length - 1 := by omega
    have d33 : (chk (s.take (s.length - 2)) == s.drop (s.length - 1)) = true := beq_iff_eq.2 k5
    have d32 : (((32 : UInt8).toNat : Int) == 32) = true := rfl
    obtain ⟨c, hc0⟩ : ∃ c, s[0]? = some c := ⟨_, List.getElem?_eq_getElem (by omega)⟩
    have hhd : s.head? = some c := by rw [List.head?_eq_getElem?]; exact hc0
    refine Exec.opk 22 ?_
    have X := (((((((X.a d17).a hge).a tn).a tn1).a d33).a d32).a k4).a hc0
    iterate 3 (refine OpenK.o1 V91 ?_)
    iterate 4 (refine OpenK.y1 V91 ?_)
    iterate 2 (refine OpenK.o1 V91 ?_)
    iterate 2 (refine OpenK.y1 V91 ?_)
    refine OpenK.y1 V38 ?_
    refine OpenK.calw V156 (c_check (s.take (s.length - 2)) V154) V158 V91 V91 V66 (fr0) V91 V156 V156 ?_
    iterate 2 (refine OpenK.y1 V91 ?_)
    refine OpenK.y1 V39 ?_
    refine OpenK.y1 V38 ?_
    refine OpenK.y1 V91 ?_
    refine OpenK.o1 V91 ?_
    refine OpenK.cal (c_need true rfl) V158 V91 V66 (fr0) V91 V156 V156 ?_
    refine OpenK.nil (OpenE.finT V162 V162 V162 ?_)
    refine Exec.assocS ?_
    by_cases hc : c = 35
    ·skip
     subst hc
     have d35 : (((35 : UInt8).toNat : Int) == 35) = true := rfl
     have hst := stepPh (l := l) hck hhd
     rw [hst] at hfk
     refine Exec.reg ?_
     have X := X.a d35
     iterate 3 (refine Run.o1 V91 ?_)
     refine Run.nil ?_
     refine Exec.cndS V91 (fun hb38 => ?_) (fun hb38 => ?_)
     ·skip
      refine Exec.assocS ?_
      by_cases hmp : meterP (s.take (s.length - 2)) = none
      ·skip
       exact absurd (bad_P (hfk.trans (by rw [hmp]; rfl))) (by rw [hm]; simp)
      ·skip
       obtain ⟨m, hm1⟩ := Option.ne_none_iff_exists'.1 hmp
       rw [hm1, Option.map_some] at hfk
       have hnx := bndT_new hbT m
       by_cases hl0 : l = []
       ·skip
        subst hl0
        have hta : List.take (lastT []).length (List.map encTr (lastT [])) = List.map encTr (lastT []) := rfl
        refine Exec.reg ?_
        have X := Fx.mk hta
        refine Run.frz 1001 V152 ?_
        have X := (((((((((((Fx.mk h00).a hrl).a hx).a d17).a hge).a tn).a tn1).a d33).a d32).a k4).a hc0).a d35
        iterate 3 (refine Run.o1 V91 ?_)
        refine Run.o1 V38 ?_
        refine Run.c1 (c_meter hm1) V91 V91 ?_
        iterate 2 (refine Run.o1 V91 ?_)
        refine Run.o1 V3 ?_
        refine Run.o1 V91 ?_
        refine Run.pinNil 1002 1001 146 3 (.inr ⟨_, _, V156⟩) V156 (by omega) (by omega) (by omega) (by omega) V156 ?_
        refine Run.nil (Exec.exitS (BlkK.hit (Exec.reg1 ?_)))
        refine Run.o1 V39 ?_
        refine Run.o1 V91 ?_
        refine Run.nil ?_
        refine WhlK.nxt ((k + 1, [⟨m, []⟩], .slice none 0 0)) ?_ ?_ ?_
        ·show ls.length - (k + 1) < ls.length - k; omega
        ·exact ⟨hfk, hkn, hnx⟩
        ·exact Ghost.kp [1, 7, 8, 9] [1000, 1001, 1002] V12
       ·skip
        obtain ⟨l1, x, rfl⟩ := (snoc_or l).resolve_left hl0
        have hrv := rowsV_snoc l1 x v
        have hlt := lastT_snoc l1 x
        have hll : (l1 ++ [x]).length = l1.length + 1 := by simp
        have hrl2 := rows_len l1
        have hl1 : l1.length ≤ 200000000 := by omega
        have hta : List.take x.tries.length (List.map encTr x.tries) = List.map encTr x.tries := List.take_of_length_le (by simp)
        have hrb := rows_back l1 x
        have hr2 : rowsV (l1 ++ [x] ++ [⟨m, []⟩]) (.slice none 0 0) = (l1.map encSh ++ [[D.i x.meter, trsD x.tries]]) ++ [[.i m, .raw (.slice none 0 0)]] := by rw [rowsV_snoc, rows_back]
        have hl2 : lastT (l1 ++ [x] ++ [⟨m, []⟩]) = [] := lastT_snoc _ _
        refine Exec.reg ?_
        have X := ((Fx.mk hrv).a hlt).a hta
        refine Run.frz 1001 V152 ?_
        refine Run.unpinR 1002 1000 V152 V152 V152 ?_
        have X := (((((((((((((((Fx.mk h00).a hrl).a hx).a d17).a hge).a tn).a tn1).a d33).a d32).a k4).a hc0).a d35).a hll).a hrl2).a hr2).a hl2
        iterate 3 (refine Run.o1 V78 ?_)
        refine Run.o1 V24 ?_
        refine Run.c1 (c_meter hm1) V78 V78 ?_
        iterate 2 (refine Run.o1 V78 ?_)
        refine Run.o1 V1 ?_
        refine Run.o1 V78 ?_
        refine Run.pinNil 1002 1001 146 3 (.inr ⟨_, _, V156⟩) V156 (by omega) (by omega) (by omega) (by omega) V156 ?_
        refine Run.nil (Exec.exitS (BlkK.hit (Exec.reg1 ?_)))
        refine Run.o1 V28 ?_
        refine Run.o1 V78 ?_
        refine Run.nil ?_
        refine WhlK.nxt ((k + 1, l1 ++ [x] ++ [⟨m, []⟩], .slice none 0 0)) ?_ ?_ ?_
        ·show ls.length - (k + 1) < ls.length - k; omega
        ·exact ⟨hfk, hkn, hnx⟩
        ·exact Ghost.kp [1, 7, 8, 9] [1000, 1001, 1002] V10
     ·exact absurd hb38 (by simp)
    ·skip
     have hnh : s.head? ≠ some 35 := fun h => by rw [hhd] at h; exact hc (Option.some.inj h)
     have d35 : ((c.toNat : Int) == 35) = false := beq_eq_false_iff_ne.2 (fun h => hc (UInt8.toNat_inj.1 V136))
     refine Exec.reg ?_
     have X := X.a d35
     iterate 3 (refine Run.o1 V91 ?_)
     refine Run.nil ?_
     refine Exec.cndS V91 (fun hb38 => ?_) (fun hb38 => ?_)
     ·exact absurd hb38 (by simp)
     ·skip
      refine Exec.skipS ?_
      by_cases hl0 : l = []
      ·skip
       exact absurd (bad_P (hfk.trans (hl0 ▸ stepPn hck hnh))) (by rw [hm]; simp)
      ·skip
       obtain ⟨l1, x, rfl⟩ := (snoc_or l).resolve_left hl0
       have hrv := rowsV_snoc l1 x v
       have hlt := lastT_snoc l1 x
       have hll : (l1 ++ [x]).length = l1.length + 1 := by simp
       have hrl2 := rows_len l1
       have hl1 : l1.length ≤ 200000000 := by omega
       have hta : List.take x.tries.length (List.map encTr x.tries) = List.map encTr x.tries := List.take_of_length_le (by simp)
       have d4 : decide (((l1.length + 1 : Nat) : Int) > 0) = true := decide_eq_true (by omega)
       have hst := stepPt (l := l1) (x := x) hck hnh
       rw [hst] at hfk
       have t1 : (((l1.length + 1 : Nat) : Int) - 1).toNat = l1.length := by omega
       have hra := rows_at l1
       have hxt : x.tries.length ≤ k := hbT.2 x (by simp)
       refine Exec.reg ?_
       have X := ((((((X.a hll).a d4).a hrv).a hlt).a hrl2).a t1).a hra
       iterate 3 (refine Run.o1 V91 ?_)
       refine Run.c1 (c_need true rfl) V91 V91 ?_
       refine Run.nil (Exec.reg ?_)
       iterate 3 (refine Run.o1 V91 ?_)
       refine Run.o1 V39 ?_
       refine Run.o1 V38 ?_
       refine Run.o1 V91 ?_
       refine Run.nil ?_
       by_cases htp : tryP (s.take (s.length - 2)) = none
       ·skip
        exact absurd (bad_P (hfk.trans (by rw [htp]; rfl))) (by rw [hm]; simp)
       ·skip
        obtain ⟨t, ht1⟩ := Option.ne_none_iff_exists'.1 htp
        rw [ht1, Option.map_some] at hfk
        have hnx := bndT_try hbT t
        have hlt2 : lastT (l1 ++ [⟨x.meter, x.tries ++ [t]⟩]) = x.tries ++ [t] := lastT_snoc _ _
        refine Exec.opl1 16 13 rfl V160 ?_
        iterate 4 (refine OpenK.o1 V86 ?_)
        refine OpenK.pinl 1002 V156 V86 V86 V156 V156 ?_
        iterate 2 (refine OpenK.o1 V86 ?_)
        refine OpenK.o1 V30 ?_
        refine OpenK.cal (c_try ht1) V158 V86 V66 (fr0) V86 V156 V156 ?_
        refine OpenK.o1 V86 ?_
        refine OpenK.o1 V2 ?_
        iterate 2 (refine OpenK.o1 V86 ?_)
        refine OpenK.nil (OpenLE.pin (s := 66) (G := 1002) V160 V160 V156 V86 (.inr ⟨_, _, V86⟩) (fun u => V156) (fun u => V86) (fun u => V156) fun u => ?_)
        refine BlkK.nrm (Exec.reg1 ?_)
        refine Run.o1 V34 ?_
        refine Run.o1 V86 ?_
        refine Run.nil ?_
        refine WhlK.nxt ((k + 1, l1 ++ [⟨x.meter, x.tries ++ [t]⟩], u)) ?_ ?_ ?_
        ·show ls.length - (k + 1) < ls.length - k; omega
        ·exact ⟨hfk, hkn, hnx⟩
        ·exact Ghost.kp [1, 7, 8, 9] [1000, 1001, 1002] V8
   ·skip
    exact absurd (bad_P (hfk.trans (stepPb (by simpa using hck)))) (by rw [hm]; simp)
  ·skip
   have hke : k = ls.length := by have := of_decide_eq_false hb10; have := hX.2.1; omega
   have hf1 := end_P hX.1 hke
   rw [hm] at hf1
   have hle : lf = l := Option.some.inj hf1
   subst hle
   have hbT : bndT k lf := hX.2.2
   have hbL : lf.length ≤ k := hbT.1
   clear hf1
   refine Exec.exitS (WhlK.ext (BlkK.hit ?_))
   by_cases hl0 : lf = []
   ·skip
    subst hl0
    have hta : List.take (lastT []).length (List.map encTr (lastT [])) = List.map encTr (lastT []) := rfl
    have hrv := rowsV_nil v
    refine Exec.pan (pv := pvE) 3 rfl ?_
    have X := Fx.mk hta
    refine Run.frz 1001 V152 ?_
    have X := Fx.mk hrv
    refine Run.frz 1000 (by simp only [go_sem, X.h, List.take_nil] <;> rfl) ?_
    have X := (Fx.mk h00).a hrl
    refine Run.o1 V152 ?_
    refine Run.c1 (c_sheetsErrorX [] (by simp) (by simp)) V152 V152 ?_
    refine Run.o1 V152 ?_
    exact Run.panc (p_need false rfl) V158 V152 V66 rfl
   ·skip
    have hz : ∀ y ∈ lf, y.tries.length ≤ 1000 := fun y hy => by have := hbT.2 y hy; omega
    obtain ⟨l1, x, rfl⟩ := (snoc_or lf).resolve_left hl0
    have hrv := rowsV_snoc l1 x v
    have hlt := lastT_snoc l1 x
    have hll : (l1 ++ [x]).length = l1.length + 1 := by simp
    have hrl2 := rows_len l1
    have hl1 : l1.length ≤ 200000000 := by omega
    have hta : List.take x.tries.length (List.map encTr x.tries) = List.map encTr x.tries := List.take_of_length_le (by simp)
    have htr := take_rows l1 x
    refine Exec.pan (pv := pvE) 3 rfl ?_
    have X := ((Fx.mk hrv).a hlt).a hta
    refine Run.frz 1001 V152 ?_
    refine Run.unpinR 1002 1000 V152 V152 V152 ?_
    have X := ((Fx.mk hll).a hrl2).a htr
    refine Run.frz 1000 V152 ?_
    have X := (((Fx.mk h00).a hrl).a hll).a hrl2
    refine Run.o1 V152 ?_
    refine Run.c1 (c_sheetsErrorX (l1 ++ [x]) (by omega) hz) V152 V152 ?_
    refine Run.o1 V152 ?_
    exact Run.panc (p_need false rfl) V158 V152 V66 rfl

set_option maxRecDepth 20000 in
set_option maxHeartbeats 16000000 in
theorem p_rdS1 (text : Bs) (ls : List Bs) (hl : text.length ≤ 3000) (h : linesP text = some ls) (hm : ls.foldlM stepP [] = none) : Pan Tryz.prog pvE 91 [.leaf (.d (.pt [.raw (.string (bs text))]))] [] := by
 obtain ⟨hb1, hb2⟩ := lines_bnd h
 refine pan_of follows_mixed Tryz.func91 rfl V102 V162 rfl ?_
 refine Exec.reg ?_
 refine Run.o ?_
 refine Run.nil (Exec.assocS (Exec.reg ?_))
 refine Run.o ?_
 refine Run.c1 (c_lines (by omega) h) V156 V156 ?_
 iterate 2 (refine Run.o ?_)
 refine Run.nilo 1 1000 68 2 V156 V156 (by omega) (by omega) V156 ?_
 refine Run.pinNil 1002 1001 146 3 (.inl V156) V156 (by omega) (by omega) (by omega) (by omega) V156 ?_
 refine Run.nil (Exec.blk ?_)
 refine Exec.whl [1, 7, 8, 9] [1000, 1001, 1002] (fun (q : Nat × List Sh × Value) => [.slot 1 (.leaf (.own 1000 0 q.2.1.length q.2.1.length)), .slot 9 (.int q.1), .obj 1000 (.arr 68 2 (rowsV q.2.1 q.2.2)), .obj 1001 (.arr 146 3 ((lastT q.2.1).map encTr)), .obj 1002 (.pin q.2.2 (.own 1001 0 (lastT q.2.1).length (lastT q.2.1).length))]) (fun q => stP ls q) (fun q => ls.length - q.1) ((0, ([] : List Sh), Value.slice none 0 0)) (fun q => by simp only [go_sem] <;> rfl) (by simp only [go_sem, Int.natCast_zero, rowsV_nil, lastT_nil, List.map_nil, List.length_nil] <;> rfl) ?_ (fun q hX => ?_)
 ·exact ⟨foldK_zero _ _, Nat.zero_le _, bndT_nil⟩
 ·skip
  obtain ⟨k, l, v⟩ := q
  dsimp only at hX ⊢
  have hrl := rowsV_len l v
  have hkb := hX.2.1
  refine Exec.reg ?_
  have X := Fx.mk hrl
  refine Run.o1 V152 ?_
  refine Run.nil ?_
  refine Exec.cndS V152 (fun hb10 => ?_) (fun hb10 => ?_)
  ·skip
   have hkn : k < ls.length := by have := of_decide_eq_true hb10; omega
   obtain ⟨s, hx⟩ : ∃ s, ls[k]? = some s := ⟨_, List.getElem?_eq_getElem hkn⟩
   have hsl := hb2 s (List.mem_of_getElem? hx)
   have hfk := foldK_step hx hX.1
   have hbT : bndT k l := hX.2.2
   have hbL : l.length ≤ k := hbT.1
   refine Exec.skipS (Exec.blk (Exec.reg ?_))
   have X := X.a hx
   refine Run.o1 V77 ?_
   iterate 2 (refine Run.o1 V152 ?_)
   refine Run.nil (Exec.reg ?_)
   iterate 2 (refine Run.o1 V152 ?_)
   refine Run.o1 V59 ?_
   refine Run.o1 V152 ?_
   refine Run.nil ?_
   by_cases hck : chkOK s = true
   ·skip
    have hcc := (chk_cases (own := s)).resolve_right (fun h => by rw [hck] at h; exact absurd h.1 (by simp))
    obtain ⟨_, k3, k4, k5⟩ := hcc
    have d17 : decide ((s.length : Int) - 2 > 0) = true := decide_eq_true (by omega)
    have tn : ((s.length : Int) - 2).toNat = s.length - 2 := by omega
    have hge : (0 ≤ (s.length : Int) - 2) = True := eq_true (by omega)
    have tn1 : ((s.length : Int) - 2 + 1).toNat = s.length - 1 := by omega
    have d33 : (chk (s.take (s.length - 2)) == s.drop (s.length - 1)) = true := beq_iff_eq.2 k5
    have d32 : (((32 : UInt8).toNat : Int) == 32) = true := rfl
    obtain ⟨c, hc0⟩ : ∃ c, s[0]? = some c := ⟨_, List.getElem?_eq_getElem (by omega)⟩
    have hhd : s.head? = some c := by rw [List.head?_eq_getElem?]; exact hc0
    refine Exec.opk 22 ?_
    have X := (((((((X.a d17).a hge).a tn).a tn1).a d33).a d32).a k4).a hc0
    iterate 3 (refine OpenK.o1 V91 ?_)
    iterate 4 (refine OpenK.y1 V91 ?_)
    iterate 2 (refine OpenK.o1 V91 ?_)
    iterate 2 (refine OpenK.y1 V91 ?_)
    refine OpenK.y1 V38 ?_
    refine OpenK.calw V156 (c_check (s.take (s.length - 2)) V154) V158 V91 V91 V66 (fr0) V91 V156 V156 ?_
    iterate 2 (refine OpenK.y1 V91 ?_)
    refine OpenK.y1 V39 ?_
    refine OpenK.y1 V38 ?_
    refine OpenK.y1 V91 ?_
    refine OpenK.o1 V91 ?_
    refine OpenK.cal (c_need true rfl) V158 V91 V66 (fr0) V91 V156 V156 ?_
    refine OpenK.nil (OpenE.finT V162 V162 V162 ?_)
    refine Exec.assocS ?_
    by_cases hc : c = 35
    ·skip
     subst hc
     have d35 : (((35 : UInt8).toNat : Int) == 35) = true := rfl
     have hst := stepPh (l := l) hck hhd
     rw [hst] at hfk
     refine Exec.reg ?_
     have X := X.a d35
     iterate 3 (refine Run.o1 V91 ?_)
     refine Run.nil ?_
     refine Exec.cndS V91 (fun hb38 => ?_) (fun hb38 => ?_)
     ·skip
      refine Exec.assocS ?_
      by_cases hmp : meterP (s.take (s.length - 2)) = none
      ·skip
       skip
       refine Exec.pan (pv := pvE) 4 rfl ?_
       iterate 3 (refine Run.o1 V91 ?_)
       refine Run.o1 V38 ?_
       exact Run.panc (p_meter V154 hmp) V158 V91 V66 rfl
      ·skip
       obtain ⟨m, hm1⟩ := Option.ne_none_iff_exists'.1 hmp
       rw [hm1, Option.map_some] at hfk
       have hnx := bndT_new hbT m
       by_cases hl0 : l = []
       ·skip
        subst hl0
        have hta : List.take (lastT []).length (List.map encTr (lastT [])) = List.map encTr (lastT []) := rfl
        refine Exec.reg ?_
        have X := Fx.mk hta
        refine Run.frz 1001 V152 ?_
        have X := ((((((((((Fx.mk hrl).a hx).a d17).a hge).a tn).a tn1).a d33).a d32).a k4).a hc0).a d35
        iterate 3 (refine Run.o1 V91 ?_)
        refine Run.o1 V38 ?_
        refine Run.c1 (c_meter hm1) V91 V91 ?_
        iterate 2 (refine Run.o1 V91 ?_)
        refine Run.o1 V3 ?_
        refine Run.o1 V91 ?_
        refine Run.pinNil 1002 1001 146 3 (.inr ⟨_, _, V156⟩) V156 (by omega) (by omega) (by omega) (by omega) V156 ?_
        refine Run.nil (Exec.exitS (BlkK.hit (Exec.reg1 ?_)))
        refine Run.o1 V39 ?_
        refine Run.o1 V91 ?_
        refine Run.nil ?_
        refine WhlK.nxt ((k + 1, [⟨m, []⟩], .slice none 0 0)) ?_ ?_ ?_
        ·show ls.length - (k + 1) < ls.length - k; omega
        ·exact ⟨hfk, hkn, hnx⟩
        ·exact Ghost.kp [1, 7, 8, 9] [1000, 1001, 1002] V12
       ·skip
        obtain ⟨l1, x, rfl⟩ := (snoc_or l).resolve_left hl0
        have hrv := rowsV_snoc l1 x v
        have hlt := lastT_snoc l1 x
        have hll : (l1 ++ [x]).length = l1.length + 1 := by simp
        have hrl2 := rows_len l1
        have hl1 : l1.length ≤ 200000000 := by omega
        have hta : List.take x.tries.length (List.map encTr x.tries) = List.map encTr x.tries := List.take_of_length_le (by simp)
        have hrb := rows_back l1 x
        have hr2 : rowsV (l1 ++ [x] ++ [⟨m, []⟩]) (.slice none 0 0) = (l1.map encSh ++ [[D.i x.meter, trsD x.tries]]) ++ [[.i m, .raw (.slice none 0 0)]] := by rw [rowsV_snoc, rows_back]
        have hl2 : lastT (l1 ++ [x] ++ [⟨m, []⟩]) = [] := lastT_snoc _ _
        refine Exec.reg ?_
        have X := ((Fx.mk hrv).a hlt).a hta
        refine Run.frz 1001 V152 ?_
        refine Run.unpinR 1002 1000 V152 V152 V152 ?_
        have X := ((((((((((((((Fx.mk hrl).a hx).a d17).a hge).a tn).a tn1).a d33).a d32).a k4).a hc0).a d35).a hll).a hrl2).a hr2).a hl2
        iterate 3 (refine Run.o1 V78 ?_)
        refine Run.o1 V24 ?_
        refine Run.c1 (c_meter hm1) V78 V78 ?_
        iterate 2 (refine Run.o1 V78 ?_)
        refine Run.o1 V1 ?_
        refine Run.o1 V78 ?_
        refine Run.pinNil 1002 1001 146 3 (.inr ⟨_, _, V156⟩) V156 (by omega) (by omega) (by omega) (by omega) V156 ?_
        refine Run.nil (Exec.exitS (BlkK.hit (Exec.reg1 ?_)))
        refine Run.o1 V28 ?_
        refine Run.o1 V78 ?_
        refine Run.nil ?_
        refine WhlK.nxt ((k + 1, l1 ++ [x] ++ [⟨m, []⟩], .slice none 0 0)) ?_ ?_ ?_
        ·show ls.length - (k + 1) < ls.length - k; omega
        ·exact ⟨hfk, hkn, hnx⟩
        ·exact Ghost.kp [1, 7, 8, 9] [1000, 1001, 1002] V10
     ·exact absurd hb38 (by simp)
    ·skip
     have hnh : s.head? ≠ some 35 := fun h => by rw [hhd] at h; exact hc (Option.some.inj h)
     have d35 : ((c.toNat : Int) == 35) = false := beq_eq_false_iff_ne.2 (fun h => hc (UInt8.toNat_inj.1 V136))
     refine Exec.reg ?_
     have X := X.a d35
     iterate 3 (refine Run.o1 V91 ?_)
     refine Run.nil ?_
     refine Exec.cndS V91 (fun hb38 => ?_) (fun hb38 => ?_)
     ·exact absurd hb38 (by simp)
     ·skip
      refine Exec.skipS ?_
      by_cases hl0 : l = []
      ·skip
       subst hl0
       have d4 : decide ((([] : List Sh).length : Int) > 0) = false := rfl
       refine Exec.pan (pv := pvE) 3 rfl ?_
       have X := X.a d4
       iterate 3 (refine Run.o1 V91 ?_)
       exact Run.panc (p_need false rfl) V158 V91 V66 rfl
      ·skip
       obtain ⟨l1, x, rfl⟩ := (snoc_or l).resolve_left hl0
       have hrv := rowsV_snoc l1 x v
       have hlt := lastT_snoc l1 x
       have hll : (l1 ++ [x]).length = l1.length + 1 := by simp
       have hrl2 := rows_len l1
       have hl1 : l1.length ≤ 200000000 := by omega
       have hta : List.take x.tries.length (List.map encTr x.tries) = List.map encTr x.tries := List.take_of_length_le (by simp)
       have d4 : decide (((l1.length + 1 : Nat) : Int) > 0) = true := decide_eq_true (by omega)
       have hst := stepPt (l := l1) (x := x) hck hnh
       rw [hst] at hfk
       have t1 : (((l1.length + 1 : Nat) : Int) - 1).toNat = l1.length := by omega
       have hra := rows_at l1
       have hxt : x.tries.length ≤ k := hbT.2 x (by simp)
       refine Exec.reg ?_
       have X := ((((((X.a hll).a d4).a hrv).a hlt).a hrl2).a t1).a hra
       iterate 3 (refine Run.o1 V91 ?_)
       refine Run.c1 (c_need true rfl) V91 V91 ?_
       refine Run.nil (Exec.reg ?_)
       iterate 3 (refine Run.o1 V91 ?_)
       refine Run.o1 V39 ?_
       refine Run.o1 V38 ?_
       refine Run.o1 V91 ?_
       refine Run.nil ?_
       by_cases htp : tryP (s.take (s.length - 2)) = none
       ·skip
        skip
        refine Exec.opp1 (pv := pvE) 16 8 [0, 1, 2, 3, 4, 5, 6, 7] rfl V160 ?_
        iterate 7 (refine OpenK.o1 V91 ?_)
        refine OpenK.o1 V38 ?_
        exact OpenK.pang [] 0 (p_try V154 htp) V158 V156 V156 V70 (fun q x h => by simp [look] at h) (fun q q' n h => by simp [look] at h) V160 V160 rfl
       ·skip
        obtain ⟨t, ht1⟩ := Option.ne_none_iff_exists'.1 htp
        rw [ht1, Option.map_some] at hfk
        have hnx := bndT_try hbT t
        have hlt2 : lastT (l1 ++ [⟨x.meter, x.tries ++ [t]⟩]) = x.tries ++ [t] := lastT_snoc _ _
        refine Exec.opl1 16 13 rfl V160 ?_
        iterate 4 (refine OpenK.o1 V86 ?_)
        refine OpenK.pinl 1002 V156 V86 V86 V156 V156 ?_
        iterate 2 (refine OpenK.o1 V86 ?_)
        refine OpenK.o1 V30 ?_
        refine OpenK.cal (c_try ht1) V158 V86 V66 (fr0) V86 V156 V156 ?_
        refine OpenK.o1 V86 ?_
        refine OpenK.o1 V2 ?_
        iterate 2 (refine OpenK.o1 V86 ?_)
        refine OpenK.nil (OpenLE.pin (s := 66) (G := 1002) V160 V160 V156 V86 (.inr ⟨_, _, V86⟩) (fun u => V156) (fun u => V86) (fun u => V156) fun u => ?_)
        refine BlkK.nrm (Exec.reg1 ?_)
        refine Run.o1 V34 ?_
        refine Run.o1 V86 ?_
        refine Run.nil ?_
        refine WhlK.nxt ((k + 1, l1 ++ [⟨x.meter, x.tries ++ [t]⟩], u)) ?_ ?_ ?_
        ·show ls.length - (k + 1) < ls.length - k; omega
        ·exact ⟨hfk, hkn, hnx⟩
        ·exact Ghost.kp [1, 7, 8, 9] [1000, 1001, 1002] V8
   ·skip
    have hck2 : chkOK s = false := by simpa using hck
    have hcc := ((chk_cases (own := s)).resolve_left (fun h => hck h.1)).2
    have tn : ((s.length : Int) - 2).toNat = s.length - 2 := by omega
    have tn1 : 3 ≤ s.length → ((s.length : Int) - 2 + 1).toNat = s.length - 1 := fun h => by omega
    by_cases hs3 : s.length < 3
    ·skip
     have d17 : decide ((s.length : Int) - 2 > 0) = false := decide_eq_false (by omega)
     refine Exec.opp (pv := pvE) 22 19 [0, 1, 2, 3, 4, 5, 6, 7, 8, 9, 10, 11, 12, 13, 14, 15, 16, 17, 18] rfl V160 ?_
     have X := (X.a tn).a d17
     iterate 3 (refine OpenK.o1 (by simp only [go_sem, X.h, List.drop_zero] <;> rfl) ?_)
     iterate 4 (refine OpenK.s ?_)
     iterate 2 (refine OpenK.o1 (by simp only [go_sem, X.h, List.drop_zero] <;> rfl) ?_)
     iterate 9 (refine OpenK.s ?_)
     refine OpenK.o1 (by simp only [go_sem, X.h, List.drop_zero] <;> rfl) ?_
     exact OpenK.pang [] 0 (p_need false rfl) V158 V156 V152 V70 (fun q x h => by simp [look] at h) (fun q q' n h => by simp [look] at h) V160 V160 rfl
    ·skip
     have d17 : decide ((s.length : Int) - 2 > 0) = true := decide_eq_true (by omega)
     have hcd := (hcc.resolve_left hs3).2
     have tn2 := tn1 (by omega)
     have hge : (0 ≤ (s.length : Int) - 2) = True := eq_true (by omega)
     by_cases h32 : s[s.length - 2]? = some 32
     ·skip
      have hne := (hcd.resolve_left (fun h => h h32)).2
      have d33 := bs_ne hne
      have d32 : (((32 : UInt8).toNat : Int) == 32) = true := rfl
      refine Exec.opp (pv := pvE) 22 19 [0, 1, 2, 3, 4, 5, 6, 7, 8, 9, 10, 11, 12, 13, 14, 15, 16, 17, 18] rfl V160 ?_
      have X := ((((((X.a tn).a d17).a hge).a tn2).a h32).a d32).a d33
      iterate 3 (refine OpenK.o1 V118 ?_)
      iterate 4 (refine OpenK.y1 V118 ?_)
      iterate 2 (refine OpenK.o1 V118 ?_)
      iterate 2 (refine OpenK.y1 V118 ?_)
      refine OpenK.y1 V54 ?_
      refine OpenK.calw V156 (c_check (s.take (s.length - 2)) V154) V158 V118 V118 V66 (fr0) V118 V156 V156 ?_
      iterate 2 (refine OpenK.y1 V118 ?_)
      refine OpenK.y1 (by simp only [go_sem, X.h, List.drop_zero, if_true]; (try simp (disch := omega) only [IntWalk.i64_in, IntWalk.u64_in, IntWalk.i32_in, IntWalk.u8_in, if_neg, if_pos])<;> rfl) ?_
      refine OpenK.y1 V54 ?_
      refine OpenK.y1 V118 ?_
      refine OpenK.o1 V118 ?_
      have X := ((((((((Fx.mk hrl).a hx).a tn).a tn2).a hge).a d17).a h32).a d32).a d33
      exact OpenK.pang [] 0 (p_need false rfl) V158 V156 (by simp only [go_sem, X.h, if_true] <;> rfl) V70 (fun q x h => by simp [look] at h) (fun q q' n h => by simp [look] at h) V160 V160 rfl
     ·skip
      obtain ⟨z, hz0⟩ : ∃ z, s[s.length - 2]? = some z := ⟨_, List.getElem?_eq_getElem (by omega)⟩
      have d32 : ((z.toNat : Int) == 32) = false := beq_eq_false_iff_ne.2 (fun h => h32 (by rw [hz0]; congr 1; exact UInt8.toNat_inj.1 (by have : (32 : UInt8).toNat = 32 := rfl; omega)))
      refine Exec.opp (pv := pvE) 22 19 [0, 1, 2, 3, 4, 5, 6, 7, 8, 9, 10, 11, 12, 13, 14, 15, 16, 17, 18] rfl V160 ?_
      have X := (((((X.a tn).a d17).a hge).a tn2).a hz0).a d32
      iterate 3 (refine OpenK.o1 V118 ?_)
      iterate 4 (refine OpenK.y1 V118 ?_)
      iterate 2 (refine OpenK.o1 V118 ?_)
      iterate 9 (refine OpenK.s ?_)
      refine OpenK.o1 V118 ?_
      have X := (((((((Fx.mk hrl).a hx).a tn).a tn2).a hge).a d17).a hz0).a d32
      exact OpenK.pang [] 0 (p_need false rfl) V158 V156 (by simp only [go_sem, X.h, if_true] <;> rfl) V70 (fun q x h => by simp [look] at h) (fun q q' n h => by simp [look] at h) V160 V160 rfl
  ·skip
   have hke : k = ls.length := by have := of_decide_eq_false hb10; have := hX.2.1; omega
   have hf1 := end_P hX.1 hke
   exact absurd hf1 (by rw [hm]; simp)

set_option maxRecDepth 20000 in
theorem p_rdS0 (text : Bs) (hl : text.length ≤ 3000) (h : linesP text = none) : Pan Tryz.prog pvE 91 [.leaf (.d (.pt [.raw (.string (bs text))]))] [] := by
 refine pan_of follows_mixed Tryz.func91 rfl V102 V162 rfl ?_
 refine Exec.reg ?_
 refine Run.o ?_
 refine Run.nil (Exec.assocS ?_)
 refine Exec.pan (pv := pvE) 1 rfl ?_
 refine Run.o ?_
 exact Run.panc (p_lines (by omega) h) V158 V156 V66 rfl

end Go.Mw
namespace Go.Mw
open Go.Proofs Go.Bk
theorem c_rdSh {text : Bs} {l : List Sh} (hl : text.length ≤ 3000) (h : parseS text = some l) : Con Tryz.prog 91 [.leaf (.d (.pt [.raw (.string (bs text))]))] [] (.ret (.leaf (.d (shsD l))) []) := by
 unfold parseS strictS at h
 split at h
 ·next l' h1 =>
  obtain ⟨ls, h3, h4⟩ := Option.bind_eq_some_iff.1 h1
  split at h
  ·next hc => cases h; exact c_rdS text ls l hl h3 h4 hc
  ·cases h
 ·cases h
theorem p_rdSh {text : Bs} (hl : text.length ≤ 3000) (h : parseS text = none) : Pan Tryz.prog pvE 91 [.leaf (.d (.pt [.raw (.string (bs text))]))] [] := by
 cases h1 : linesP text with
 | none => exact p_rdS0 text hl h1
 | some ls =>
  cases h2 : ls.foldlM stepP [] with
  | none => exact p_rdS1 text ls hl h1 h2
  | some l =>
   by_cases h3 : sheetsE l = 0
   ·have e : strictS text = some l := by unfold strictS; rw [h1]; exact h2
    unfold parseS at h
    rw [e] at h
    simp only at h
    rw [if_pos h3] at h; cases h
   ·exact p_rdS2 text ls l hl h1 h2 h3
end Go.Mw
namespace Go.Mw
open Go.Proofs Go.RowKit
theorem tmps18_135 (a b v : Value) : #[a, b] ++ (((Array.replicate 16 undef).setIfInBounds 3 v).setIfInBounds 0 v) = #[a, b, v, undef, undef, v, undef, undef, undef, undef, undef, undef, undef, undef, undef, undef, undef, undef] := by kernel_rfl
set_option maxHeartbeats 8000000 in
theorem idle135 (p q : Addr) (w : World) : CallsD Tryz.prog 135 #[.pointer (some p), .pointer (some q)] .returning w fun e u' w' => e = .returned (.tuple #[]) ∧ u' = .returning ∧ w' = w := by
 refine callsD_of_wpS Tryz.func135 rfl fun c₀ cs hu => ?_
 apply wpS_seq
 apply wpS_region
 simp [wpOpsS, go_sem, recoverD, hu, Tryz.ntmps135, Exit.thenS]
 rw [tmps18_135]
 refine wpS_of_wp ?_
 have hnil : ∀ w : World, (binOp BinOp.neq 20 .nilIface .nilIface).run Tryz.prog w = .ok (.bool false) w := fun _ => by kernel_rfl
 have heg : ∀ w : World, (eqGuard BinOp.neq 20 (Operand.tmp 6) (Operand.const .nilIface) .nilIface .nilIface).run Tryz.prog w = .ok () w := fun _ => by kernel_rfl
 go_wp2
 cases c₀
 simp_all [bodyPostS, results, Tryz.results135, Exit.thenS]
set_option maxHeartbeats 4000000 in
theorem wrong135 (p q : Nat) (w : World) {cp cq : Value} {tp tq : TypeId} (hp : w.heap[p]? = some (.cells #[cp] tp (0, 0))) (hq : w.heap[q]? = some (.cells #[cq] tq (0, 0))) (hpq : p ≠ q) :
  CallsD Tryz.prog 135 #[.pointer (some ⟨p, 0, none⟩), .pointer (some ⟨q, 0, none⟩)] (.panicking [{ v := pvE, recovered := false }]) w fun e u' w' => e = .returned (.tuple #[]) ∧ u' = .panicking [{ v := pvE, recovered := true }] ∧
   w' = (((w.setCell ⟨p, 0, none⟩ (.slice none 0 0)).setCell ⟨q, 0, none⟩ (.int .i64 8)).alloc (.cells #[.int .i64 8] 172)).drew := by
 have mixed := mixedT
 refine callsD_of_wpS Tryz.func135 rfl fun c₀ cs hu => ?_
 apply wpS_seq
 apply wpS_region
 simp [wpOpsS, go_sem, recoverD, hu, Tryz.ntmps135, Exit.thenS]
 rw [tmps18_135]
 refine wpS_of_wp ?_
 have hnil : ∀ w : World, (binOp BinOp.neq 20 pvE .nilIface).run Tryz.prog w = .ok (.bool true) w := fun _ => by kernel_rfl
 have hta : ∀ w : World, (Instr.typeAssert pvE 20 172 true).run Tryz.prog w = .ok (.tuple #[.agg #[.int .i64 8], .bool true]) w := fun _ => by kernel_rfl
 have heg : ∀ w : World, (eqGuard BinOp.neq 20 (Operand.tmp 6) (Operand.const .nilIface) pvE .nilIface).run Tryz.prog w = .ok () w := fun _ => by kernel_rfl
 generalize hv : pvE = v at hnil hta heg ⊢
 have hlp := (Array.getElem?_eq_some_iff.1 hp).1
 have hlq := (Array.getElem?_eq_some_iff.1 hq).1
 have hpa : ∀ o, (w.alloc o).drew.heap[p]? = some (.cells #[cp] tp (0, 0)) := fun o => (Below.heap_alloc w o p hlp).trans hp
 have hqa : ∀ o, (w.alloc o).drew.heap[q]? = some (.cells #[cq] tq (0, 0)) := fun o => (Below.heap_alloc w o q hlq).trans hq
 have hna : ∀ o, (w.alloc o).drew.heap[w.heap.size]? = some o := fun o => heap_alloc_new w o
 have cpa : ∀ o, (w.alloc o).drew.cell? ⟨p, 0, none⟩ = some cp := fun o => by rw [Lib.cell_of_heap (hpa o)]; rfl
 have cqa : ∀ o, (w.alloc o).drew.cell? ⟨q, 0, none⟩ = some cq := fun o => by rw [Lib.cell_of_heap (hqa o)]; rfl
 have cna : (w.alloc (.cells #[.int .i64 8] 172)).drew.cell? ⟨w.heap.size, 0, none⟩ = some (.int .i64 8) := by rw [Lib.cell_of_heap (hna _)]; rfl
 have fpa : ∀ o, (w.alloc o).drew.frozen? ⟨p, 0, none⟩ = false := fun o => Lib.frozen_of_heap (hpa o) _
 have fqa : ∀ o, (w.alloc o).drew.frozen? ⟨q, 0, none⟩ = false := fun o => Lib.frozen_of_heap (hqa o) _
 have cp0 : w.cell? ⟨p, 0, none⟩ = some cp := by rw [Lib.cell_of_heap hp]; rfl
 have cq0 : w.cell? ⟨q, 0, none⟩ = some cq := by rw [Lib.cell_of_heap hq]; rfl
 have fp0 : w.frozen? ⟨p, 0, none⟩ = false := Lib.frozen_of_heap hp _
 have fq0 : w.frozen? ⟨q, 0, none⟩ = false := Lib.frozen_of_heap hq _
 have hqp : q ≠ p := fun h => hpq h.symm
 go_wp2
 go_region
 exact ⟨rfl, _, rfl, _, results_none rfl _ _ _, rfl, rfl, rfl⟩
set_option maxHeartbeats 4000000 in
theorem read90_ok (x : Value) (w : World) (G : Value → World → Prop)
  (hf : Calls Tryz.prog 91 #[x] ((w.alloc (.cells #[.slice none 0 0] 61)).alloc (.cells #[.int .i64 0] 35)) fun e w' => ∃ p n c, e = .returned (.slice p n c) ∧ G (.slice p n c) w' ∧
   w'.heap[w.heap.size]? = some (.cells #[.slice none 0 0] 61 (0, 0)) ∧ w'.heap[w.heap.size + 1]? = some (.cells #[.int .i64 0] 35 (0, 0))) :
  Calls Tryz.prog 90 #[.func (.func 91) #[] #[x]] w fun e w' => ∃ r w2, G r w2 ∧ e = .returned (.tuple #[r, .int .i64 0]) ∧ w' = (w2.setCell ⟨w.heap.size, 0, none⟩ r).setCell ⟨w.heap.size + 1, 0, none⟩ (.int .i64 0) := by
 have hmf : ∀ (fn : Fn) (first cap : Array Value) (w : World), (Instr.makeFunc fn first cap).run Tryz.prog w = .ok (.func fn first cap) w := fun _ _ _ _ => rfl
 go_enter_defers Tryz.func90, Tryz.ntmps90
 go_wp2_with (go_at_call 91; refine hf.mono ?_)
 rintro e w2 ⟨p, n, c, rfl, hG, h1, h2⟩
 have c1 : w2.cell? ⟨w.heap.size, 0, none⟩ = some (.slice none 0 0) := by rw [Lib.cell_of_heap h1]; rfl
 have c2 : w2.cell? ⟨w.heap.size + 1, 0, none⟩ = some (.int .i64 0) := by rw [Lib.cell_of_heap h2]; rfl
 have f1 : w2.frozen? ⟨w.heap.size, 0, none⟩ = false := Lib.frozen_of_heap h1 _
 have f2 : w2.frozen? ⟨w.heap.size + 1, 0, none⟩ = false := Lib.frozen_of_heap h2 _
 go_wp2
 have hne : w.heap.size ≠ w.heap.size + 1 := by omega
 have g1 : ((w2.setCell ⟨w.heap.size, 0, none⟩ (.slice p n c)).setCell ⟨w.heap.size + 1, 0, none⟩ (.int .i64 0)).heap[w.heap.size]? = some (.cells #[.slice p n c] 61 (0, 0)) :=
  (Below.heap_setCell _ ⟨w.heap.size + 1, 0, none⟩ _ _ hne).trans ((Lib.heap_setCell_same (i := 0) h1 (.slice p n c)).trans rfl)
 have g2 : ((w2.setCell ⟨w.heap.size, 0, none⟩ (.slice p n c)).setCell ⟨w.heap.size + 1, 0, none⟩ (.int .i64 0)).heap[w.heap.size + 1]? = some (.cells #[.int .i64 0] 35 (0, 0)) :=
  (Lib.heap_setCell_same (i := 0) ((Below.heap_setCell w2 ⟨w.heap.size, 0, none⟩ _ _ (fun h => hne h.symm)).trans h2) (.int .i64 0)).trans rfl
 have d1 : ((w2.setCell ⟨w.heap.size, 0, none⟩ (.slice p n c)).setCell ⟨w.heap.size + 1, 0, none⟩ (.int .i64 0)).cell? ⟨w.heap.size, 0, none⟩ = some (.slice p n c) := by rw [Lib.cell_of_heap g1]; rfl
 have d2 : ((w2.setCell ⟨w.heap.size, 0, none⟩ (.slice p n c)).setCell ⟨w.heap.size + 1, 0, none⟩ (.int .i64 0)).cell? ⟨w.heap.size + 1, 0, none⟩ = some (.int .i64 0) := by rw [Lib.cell_of_heap g2]; rfl
 refine leaves_cons (f := 135) (args := #[.pointer (some ⟨w.heap.size, 0, none⟩), .pointer (some ⟨w.heap.size + 1, 0, none⟩)]) (by simp) (by simp [go_sem]) ?_
 refine (idle135 ⟨w.heap.size, 0, none⟩ ⟨w.heap.size + 1, 0, none⟩ _).mono ?_
 rintro e u' w'' ⟨rfl, rfl, rfl⟩
 generalize hW : (w2.setCell ⟨w.heap.size, 0, none⟩ (.slice p n c)).setCell ⟨w.heap.size + 1, 0, none⟩ (.int .i64 0) = W at d1 d2 ⊢
 simp [Leaves, settle, results, Tryz.results90, go_sem, d1, d2]
 exact ⟨_, w2, hG, rfl, hW.symm⟩
set_option maxHeartbeats 4000000 in
theorem read90_pan (x : Value) (w : World) (G : World → Prop)
  (hf : Calls Tryz.prog 91 #[x] ((w.alloc (.cells #[.slice none 0 0] 61)).alloc (.cells #[.int .i64 0] 35)) fun e w' => e = .panicked (chain0 pvE) ∧ G w' ∧
   w'.heap[w.heap.size]? = some (.cells #[.slice none 0 0] 61 (0, 0)) ∧ w'.heap[w.heap.size + 1]? = some (.cells #[.int .i64 0] 35 (0, 0))) :
  Calls Tryz.prog 90 #[.func (.func 91) #[] #[x]] w fun e w' => ∃ w2, G w2 ∧ e = .returned (.tuple #[.slice none 0 0, .int .i64 8]) ∧ w' = (((w2.setCell ⟨w.heap.size, 0, none⟩ (.slice none 0 0)).setCell ⟨w.heap.size + 1, 0, none⟩ (.int .i64 8)).alloc (.cells #[.int .i64 8] 172)).drew := by
 have hmf : ∀ (fn : Fn) (first cap : Array Value) (w : World), (Instr.makeFunc fn first cap).run Tryz.prog w = .ok (.func fn first cap) w := fun _ _ _ _ => rfl
 go_enter_defers Tryz.func90, Tryz.ntmps90
 go_wp2_with (go_at_call 91; refine hf.mono ?_)
 rintro e w2 ⟨rfl, hG, h1, h2⟩
 go_wp2
 have hne : w.heap.size ≠ w.heap.size + 1 := by omega
 have hl2 := (Array.getElem?_eq_some_iff.1 h2).1
 have g1 : ((w2.setCell ⟨w.heap.size, 0, none⟩ (.slice none 0 0)).setCell ⟨w.heap.size + 1, 0, none⟩ (.int .i64 8)).heap[w.heap.size]? = some (.cells #[.slice none 0 0] 61 (0, 0)) :=
  (Below.heap_setCell _ ⟨w.heap.size + 1, 0, none⟩ _ _ hne).trans ((Lib.heap_setCell_same (i := 0) h1 (.slice none 0 0)).trans rfl)
 have g2 : ((w2.setCell ⟨w.heap.size, 0, none⟩ (.slice none 0 0)).setCell ⟨w.heap.size + 1, 0, none⟩ (.int .i64 8)).heap[w.heap.size + 1]? = some (.cells #[.int .i64 8] 35 (0, 0)) :=
  (Lib.heap_setCell_same (i := 0) ((Below.heap_setCell w2 ⟨w.heap.size, 0, none⟩ _ _ (fun h => hne h.symm)).trans h2) (.int .i64 8)).trans rfl
 have hs : ((w2.setCell ⟨w.heap.size, 0, none⟩ (.slice none 0 0)).setCell ⟨w.heap.size + 1, 0, none⟩ (.int .i64 8)).heap.size = w2.heap.size := by rw [sz_set, sz_set]
 refine leaves_cons (f := 135) (args := #[.pointer (some ⟨w.heap.size, 0, none⟩), .pointer (some ⟨w.heap.size + 1, 0, none⟩)]) (by simp) (by simp [go_sem]) ?_
 refine (wrong135 w.heap.size (w.heap.size + 1) w2 h1 h2 hne).mono ?_
 rintro e u' w'' ⟨rfl, rfl, rfl⟩
 generalize hW : (w2.setCell ⟨w.heap.size, 0, none⟩ (.slice none 0 0)).setCell ⟨w.heap.size + 1, 0, none⟩ (.int .i64 8) = W at g1 g2 hs ⊢
 have k1 : (W.alloc (.cells #[.int .i64 8] 172)).drew.heap[w.heap.size]? = some (.cells #[.slice none 0 0] 61 (0, 0)) := (Below.heap_alloc W _ _ (by omega)).trans g1
 have k2 : (W.alloc (.cells #[.int .i64 8] 172)).drew.heap[w.heap.size + 1]? = some (.cells #[.int .i64 8] 35 (0, 0)) := (Below.heap_alloc W _ _ (by omega)).trans g2
 have d1 : (W.alloc (.cells #[.int .i64 8] 172)).drew.cell? ⟨w.heap.size, 0, none⟩ = some (.slice none 0 0) := by rw [Lib.cell_of_heap k1]; rfl
 have d2 : (W.alloc (.cells #[.int .i64 8] 172)).drew.cell? ⟨w.heap.size + 1, 0, none⟩ = some (.int .i64 8) := by rw [Lib.cell_of_heap k2]; rfl
 generalize hV : (W.alloc (.cells #[.int .i64 8] 172)).drew = V at d1 d2 ⊢
 simp [Leaves, settle, results, Tryz.results90, go_sem, d1, d2]
 trace_state
 exact ⟨w2, hG, by rw [hW, hV]⟩
end Go.Mw
namespace Go.Mw
open Go.Proofs
open Go.Bk
attribute [local go_sem] decide_true beq_self_eq_true bne_self_eq_false
theorem readOk90 : ReadOk Tryz.prog 90 91 61 35 := fun x w G h => read90_ok x w G h
theorem readPan90 : ReadPan Tryz.prog 90 91 pvE 61 35 172 := fun x w G h => read90_pan x w G h
theorem c_read90 (b : Bs) (hb : b.length ≤ 3000) : Contract Tryz.prog 90 [.leaf (.d (.fn 91 [.pt [.raw (.string (bs b))]]))] (rsE (parseS b)) [] := by
 cases h : parseS b with
 | some l => exact con_readOk readOk90 (fun _ _ _ h => sl_slice h) (c_rdSh hb h)
 | none => exact con_readPan readPan90 (fun _ _ => RepD.nil _ _ _) (p_rdSh hb h)
set_option maxRecDepth 20000 in
theorem c_ReadSheets (b : Bs) (hb : b.length ≤ 3000) : Contract Tryz.prog 36 [.str b] (rsE (parseS b)) [] := by
 have hcr := c_read90 b hb
 generalize parseS b = q at hcr ⊢
 rcases q with _ | l
 ·skip
  dsimp only [rsE] at hcr ⊢
  refine con_of follows_mixed Tryz.func36 rfl (by simp only [List.length_cons, List.length_nil, Tryz.ntmps36]; omega) V162 rfl ?_
  refine Exec.reg ?_
  iterate 3 (refine Run.o ?_)
  refine Run.nil (Exec.reg ?_)
  refine Run.frz 1 V156 ?_
  refine Run.o ?_
  refine Run.frz 4 V156 ?_
  refine Run.c1 (hcr) V156 V156 ?_
  iterate 4 (refine Run.o ?_)
  refine Run.nil ?_
  exact Ends.fin [] (rs := [.tmp 2, .tmp 3]) rfl V156 V130
 ·skip
  dsimp only [rsE] at hcr ⊢
  refine con_of follows_mixed Tryz.func36 rfl (by simp only [List.length_cons, List.length_nil, Tryz.ntmps36]; omega) V162 rfl ?_
  refine Exec.reg ?_
  iterate 3 (refine Run.o ?_)
  refine Run.nil (Exec.reg ?_)
  refine Run.frz 1 V156 ?_
  refine Run.o ?_
  refine Run.frz 4 V156 ?_
  refine Run.c1 (hcr) V156 V156 ?_
  iterate 4 (refine Run.o ?_)
  refine Run.nil ?_
  exact Ends.fin [] (rs := [.tmp 2, .tmp 3]) rfl V156 V130

set_option maxRecDepth 20000 in
set_option maxHeartbeats 8000000 in
theorem c_SameSheets (a b : List Sh) (ha : a.length ≤ 1000000) (hb : b.length ≤ 1000000) (hz : ∀ x ∈ a, x.tries.length ≤ 1000000) : Contract Tryz.prog 34 [.leaf (.d (shsD a)), .leaf (.d (shsD b))] (.bool (decide (a = b))) [] := by
 refine con_of follows_mixed Tryz.func34 rfl (by simp only [List.length_cons, List.length_nil, Tryz.ntmps34]; omega) V162 rfl ?_
 refine Exec.reg ?_
 refine Run.o ?_
 refine Run.nil (Exec.assocS (Exec.reg ?_))
 iterate 5 (refine Run.o ?_)
 refine Run.nil ?_
 refine Exec.cndS V156 (fun hb11 => ?_) (fun hb11 => ?_)
 ·skip
  have hne : ¬ a = b := fun h => by subst h; simp at hb11
  have hr : decide (a = b) = false := decide_eq_false hne
  refine Exec.assocS (Exec.reg ?_)
  have X := Fx.mk hr
  refine Run.o1 V152 ?_
  refine Run.nil (Exec.retS ?_)
  exact Ends.fin [] (rs := [.tmp 4]) rfl V152 V121
 ·skip
  have hll : a.length = b.length := by simp at hb11; omega
  refine Exec.skipS (Exec.assocS (Exec.reg ?_))
  refine Run.o ?_
  refine Run.nil (Exec.blk ?_)
  refine Exec.forA [0, 1, 5] [] (a.length) (fun k => [.slot 5 (.int k)]) (fun k => a.take k = b.take k) (fun k => by simp only [go_sem] <;> rfl) V135 ?_ (fun k hk hX => ?_)
  ·rfl
  ·skip
   refine Exec.assocS (Exec.reg ?_)
   iterate 4 (refine Run.o ?_)
   refine Run.nil ?_
   refine Exec.cndS V156 (fun hb15 => ?_) (fun hb15 => ?_)
   ·skip
    have hlt := lt_of_dec hb15
    obtain ⟨x, hx⟩ := elem_of hb15
    obtain ⟨y, hy⟩ : ∃ y, b[k]? = some y := ⟨_, List.getElem?_eq_getElem (by omega)⟩
    have hxz := hz x (List.mem_of_getElem? hx)
    refine Exec.skipS (Exec.blk (Exec.assocS ?_))
    by_cases hh : x.meter = y.meter
    ·skip
     have q1 : (x.meter != y.meter) = false := by simp [hh]
     refine Exec.opk 28 ?_
     have X := ((Fx.mk hx).a hy).a q1
     iterate 2 (refine OpenK.o1 V152 ?_)
     refine OpenK.o1 V77 ?_
     iterate 4 (refine OpenK.o1 V152 ?_)
     refine OpenK.o1 V77 ?_
     iterate 4 (refine OpenK.o1 V152 ?_)
     iterate 2 (refine OpenK.y1 V152 ?_)
     refine OpenK.y1 V77 ?_
     iterate 5 (refine OpenK.y1 V152 ?_)
     refine OpenK.y1 V77 ?_
     iterate 4 (refine OpenK.y1 V152 ?_)
     refine OpenK.o1 V152 ?_
     refine OpenK.nil (OpenE.finT V162 V162 V162 ?_)
     refine Exec.cndS V152 (fun hb43 => ?_) (fun hb43 => ?_)
     ·skip
      have hne : ¬ a = b := fun h => by subst h; rw [hx] at hy; cases hy; simp at hb43
      have hr : decide (a = b) = false := decide_eq_false hne
      refine Exec.assocS (Exec.reg ?_)
      have X := X.a hr
      refine Run.o1 V152 ?_
      refine Run.nil (Exec.retS (BlkK.ret (ForK.ret (BlkK.ret ?_))))
      exact Ends.fin [] (rs := [.tmp 4]) rfl V152 V121
     ·skip
      have hrl : x.tries.length = y.tries.length := by simp at hb43; omega
      refine Exec.skipS (Exec.reg ?_)
      refine Run.o1 V152 ?_
      refine Run.nil (Exec.blk1 ?_)
      refine Exec.forA [0, 1, 5, 6] [] (x.tries.length) (fun j => [.slot 6 (.int j)]) (fun j => x.tries.take j = y.tries.take j) (fun j => by simp only [go_sem] <;> rfl) V125 ?_ (fun j hj Xj => ?_)
      ·rfl
      ·skip
       refine Exec.assocS (Exec.reg ?_)
       iterate 3 (refine Run.o1 V152 ?_)
       refine Run.o1 V77 ?_
       iterate 4 (refine Run.o1 V152 ?_)
       refine Run.nil ?_
       refine Exec.cndS V152 (fun hb51 => ?_) (fun hb51 => ?_)
       ·skip
        have hlt2 := lt_of_dec hb51
        obtain ⟨n, hn⟩ := elem_of hb51
        obtain ⟨m, hm⟩ : ∃ m, y.tries[j]? = some m := ⟨_, List.getElem?_eq_getElem (by omega)⟩
        refine Exec.skipS (Exec.blk ?_)
        refine Exec.opk 19 ?_
        have X := (X.a hn).a hm
        iterate 2 (refine OpenK.o1 V90 ?_)
        refine OpenK.o1 V33 ?_
        iterate 3 (refine OpenK.o1 V90 ?_)
        refine OpenK.o1 V33 ?_
        iterate 3 (refine OpenK.o1 V90 ?_)
        refine OpenK.o1 V33 ?_
        iterate 3 (refine OpenK.o1 V90 ?_)
        refine OpenK.o1 V33 ?_
        iterate 2 (refine OpenK.o1 V90 ?_)
        refine OpenK.nil (OpenE.finT V162 V162 V162 ?_)
        refine Exec.cnd V90 (fun hb70 => ?_) (fun hb70 => ?_)
        ·skip
         have hne : ¬ a = b := fun h => by subst h; rw [hx] at hy; cases hy; rw [hn] at hm; cases hm; simp at hb70
         have hr : decide (a = b) = false := decide_eq_false hne
         refine Exec.reg ?_
         have X := X.a hr
         refine Run.o1 V90 ?_
         refine Run.nil (BlkK.ret (ForK.ret (Blk1K.ret (BlkK.ret (ForK.ret (BlkK.ret ?_))))))
         exact Ends.fin [] (rs := [.tmp 4]) rfl V90 (by simp only [go_sem, X.h, Nat.zero_mul, List.drop_zero, Int.toNat_zero] <;> first | rfl | exact eqz)
        ·skip
         have hnm : n = m := by
          obtain ⟨n1, n2, n3⟩ := n
          obtain ⟨m1, m2, m3⟩ := m
          simp at hb70
          rw [Tr.mk.injEq]
          omega
         subst hnm
         refine BlkK.nrm (Exec.reg1 ?_)
         refine Run.o1 V90 ?_
         refine Run.o1 (by simp only [go_sem, X.h, Nat.zero_mul, List.drop_zero, Int.toNat_zero]; (try simp (disch := omega) only [IntWalk.i64_in, IntWalk.u64_in, IntWalk.i32_in, IntWalk.u8_in, if_neg, if_pos])<;> rfl) ?_
         refine Run.o1 V90 ?_
         refine Run.nil ?_
         refine ForK.nxt ?_ ?_ ?_
         ·omega
         ·exact Ghost.kp [0, 1, 5, 6] [] (by simp only [go_sem, X.h, Nat.zero_mul, List.drop_zero, Int.toNat_zero] <;> first | exact eqz | rfl)
         ·exact same_step hn hm Xj
       ·skip
        have hre := same_end hrl (ge_of_dec hb51) Xj
        have hxy : x = y := by
         obtain ⟨x1, x2⟩ := x
         obtain ⟨y1, y2⟩ := y
         simp only at hh hre
         subst hh hre; rfl
        subst hxy
        refine Exec.exitS (ForK.ext (Blk1K.hit (BlkK.nrm (Exec.reg1 ?_))))
        refine Run.o1 V152 ?_
        refine Run.o1 V59 ?_
        refine Run.o1 V152 ?_
        refine Run.nil ?_
        refine ForK.nxt ?_ ?_ ?_
        ·omega
        ·exact Ghost.kp [0, 1, 5] [] V122
        ·exact same_step hx hy hX
    ·skip
     have q1 : (x.meter != y.meter) = true := by simp [hh]
     refine Exec.opk 28 ?_
     have X := ((Fx.mk hx).a hy).a q1
     iterate 2 (refine OpenK.o1 V152 ?_)
     refine OpenK.o1 V77 ?_
     iterate 4 (refine OpenK.o1 V152 ?_)
     refine OpenK.o1 V77 ?_
     iterate 4 (refine OpenK.o1 V152 ?_)
     iterate 13 (refine OpenK.s ?_)
     refine OpenK.o1 V152 ?_
     refine OpenK.nil (OpenE.finT V162 V162 V162 ?_)
     refine Exec.cndS V152 (fun hb43 => ?_) (fun hb43 => ?_)
     ·skip
      have hne : ¬ a = b := fun h => by subst h; rw [hx] at hy; cases hy; exact hh rfl
      have hr : decide (a = b) = false := decide_eq_false hne
      refine Exec.assocS (Exec.reg ?_)
      have X := X.a hr
      refine Run.o1 V152 ?_
      refine Run.nil (Exec.retS (BlkK.ret (ForK.ret (BlkK.ret ?_))))
      exact Ends.fin [] (rs := [.tmp 4]) rfl V152 V121
     ·exact absurd hb43 (by simp)
   ·skip
    have heq := same_end hll (ge_of_dec hb15) hX
    have hr : decide (a = b) = true := decide_eq_true heq
    refine Exec.exitS (ForK.ext (BlkK.hit (Exec.reg ?_)))
    have X := Fx.mk hr
    refine Run.o1 V152 ?_
    refine Run.nil ?_
    exact Ends.fin [] (rs := [.tmp 4]) rfl V152 V121

end Go.Mw

/- How sheets are read line by line; plain laws, no program in sight. -/
import Derived.Test.YtpmdcdglfeicaaaGreatDoorD1
import Derived.Test.YtpmdcdglfeicaaaGreatDoorB6
import Derived.Test.YtpmdcdglfeicaaaGreatDoorB4
import Derived.Test.YtpmdcdglfeicaaaGreatDoorB11
import Derived.Laws.StructEq
import Derived.ChangeKeysEq
import Derived.Test.YtpmdcdglfeicaaaGreatDoorB8
import Derived.WalkKit
import Derived.Defers
import Derived.Recover
import Derived.Test.YtpmdcdglfeicaaaGreatDoorB12
import Derived.Test.YtpmdcdglfeicaaaGreatDoorB9
set_option maxRecDepth 20000
set_option maxHeartbeats 16000000
set_option linter.unusedSimpArgs false
set_option linter.unusedVariables false
set_option linter.unusedSectionVars false
set_option linter.deprecated false
namespace Go.Bk
def foldK (f : List Sh → Bs → Option (List Sh)) (ls : List Bs) (k : Nat) : Option (List Sh) := (ls.take k).foldlM f []
theorem foldK_zero (f : List Sh → Bs → Option (List Sh)) (ls : List Bs) : foldK f ls 0 = some [] := by simp [foldK]
theorem foldK_step {f : List Sh → Bs → Option (List Sh)} {ls : List Bs} {k : Nat} {s : Bs} {l : List Sh} (hs : ls[k]? = some s) (h : foldK f ls k = some l) : foldK f ls (k + 1) = f l s := by
 unfold foldK at h ⊢
 rw [List.take_add_one, hs, List.foldlM_append, h]
 simp
theorem foldK_all {f : List Sh → Bs → Option (List Sh)} {ls : List Bs} : foldK f ls ls.length = ls.foldlM f [] := by unfold foldK; rw [List.take_length]
theorem fold_none {f : List Sh → Bs → Option (List Sh)} {ls : List Bs} {k : Nat} (h : foldK f ls k = none) : ls.foldlM f [] = none := by
 unfold foldK at h
 rw [← List.take_append_drop k ls, List.foldlM_append, h]; rfl
theorem snoc_or {α : Type} (l : List α) : l = [] ∨ ∃ l' x, l = l' ++ [x] := by
 cases h : l.getLast? with
 | none => exact .inl (by simpa using h)
 | some x =>
  obtain ⟨l', hl⟩ := List.getLast?_eq_some_iff.1 h
  exact .inr ⟨l', x, hl⟩
def lastT (l : List Sh) : List Tr := match l.getLast? with
 | some x => x.tries
 | none => []
theorem lastT_nil : lastT [] = [] := rfl
theorem lastT_snoc (l : List Sh) (x : Sh) : lastT (l ++ [x]) = x.tries := by simp [lastT]
def bndT (n : Nat) (l : List Sh) : Prop := l.length ≤ n ∧ ∀ x ∈ l, x.tries.length ≤ n
theorem bndT_nil : bndT 0 [] := ⟨by simp, by simp⟩
theorem bndT_new {n : Nat} {l : List Sh} (h : bndT n l) (m : Int) : bndT (n + 1) (l ++ [⟨m, []⟩]) := by
 refine ⟨by have := h.1; simp; omega, fun x hx => ?_⟩
 rcases List.mem_append.1 hx with hx | hx
 ·have := h.2 x hx; omega
 ·have : x = ⟨m, []⟩ := by simpa using hx
  subst this; simp
theorem bndT_try {n : Nat} {l : List Sh} {x : Sh} (h : bndT n (l ++ [x])) (t : Tr) : bndT (n + 1) (l ++ [⟨x.meter, x.tries ++ [t]⟩]) := by
 refine ⟨by have := h.1; simp at this ⊢; omega, fun y hy => ?_⟩
 rcases List.mem_append.1 hy with hy | hy
 ·have := h.2 y (by simp [hy]); omega
 ·have : y = ⟨x.meter, x.tries ++ [t]⟩ := by simpa using hy
  subst this
  have := h.2 x (by simp)
  simp; omega
end Go.Bk
namespace Go.Mw
open Go.Proofs
open Go.Bk
attribute [local go_sem] decide_true beq_self_eq_true bne_self_eq_false
def rowsV (l : List Sh) (v : Value) : List (List D) := match l.getLast? with
 | some x => l.dropLast.map encSh ++ [[.i x.meter, .raw v]]
 | none => []
theorem rowsV_nil (v : Value) : rowsV [] v = [] := rfl
theorem rowsV_snoc (l : List Sh) (x : Sh) (v : Value) : rowsV (l ++ [x]) v = l.map encSh ++ [[.i x.meter, .raw v]] := by simp [rowsV]
theorem rows_back (l : List Sh) (x : Sh) : l.map encSh ++ [[D.i x.meter, trsD x.tries]] = (l ++ [x]).map encSh := by simp [encSh]
theorem rows_at (l : List Sh) (d : List D) : (l.map encSh ++ [d])[l.length]? = some d := by simp
theorem rows_set (l : List Sh) (d d' : List D) : (l.map encSh ++ [d]).set l.length d' = l.map encSh ++ [d'] := by
 rw [List.set_append_right _ _ (by simp)]; simp
theorem rowsV_len (l : List Sh) (v : Value) : (rowsV l v).length = l.length := by
 rcases snoc_or l with rfl | ⟨l', x, rfl⟩
 ·rfl
 ·rw [rowsV_snoc]; simp
theorem rows_len (l : List Sh) (d : List D) : (l.map encSh ++ [d]).length = l.length + 1 := by simp
def rsE (r : Option (List Sh)) : AV := match r with
 | some l => .tup [(false, [.d (shsD l)]), (false, [.d (.i 0)])]
 | none => .tup [(false, [.d (shsD [])]), (false, [.d (.i 8)])]
theorem take_rows (l : List Sh) (x : Sh) : List.take (l.length + 1) (l.map encSh ++ [[D.i x.meter, trsD x.tries]]) = (l ++ [x]).map encSh := by
 rw [rows_back, List.take_of_length_le (by simp)]
end Go.Mw
namespace Go.Mw
open Go.RowKit
section eq
variable {P : Program} {A : ASt} {d : Nat} {x y : Operand} {ty : TypeId} {pos : String} {af : Array Edge} {g : Option (Nat × Bool)} {t e tz : TypeId}
theorem all3 {S : Settled} {ι : Nat → Value} {H : Nat → Option AO} {w : World} {a b c : List UInt8} {v : Value} (h : RepV S ι H w (.val true [.d (.raw (.string (bs a))), .d (.raw (.string (bs b))), .d (.raw (.string (bs c)))]) v) :
  v = .agg #[.string (bs a), .string (bs b), .string (bs c)] := by
 obtain ⟨vs, rfl, h⟩ := h
 have hl := h.length
 obtain ⟨v0, e0, h0⟩ := h.get' (i := 0) rfl
 obtain ⟨v1, e1, h1⟩ := h.get' (i := 1) rfl
 obtain ⟨v2, e2, h2⟩ := h.get' (i := 2) rfl
 rw [raw_eq h0] at e0
 rw [raw_eq h1] at e1
 rw [raw_eq h2] at e2
 match vs, hl, e0, e1, e2 with
 | [x0, x1, x2], _, e0, e1, e2 =>
  simp at e0 e1 e2
  rw [e0, e1, e2]
theorem exec_eq {a : Act} {w : World} {xs ys : Array Value} {b : Bool} (ex : a.eval x = .agg xs) (ey : a.eval y = .agg ys) (hg : P.eqGuardType P.depth t = false) (h : (Op.equalIn 10000 t (.agg xs) (.agg ys)).run P w = .ok b w) :
  (execOp a.eval ⟨some d, .binOp .eql t x y tz, ty, pos, af, g⟩).run P w = .ok (.value (.bool b)) w := by
 simp [execOp, ex, ey, run_eqGuard_agg w _ _ _ _ _ _ hg, run_eql_struct, h]
theorem semV_eq3 (hu : P.underlying t = some (.array 3 e)) (he : P.underlying e = some .string) {i : TypeInfo} (hi : P.info? e = some i) (hc : P.cellsOf e = 1) (hg : P.eqGuardType P.depth t = false) {a b c a' b' c' : List UInt8}
  (hx : A.ev x = .val true [.d (.raw (.string (bs a))), .d (.raw (.string (bs b))), .d (.raw (.string (bs c)))])
  (hy : A.ev y = .val true [.d (.raw (.string (bs a'))), .d (.raw (.string (bs b'))), .d (.raw (.string (bs c')))]) :
  SemV P ⟨some d, .binOp .eql t x y tz, ty, pos, af, g⟩ A (.bool (a == a' && (b == b' && c == c'))) := by
 intro C S M ι act w hR
 have hvx := rep_ev hR x
 have hvy := rep_ev hR y
 rw [hx] at hvx
 rw [hy] at hvy
 have ex := all3 hvx
 have ey := all3 hvy
 have hag : tyAg P e = some false := by simp [tyAg, he]
 have heq : ∀ n w, (Op.equalIn (n + 2) t (.agg #[.string (bs a), .string (bs b), .string (bs c)]) (.agg #[.string (bs a'), .string (bs b'), .string (bs c')])).run P w = .ok (a == a' && (b == b' && c == c')) w := fun n w => by
  have p (cs : Array Value) (i : Nat) (v : Value) (h : cs[i]? = some v) := run_part_leaf (P := P) (w := w) hag h
  have q (u v : List UInt8) := run_equalIn_string (P := P) w n e (bs u) (bs v) he
  simp only [bs_list] at q
  rw [run_equalIn_array w (n + 1) _ _ hu hi, hc, show List.range 3 = [0, 1, 2] from rfl]
  have p0 := p #[.string (bs a), .string (bs b), .string (bs c)] 0 (.string (bs a)) rfl
  have r0 := p #[.string (bs a'), .string (bs b'), .string (bs c')] 0 (.string (bs a')) rfl
  have p1 := p #[.string (bs a), .string (bs b), .string (bs c)] 1 (.string (bs b)) rfl
  have r1 := p #[.string (bs a'), .string (bs b'), .string (bs c')] 1 (.string (bs b')) rfl
  have p2 := p #[.string (bs a), .string (bs b), .string (bs c)] 2 (.string (bs c)) rfl
  have r2 := p #[.string (bs a'), .string (bs b'), .string (bs c')] 2 (.string (bs c')) rfl
  simp only [Bool.not_true, Bool.false_eq_true, if_false, Op.eqItems, Sem.run_bind, Nat.mul_one, p0, p1, p2, r0, r1, r2, Result.andThen_ok, q]
  cases (a == a')
  ·rfl
  simp only [Bool.not_true, Bool.false_eq_true, if_false, Op.eqItems, Sem.run_bind, Nat.mul_one, p0, p1, p2, r0, r1, r2, Result.andThen_ok, q]
  cases (b == b')
  ·rfl
  simp only [Bool.not_true, Bool.false_eq_true, if_false, Op.eqItems, Sem.run_bind, Nat.mul_one, p0, p1, p2, r0, r1, r2, Result.andThen_ok, q]
  cases (c == c') <;> rfl
 refine ⟨.bool (a == a' && (b == b' && c == c')), ?_, ⟨_, rfl, RepD.raw _ rfl⟩⟩
 exact exec_eq ex ey hg (heq 9998 w)
end eq
end Go.Mw
namespace Go.Mw
open Go.Proofs
open Go.Bk
attribute [local go_sem] decide_true beq_self_eq_true bne_self_eq_false
theorem c_dw (s : Bs) (c : UInt8) (hc : c.toNat < 128) : Contract Tryz.prog 136 [.str s, .str [c]] (.str (dw c s)) [] := c_TrimLeft s c hc
theorem dw_len (c : UInt8) (s : Bs) : (dw c s).length ≤ s.length := by
 unfold dw Lib.trimLeftB
 exact (List.dropWhile_sublist _).length_le
abbrev vp (s : Bs) : Nat := valD (dw 32 s)
theorem p_mt0 (h : Bs) (hl : h.length ≤ 1000000000) (h7 : h.length ≠ 7) : Pan Tryz.prog pvE 92 [.str h] [] := by
 have d7 : ((h.length : Int) == 7) = false := beq_eq_false_iff_ne.2 (by omega)
 refine pan_of follows_mixed Tryz.func92 rfl V112 V169 rfl ?_
 refine Exec.reg ?_
 have X := Fx.mk d7
 refine Run.o1 V158 ?_
 refine Run.nil ?_
 refine Exec.pan (pv := pvE) 3 rfl ?_
 iterate 3 (refine Run.o1 V158 ?_)
 exact Run.panc (p_need false rfl) V164 V158 V74 rfl
theorem p_mt1 (h : Bs) (h7 : h.length = 7) (hf : figOK (dw 48 (h.drop 1)) = false) : Pan Tryz.prog pvE 92 [.str h] [] := by
 have d7 : ((h.length : Int) == 7) = true := by rw [h7]; rfl
 have hdl : (h.drop 1).length = 6 := by rw [List.length_drop]; omega
 have hwl := dw_len 48 (h.drop 1)
 refine pan_of follows_mixed Tryz.func92 rfl V112 V169 rfl ?_
 refine Exec.reg ?_
 have X := Fx.mk d7
 refine Run.o1 V140 ?_
 refine Run.nil (Exec.reg ?_)
 iterate 3 (refine Run.o1 V140 ?_)
 refine Run.c1 (c_need true rfl) V140 V140 ?_
 refine Run.nil ?_
 refine Exec.pan (pv := pvE) 3 rfl ?_
 refine Run.o1 V140 ?_
 refine Run.o1 V73 ?_
 refine Run.c1 (c_dw (h.drop 1) 48 (by decide)) V140 V140 ?_
 exact Run.panc (p_fig hf (by omega)) V164 V140 V74 rfl
theorem p_mt2 (h : Bs) (h7 : h.length = 7) (hf : figOK (dw 48 (h.drop 1)) = true) (hp : pad 48 6 (txt (valD (dw 48 (h.drop 1)))) ≠ h.drop 1) : Pan Tryz.prog pvE 92 [.str h] [] := by
 have d7 : ((h.length : Int) == 7) = true := by rw [h7]; rfl
 have hdl : (h.drop 1).length = 6 := by rw [List.length_drop]; omega
 have hwl := dw_len 48 (h.drop 1)
 have hfb := (fig_bnd hf)
 have dp := bs_ne hp
 refine pan_of follows_mixed Tryz.func92 rfl V112 V169 rfl ?_
 refine Exec.reg ?_
 have X := (Fx.mk d7).a dp
 refine Run.o1 V140 ?_
 refine Run.nil (Exec.reg ?_)
 iterate 3 (refine Run.o1 V140 ?_)
 refine Run.c1 (c_need true rfl) V140 V140 ?_
 refine Run.nil (Exec.reg ?_)
 refine Run.o1 V140 ?_
 refine Run.o1 V73 ?_
 refine Run.c1 (c_dw (h.drop 1) 48 (by decide)) V140 V140 ?_
 refine Run.c1 (c_fig (dw 48 (h.drop 1)) hf) V140 V140 ?_
 refine Run.o1 V140 ?_
 refine Run.nil ?_
 refine Exec.opp (pv := pvE) 8 5 [0, 1, 2, 3, 4] rfl V166 ?_
 refine OpenK.o1 V140 ?_
 refine OpenK.cal (c_wide (valD (dw 48 (h.drop 1))) 6 48 (by omega) (by omega)) V164 V140 V23 (fr0) V140 V162 V162 ?_
 refine OpenK.o1 V140 ?_
 refine OpenK.o1 V73 ?_
 refine OpenK.o1 V140 ?_
 exact OpenK.pang [] 0 (p_need false rfl) V164 V162 V162 V79 (fun q x h => by simp [look] at h) (fun q q' n h => by simp [look] at h) V166 V166 rfl
theorem c_mt (h : Bs) (h7 : h.length = 7) (hf : figOK (dw 48 (h.drop 1)) = true) (hp : pad 48 6 (txt (valD (dw 48 (h.drop 1)))) = h.drop 1) : Contract Tryz.prog 92 [.str h] (.int (valD (dw 48 (h.drop 1)))) [] := by
 have d7 : ((h.length : Int) == 7) = true := by rw [h7]; rfl
 have hdl : (h.drop 1).length = 6 := by rw [List.length_drop]; omega
 have hwl := dw_len 48 (h.drop 1)
 have hfb := (fig_bnd hf)
 have dp : (pad 48 6 (txt (valD (dw 48 (h.drop 1)))) == h.drop 1) = true := beq_iff_eq.2 hp
 refine con_of follows_mixed Tryz.func92 rfl V112 V169 rfl ?_
 refine Exec.reg ?_
 have X := (Fx.mk d7).a dp
 refine Run.o1 V140 ?_
 refine Run.nil (Exec.reg ?_)
 iterate 3 (refine Run.o1 V140 ?_)
 refine Run.c1 (c_need true rfl) V140 V140 ?_
 refine Run.nil (Exec.reg ?_)
 refine Run.o1 V140 ?_
 refine Run.o1 V73 ?_
 refine Run.c1 (c_dw (h.drop 1) 48 (by decide)) V140 V140 ?_
 refine Run.c1 (c_fig (dw 48 (h.drop 1)) hf) V140 V140 ?_
 refine Run.o1 V140 ?_
 refine Run.nil ?_
 refine Exec.opk 8 ?_
 refine OpenK.o1 V140 ?_
 refine OpenK.cal (c_wide (valD (dw 48 (h.drop 1))) 6 48 (by omega) (by omega)) V164 V140 V23 (fr0) V140 V162 V162 ?_
 refine OpenK.o1 V140 ?_
 refine OpenK.o1 V73 ?_
 refine OpenK.o1 V140 ?_
 refine OpenK.cal (c_need true rfl) V164 V140 V74 (fr0) V140 V162 V162 ?_
 refine OpenK.nil (OpenE.fin V166 V166 ?_)
 refine Exec.reg ?_
 iterate 2 (refine Run.o1 V140 ?_)
 refine Run.nil ?_
 exact Ends.fin [] (rs := [.tmp 2]) rfl V140 (by simp only [go_sem, X.h, Int.toNat_one] <;> first | rfl | exact eqz)
theorem c_meter {h : Bs} {m : Int} (hm : meterP h = some m) : Contract Tryz.prog 92 [.str h] (.int m) [] := by
 unfold meterP at hm
 split at hm
 ·next hc =>
  simp only [Option.some.injEq] at hm
  subst hm
  exact c_mt h hc.1 hc.2.1 hc.2.2
 ·cases hm
theorem p_meter {h : Bs} (hl : h.length ≤ 1000000000) (hm : meterP h = none) : Pan Tryz.prog pvE 92 [.str h] [] := by
 by_cases h7 : h.length = 7
 ·cases hf : figOK (dw 48 (h.drop 1)) with
  | false => exact p_mt1 h h7 hf
  | true =>
   refine p_mt2 h h7 hf fun hp => ?_
   unfold meterP at hm
   rw [if_pos ⟨h7, hf, hp⟩] at hm
   cases hm
 ·exact p_mt0 h hl h7
end Go.Mw
namespace Go.Mw
open Go.Proofs
open Go.Bk
attribute [local go_sem] decide_true beq_self_eq_true bne_self_eq_false
theorem cutA (s : Bs) : (s.take 14).drop 7 = (s.drop 7).take 7 := by rw [List.drop_take]
theorem cutB' (s : Bs) : (s.take 22).drop 15 = (s.drop 15).take 7 := by rw [List.drop_take]
def rv (b : Bool) (x : Bs) : AL := .d (.i ((bif b then vp x else 0 : Nat) : Int))
def from3 (k : Nat) : Int := if k = 0 then 0 else if k = 1 then 7 else if k = 2 then 15 else 23
@[go_sem] theorem rv_keep (b : Bool) (x : Bs) (os : List Nat) : AL.keep os (rv b x) = rv b x := rfl
theorem from3_0 : from3 0 = 0 := rfl
theorem from3_1 : from3 1 = 7 := rfl
theorem from3_2 : from3 2 = 15 := rfl
theorem from3_3 : from3 3 = 23 := rfl
abbrev trP (a b c : Bs) : Tr := ⟨vp a, vp b, vp c⟩
theorem trP_pos {a b c : Bs} (fa : figOK (dw 32 a) = true) (fb : figOK (dw 32 b) = true) (fc : figOK (dw 32 c) = true) : pos (trP a b c) := by
 have := fig_bnd fa
 have := fig_bnd fb
 have := fig_bnd fc
 unfold pos trP vp; simp only; omega
theorem p_tr0a (h : Bs) (hl : h.length ≤ 1000000000) (h22 : h.length ≠ 22) : Pan Tryz.prog pvE 93 [.str h] [] := by
 have d22 : ((h.length : Int) == 22) = false := beq_eq_false_iff_ne.2 (by omega)
 refine pan_of follows_mixed Tryz.func93 rfl V113 V169 rfl ?_
 refine Exec.reg ?_
 have X := Fx.mk d22
 refine Run.o1 V158 ?_
 refine Run.nil (Exec.reg ?_)
 refine Run.o1 V158 ?_
 refine Run.nil (Exec.reg ?_)
 refine Run.o1 V158 ?_
 refine Run.nil ?_
 refine Exec.pan (pv := pvE) 13 rfl ?_
 iterate 4 (refine Run.o1 V158 ?_)
 iterate 3 (refine Run.s ?_)
 iterate 2 (refine Run.o1 V158 ?_)
 iterate 3 (refine Run.s ?_)
 refine Run.o1 V158 ?_
 exact Run.panc (p_need false rfl) V164 V158 V74 rfl
theorem p_tr0b (h : Bs) (x : UInt8) (h22 : h.length = 22) (h6 : h[6]? = some x) (hx : x ≠ 32) : Pan Tryz.prog pvE 93 [.str h] [] := by
 have d22 : ((h.length : Int) == 22) = true := by rw [h22]; rfl
 have d6 : ((x.toNat : Int) == 32) = false := beq_eq_false_iff_ne.2 (fun e => hx (UInt8.toNat_inj.1 (by have : (32 : UInt8).toNat = 32 := rfl; omega)))
 have n6 : Int.toNat 6 = 6 := rfl
 have n7 : Int.toNat 7 = 7 := rfl
 have n14 : Int.toNat 14 = 14 := rfl
 have n15 : Int.toNat 15 = 15 := rfl
 have n22 : Int.toNat 22 = 22 := rfl
 have w1 : IntKind.i64.wrap 1 = 1 := rfl
 have w2 : IntKind.i64.wrap 2 = 2 := rfl
 have w3 : IntKind.i64.wrap 3 = 3 := rfl
 have w6 : IntKind.i64.wrap 6 = 6 := rfl
 have w7 : IntKind.i64.wrap 7 = 7 := rfl
 have w8 : IntKind.i64.wrap 8 = 8 := rfl
 have w14 : IntKind.i64.wrap 14 = 14 := rfl
 have w15 : IntKind.i64.wrap 15 = 15 := rfl
 have w22 : IntKind.i64.wrap 22 = 22 := rfl
 have w23 : IntKind.i64.wrap 23 = 23 := rfl
 refine pan_of follows_mixed Tryz.func93 rfl V113 V169 rfl ?_
 refine Exec.reg ?_
 have X := (((((((((((((((((Fx.mk d22).a d6).a h6).a n6).a n7).a n14).a n15).a n22).a w1).a w2).a w3).a w6).a w7).a w8).a w14).a w15).a w22).a w23
 refine Run.o1 V98 ?_
 refine Run.nil (Exec.reg ?_)
 refine Run.o1 V98 ?_
 refine Run.nil (Exec.reg ?_)
 refine Run.o1 V98 ?_
 refine Run.nil ?_
 refine Exec.pan (pv := pvE) 13 rfl ?_
 iterate 4 (refine Run.o1 V98 ?_)
 iterate 3 (refine Run.y1 V98 ?_)
 iterate 2 (refine Run.o1 V98 ?_)
 iterate 3 (refine Run.s ?_)
 refine Run.o1 V98 ?_
 exact Run.panc (p_need false rfl) V164 V98 V74 rfl
theorem p_tr0c (h : Bs) (x : UInt8) (h22 : h.length = 22) (h6 : h[6]? = some 32) (h14 : h[14]? = some x) (hx : x ≠ 32) : Pan Tryz.prog pvE 93 [.str h] [] := by
 have d22 : ((h.length : Int) == 22) = true := by rw [h22]; rfl
 have d32 : (((32 : UInt8).toNat : Int) == 32) = true := rfl
 have d6 : ((x.toNat : Int) == 32) = false := beq_eq_false_iff_ne.2 (fun e => hx (UInt8.toNat_inj.1 (by have : (32 : UInt8).toNat = 32 := rfl; omega)))
 have n6 : Int.toNat 6 = 6 := rfl
 have n7 : Int.toNat 7 = 7 := rfl
 have n14 : Int.toNat 14 = 14 := rfl
 have n15 : Int.toNat 15 = 15 := rfl
 have n22 : Int.toNat 22 = 22 := rfl
 have w1 : IntKind.i64.wrap 1 = 1 := rfl
 have w2 : IntKind.i64.wrap 2 = 2 := rfl
 have w3 : IntKind.i64.wrap 3 = 3 := rfl
 have w6 : IntKind.i64.wrap 6 = 6 := rfl
 have w7 : IntKind.i64.wrap 7 = 7 := rfl
 have w8 : IntKind.i64.wrap 8 = 8 := rfl
 have w14 : IntKind.i64.wrap 14 = 14 := rfl
 have w15 : IntKind.i64.wrap 15 = 15 := rfl
 have w22 : IntKind.i64.wrap 22 = 22 := rfl
 have w23 : IntKind.i64.wrap 23 = 23 := rfl
 refine pan_of follows_mixed Tryz.func93 rfl V113 V169 rfl ?_
 refine Exec.reg ?_
 have X := (((((((((((((((((((Fx.mk d22).a d32).a d6).a h6).a h14).a n6).a n7).a n14).a n15).a n22).a w1).a w2).a w3).a w6).a w7).a w8).a w14).a w15).a w22).a w23
 refine Run.o1 V98 ?_
 refine Run.nil (Exec.reg ?_)
 refine Run.o1 V98 ?_
 refine Run.nil (Exec.reg ?_)
 refine Run.o1 V98 ?_
 refine Run.nil ?_
 refine Exec.pan (pv := pvE) 13 rfl ?_
 iterate 4 (refine Run.o1 V98 ?_)
 iterate 3 (refine Run.y1 V98 ?_)
 iterate 2 (refine Run.o1 V98 ?_)
 iterate 3 (refine Run.y1 V98 ?_)
 refine Run.o1 V98 ?_
 exact Run.panc (p_need false rfl) V164 V98 V74 rfl
theorem p_tr2 (h a b c : Bs) (h22 : h.length = 22) (h6 : h[6]? = some 32) (h14 : h[14]? = some 32) (ea : h.take 6 = a) (eb : (h.take 14).drop 7 = b) (ec : (h.take 22).drop 15 = c) (hbad : ¬ (figOK (dw 32 a) = true ∧ figOK (dw 32 b) = true ∧ figOK (dw 32 c) = true ∧ (pad 32 6 (txt (vp a)) == a && (pad 32 7 (txt (vp b)) == b && pad 32 7 (txt (vp c)) == c)) = true)) : Pan Tryz.prog pvE 93 [.str h] [] := by
 have d22 : ((h.length : Int) == 22) = true := by rw [h22]; rfl
 have d32 : (((32 : UInt8).toNat : Int) == 32) = true := rfl
 have la : a.length = 6 := by rw [← ea, List.length_take]; omega
 have lb : b.length = 7 := by rw [← eb, List.length_drop, List.length_take]; omega
 have lc : c.length = 7 := by rw [← ec, List.length_drop, List.length_take]; omega
 have wa := dw_len 32 a
 have wb := dw_len 32 b
 have wc := dw_len 32 c
 have n6 : Int.toNat 6 = 6 := rfl
 have n7 : Int.toNat 7 = 7 := rfl
 have n14 : Int.toNat 14 = 14 := rfl
 have n15 : Int.toNat 15 = 15 := rfl
 have n22 : Int.toNat 22 = 22 := rfl
 have w1 : IntKind.i64.wrap 1 = 1 := rfl
 have w2 : IntKind.i64.wrap 2 = 2 := rfl
 have w3 : IntKind.i64.wrap 3 = 3 := rfl
 have w6 : IntKind.i64.wrap 6 = 6 := rfl
 have w7 : IntKind.i64.wrap 7 = 7 := rfl
 have w8 : IntKind.i64.wrap 8 = 8 := rfl
 have w14 : IntKind.i64.wrap 14 = 14 := rfl
 have w15 : IntKind.i64.wrap 15 = 15 := rfl
 have w22 : IntKind.i64.wrap 22 = 22 := rfl
 have w23 : IntKind.i64.wrap 23 = 23 := rfl
 have f00 : Nat.blt 0 0 = false := rfl
 have f01 : Nat.blt 0 1 = true := rfl
 have f02 : Nat.blt 0 2 = true := rfl
 have f03 : Nat.blt 0 3 = true := rfl
 have f10 : Nat.blt 1 0 = false := rfl
 have f11 : Nat.blt 1 1 = false := rfl
 have f12 : Nat.blt 1 2 = true := rfl
 have f13 : Nat.blt 1 3 = true := rfl
 have f20 : Nat.blt 2 0 = false := rfl
 have f21 : Nat.blt 2 1 = false := rfl
 have f22 : Nat.blt 2 2 = false := rfl
 have f23 : Nat.blt 2 3 = true := rfl
 refine pan_of follows_mixed Tryz.func93 rfl V113 V169 rfl ?_
 refine Exec.reg ?_
 have X := (((((((((((((((((((((((((((((((((Fx.mk f00).a f01).a f02).a f03).a f10).a f11).a f12).a f13).a f20).a f21).a f22).a f23).a d22).a d32).a h6).a h14).a ea).a eb).a ec).a n6).a n7).a n14).a n15).a n22).a w1).a w2).a w3).a w6).a w7).a w8).a w14).a w15).a w22).a w23
 refine Run.o1 V66 ?_
 refine Run.nil (Exec.reg ?_)
 refine Run.o1 V66 ?_
 refine Run.nil (Exec.reg ?_)
 refine Run.o1 V66 ?_
 refine Run.nil (Exec.reg ?_)
 iterate 4 (refine Run.o1 V66 ?_)
 iterate 3 (refine Run.y1 V66 ?_)
 iterate 2 (refine Run.o1 V66 ?_)
 iterate 3 (refine Run.y1 V66 ?_)
 refine Run.o1 V66 ?_
 refine Run.c1 (c_need true rfl) V66 V66 ?_
 refine Run.nil (Exec.reg ?_)
 refine Run.o1 V66 ?_
 refine Run.nil (Exec.assocS (Exec.reg ?_))
 refine Run.c1 (c_columns) V66 V66 ?_
 refine Run.o1 V66 ?_
 refine Run.nil (Exec.blk ?_)
 refine Exec.forA [0, 2, 3, 4, 5, 23, 24] [2, 3, 4] (3) (fun k => [.slot 24 (.int k), .slot 5 (.int (from3 k)), .obj 3 (.cells [rk (Nat.blt 0 k) a, rk (Nat.blt 1 k) b, rk (Nat.blt 2 k) c]), .obj 4 (.cells [rv (Nat.blt 0 k) a, rv (Nat.blt 1 k) b, rv (Nat.blt 2 k) c])]) (fun k => (0 < k → figOK (dw 32 a) = true) ∧ (1 < k → figOK (dw 32 b) = true) ∧ (2 < k → figOK (dw 32 c) = true)) (fun k => by simp only [go_sem] <;> rfl) V57 ?_ (fun k hk hX => ?_)
 ·exact ⟨fun h => absurd h (by decide), fun h => absurd h (by decide), fun h => absurd h (by decide)⟩
 ·skip
  by_cases h0 : k = 0
  ·skip
   subst h0
   have cz : ((0 : Nat) : Int) = 0 := rfl
   have ca : ((0 + 1 : Nat) : Int) = 1 := rfl
   refine Exec.reg ?_
   have X := (X.a cz).a ca
   refine Run.o1 V66 ?_
   refine Run.nil ?_
   refine Exec.cndS V66 (fun hb25 => ?_) (fun hb25 => ?_)
   ·skip
    refine Exec.skipS (Exec.blk (Exec.reg ?_))
    iterate 4 (refine Run.o1 V66 ?_)
    refine Run.nil (Exec.reg ?_)
    iterate 5 (refine Run.o1 V66 ?_)
    refine Run.o1 V30 ?_
    iterate 2 (refine Run.o1 V24 ?_)
    refine Run.o1 V66 ?_
    refine Run.nil ?_
    by_cases ff : figOK (dw 32 a) = true
    ·skip
     have hff := fig_bnd ff
     refine Exec.reg ?_
     iterate 2 (refine Run.o1 V66 ?_)
     refine Run.o1 V24 ?_
     refine Run.o1 V66 ?_
     refine Run.c1 (c_dw a 32 (by decide)) V66 V66 ?_
     refine Run.c1 (c_fig (dw 32 a) ff) V66 V66 ?_
     refine Run.o1 V24 ?_
     refine Run.o1 V66 ?_
     refine Run.nil (Exec.reg1 ?_)
     iterate 2 (refine Run.o1 V66 ?_)
     iterate 2 (refine Run.o1 V30 ?_)
     refine Run.o1 V66 ?_
     refine Run.nil (BlkK.nrm (Exec.reg1 ?_))
     refine Run.o1 V30 ?_
     refine Run.o1 V66 ?_
     refine Run.nil ?_
     refine ForK.nxt ?_ ?_ ?_
     ·omega
     ·exact Ghost.kp [0, 2, 3, 4, 5, 23, 24] [2, 3, 4] V11
     ·refine ⟨fun hh => ?_, fun hh => ?_, fun hh => ?_⟩ <;> first | exact ff | (exfalso; omega) | exact hX.1 (by omega) | exact hX.2.1 (by omega)
    ·skip
     have ff2 : figOK (dw 32 a) = false := by simpa using ff
     refine Exec.pan (pv := pvE) 5 rfl ?_
     iterate 2 (refine Run.o1 V66 ?_)
     refine Run.o1 V24 ?_
     refine Run.o1 V66 ?_
     refine Run.c1 (c_dw a 32 (by decide)) V66 V66 ?_
     exact Run.panc (p_fig ff2 (by omega)) V164 V66 V74 rfl
   ·exact absurd hb25 (by simp)
  ·skip
   by_cases h1 : k = 1
   ·skip
    subst h1
    have cz : ((1 : Nat) : Int) = 1 := rfl
    have ca : ((1 + 1 : Nat) : Int) = 2 := rfl
    refine Exec.reg ?_
    have X := (X.a cz).a ca
    refine Run.o1 V66 ?_
    refine Run.nil ?_
    refine Exec.cndS V66 (fun hb25 => ?_) (fun hb25 => ?_)
    ·skip
     refine Exec.skipS (Exec.blk (Exec.reg ?_))
     iterate 4 (refine Run.o1 V66 ?_)
     refine Run.nil (Exec.reg ?_)
     iterate 5 (refine Run.o1 V66 ?_)
     refine Run.o1 V30 ?_
     iterate 2 (refine Run.o1 V24 ?_)
     refine Run.o1 V66 ?_
     refine Run.nil ?_
     by_cases ff : figOK (dw 32 b) = true
     ·skip
      have hff := fig_bnd ff
      refine Exec.reg ?_
      iterate 2 (refine Run.o1 V66 ?_)
      refine Run.o1 V24 ?_
      refine Run.o1 V66 ?_
      refine Run.c1 (c_dw b 32 (by decide)) V66 V66 ?_
      refine Run.c1 (c_fig (dw 32 b) ff) V66 V66 ?_
      refine Run.o1 V24 ?_
      refine Run.o1 V66 ?_
      refine Run.nil (Exec.reg1 ?_)
      iterate 2 (refine Run.o1 V66 ?_)
      iterate 2 (refine Run.o1 V30 ?_)
      refine Run.o1 V66 ?_
      refine Run.nil (BlkK.nrm (Exec.reg1 ?_))
      refine Run.o1 V30 ?_
      refine Run.o1 V66 ?_
      refine Run.nil ?_
      refine ForK.nxt ?_ ?_ ?_
      ·omega
      ·exact Ghost.kp [0, 2, 3, 4, 5, 23, 24] [2, 3, 4] V11
      ·refine ⟨fun hh => ?_, fun hh => ?_, fun hh => ?_⟩ <;> first | exact ff | (exfalso; omega) | exact hX.1 (by omega) | exact hX.2.1 (by omega)
     ·skip
      have ff2 : figOK (dw 32 b) = false := by simpa using ff
      refine Exec.pan (pv := pvE) 5 rfl ?_
      iterate 2 (refine Run.o1 V66 ?_)
      refine Run.o1 V24 ?_
      refine Run.o1 V66 ?_
      refine Run.c1 (c_dw b 32 (by decide)) V66 V66 ?_
      exact Run.panc (p_fig ff2 (by omega)) V164 V66 V74 rfl
    ·exact absurd hb25 (by simp)
   ·skip
    by_cases h2 : k = 2
    ·skip
     subst h2
     have cz : ((2 : Nat) : Int) = 2 := rfl
     have ca : ((2 + 1 : Nat) : Int) = 3 := rfl
     refine Exec.reg ?_
     have X := (X.a cz).a ca
     refine Run.o1 V66 ?_
     refine Run.nil ?_
     refine Exec.cndS V66 (fun hb25 => ?_) (fun hb25 => ?_)
     ·skip
      refine Exec.skipS (Exec.blk (Exec.reg ?_))
      iterate 4 (refine Run.o1 V66 ?_)
      refine Run.nil (Exec.reg ?_)
      iterate 5 (refine Run.o1 V66 ?_)
      refine Run.o1 V30 ?_
      iterate 2 (refine Run.o1 V24 ?_)
      refine Run.o1 V66 ?_
      refine Run.nil ?_
      by_cases ff : figOK (dw 32 c) = true
      ·skip
       have hff := fig_bnd ff
       refine Exec.reg ?_
       iterate 2 (refine Run.o1 V66 ?_)
       refine Run.o1 V24 ?_
       refine Run.o1 V66 ?_
       refine Run.c1 (c_dw c 32 (by decide)) V66 V66 ?_
       refine Run.c1 (c_fig (dw 32 c) ff) V66 V66 ?_
       refine Run.o1 V24 ?_
       refine Run.o1 V66 ?_
       refine Run.nil (Exec.reg1 ?_)
       iterate 2 (refine Run.o1 V66 ?_)
       iterate 2 (refine Run.o1 V30 ?_)
       refine Run.o1 V66 ?_
       refine Run.nil (BlkK.nrm (Exec.reg1 ?_))
       refine Run.o1 V30 ?_
       refine Run.o1 V66 ?_
       refine Run.nil ?_
       refine ForK.nxt ?_ ?_ ?_
       ·omega
       ·exact Ghost.kp [0, 2, 3, 4, 5, 23, 24] [2, 3, 4] V11
       ·refine ⟨fun hh => ?_, fun hh => ?_, fun hh => ?_⟩ <;> first | exact ff | (exfalso; omega) | exact hX.1 (by omega) | exact hX.2.1 (by omega)
      ·skip
       have ff2 : figOK (dw 32 c) = false := by simpa using ff
       refine Exec.pan (pv := pvE) 5 rfl ?_
       iterate 2 (refine Run.o1 V66 ?_)
       refine Run.o1 V24 ?_
       refine Run.o1 V66 ?_
       refine Run.c1 (c_dw c 32 (by decide)) V66 V66 ?_
       exact Run.panc (p_fig ff2 (by omega)) V164 V66 V74 rfl
     ·exact absurd hb25 (by simp)
    ·skip
     have h3 : k = 3 := by omega
     subst h3
     have cz : ((3 : Nat) : Int) = 3 := rfl
     have fa := hX.1 (by omega)
     have fb := hX.2.1 (by omega)
     have fc := hX.2.2 (by omega)
     have hn : (pad 32 6 (txt (vp a)) == a && (pad 32 7 (txt (vp b)) == b && pad 32 7 (txt (vp c)) == c)) = false := Bool.eq_false_iff.2 fun e => hbad ⟨fa, fb, fc, e⟩
     refine Exec.reg ?_
     have X := (X.a cz).a hn
     refine Run.o1 V66 ?_
     refine Run.nil ?_
     refine Exec.cndS V66 (fun hb25 => ?_) (fun hb25 => ?_)
     ·exact absurd hb25 (by simp)
     ·skip
      refine Exec.exitS (ForK.ext (BlkK.hit (Exec.reg ?_)))
      refine Run.o1 V24 ?_
      refine Run.o1 V66 ?_
      refine Run.o1 V24 ?_
      refine Run.o1 V66 ?_
      refine Run.o1 V24 ?_
      iterate 4 (refine Run.o1 V66 ?_)
      refine Run.nil ?_
      refine Exec.opp (pv := pvE) 7 4 [0, 1, 2, 3] rfl V166 ?_
      refine OpenK.o1 V66 ?_
      refine OpenK.cal (c_rowOf (trP a b c) (trP_pos fa fb fc)) V164 V66 V74 (fr0) V66 V162 V162 ?_
      refine OpenK.o1 V66 ?_
      refine OpenK.val [.slot 56, .slot 57] (fun A' hA => semV_eq3 (a := pad 32 6 (txt (vp a))) (b := pad 32 7 (txt (vp b))) (c := pad 32 7 (txt (vp c))) (a' := a) (b' := b) (c' := c) Tryz.underlying148 Tryz.underlying9 (i := _) rfl V169 V169 V81 V82) V162 V162 V162 ?_
      have X := Fx.mk hn
      exact OpenK.pang [] 0 (p_need false rfl) V164 V162 V158 V79 (fun q x h => by simp [look] at h) (fun q q' n h => by simp [look] at h) V166 V166 rfl
theorem c_tr (h a b c : Bs) (h22 : h.length = 22) (h6 : h[6]? = some 32) (h14 : h[14]? = some 32) (ea : h.take 6 = a) (eb : (h.take 14).drop 7 = b) (ec : (h.take 22).drop 15 = c) (fa : figOK (dw 32 a) = true) (fb : figOK (dw 32 b) = true) (fc : figOK (dw 32 c) = true) (hn : (pad 32 6 (txt (vp a)) == a && (pad 32 7 (txt (vp b)) == b && pad 32 7 (txt (vp c)) == c)) = true) : Contract Tryz.prog 93 [.str h] (trV (trP a b c)) [] := by
 have hfa := fig_bnd fa
 have hfb := fig_bnd fb
 have hfc := fig_bnd fc
 have d22 : ((h.length : Int) == 22) = true := by rw [h22]; rfl
 have d32 : (((32 : UInt8).toNat : Int) == 32) = true := rfl
 have la : a.length = 6 := by rw [← ea, List.length_take]; omega
 have lb : b.length = 7 := by rw [← eb, List.length_drop, List.length_take]; omega
 have lc : c.length = 7 := by rw [← ec, List.length_drop, List.length_take]; omega
 have wa := dw_len 32 a
 have wb := dw_len 32 b
 have wc := dw_len 32 c
 have n6 : Int.toNat 6 = 6 := rfl
 have n7 : Int.toNat 7 = 7 := rfl
 have n14 : Int.toNat 14 = 14 := rfl
 have n15 : Int.toNat 15 = 15 := rfl
 have n22 : Int.toNat 22 = 22 := rfl
 have w1 : IntKind.i64.wrap 1 = 1 := rfl
 have w2 : IntKind.i64.wrap 2 = 2 := rfl
 have w3 : IntKind.i64.wrap 3 = 3 := rfl
 have w6 : IntKind.i64.wrap 6 = 6 := rfl
 have w7 : IntKind.i64.wrap 7 = 7 := rfl
 have w8 : IntKind.i64.wrap 8 = 8 := rfl
 have w14 : IntKind.i64.wrap 14 = 14 := rfl
 have w15 : IntKind.i64.wrap 15 = 15 := rfl
 have w22 : IntKind.i64.wrap 22 = 22 := rfl
 have w23 : IntKind.i64.wrap 23 = 23 := rfl
 have f00 : Nat.blt 0 0 = false := rfl
 have f01 : Nat.blt 0 1 = true := rfl
 have f02 : Nat.blt 0 2 = true := rfl
 have f03 : Nat.blt 0 3 = true := rfl
 have f10 : Nat.blt 1 0 = false := rfl
 have f11 : Nat.blt 1 1 = false := rfl
 have f12 : Nat.blt 1 2 = true := rfl
 have f13 : Nat.blt 1 3 = true := rfl
 have f20 : Nat.blt 2 0 = false := rfl
 have f21 : Nat.blt 2 1 = false := rfl
 have f22 : Nat.blt 2 2 = false := rfl
 have f23 : Nat.blt 2 3 = true := rfl
 refine con_of follows_mixed Tryz.func93 rfl V113 V169 rfl ?_
 refine Exec.reg ?_
 have X := ((((((((((((((((((((((((((((((((((Fx.mk f00).a f01).a f02).a f03).a f10).a f11).a f12).a f13).a f20).a f21).a f22).a f23).a d22).a d32).a h6).a h14).a ea).a eb).a ec).a n6).a n7).a n14).a n15).a n22).a w1).a w2).a w3).a w6).a w7).a w8).a w14).a w15).a w22).a w23).a hn
 refine Run.o1 V66 ?_
 refine Run.nil (Exec.reg ?_)
 refine Run.o1 V66 ?_
 refine Run.nil (Exec.reg ?_)
 refine Run.o1 V66 ?_
 refine Run.nil (Exec.reg ?_)
 iterate 4 (refine Run.o1 V66 ?_)
 iterate 3 (refine Run.y1 V66 ?_)
 iterate 2 (refine Run.o1 V66 ?_)
 iterate 3 (refine Run.y1 V66 ?_)
 refine Run.o1 V66 ?_
 refine Run.c1 (c_need true rfl) V66 V66 ?_
 refine Run.nil (Exec.reg ?_)
 refine Run.o1 V66 ?_
 refine Run.nil (Exec.assocS (Exec.reg ?_))
 refine Run.c1 (c_columns) V66 V66 ?_
 refine Run.o1 V66 ?_
 refine Run.nil (Exec.blk ?_)
 refine Exec.forA [0, 2, 3, 4, 5, 23, 24] [2, 3, 4] (3) (fun k => [.slot 24 (.int k), .slot 5 (.int (from3 k)), .obj 3 (.cells [rk (Nat.blt 0 k) a, rk (Nat.blt 1 k) b, rk (Nat.blt 2 k) c]), .obj 4 (.cells [rv (Nat.blt 0 k) a, rv (Nat.blt 1 k) b, rv (Nat.blt 2 k) c])]) (fun _ => True) (fun k => by simp only [go_sem] <;> rfl) V57 ?_ (fun k hk hX => ?_)
 ·trivial
 ·skip
  by_cases h0 : k = 0
  ·skip
   subst h0
   have cz : ((0 : Nat) : Int) = 0 := rfl
   have ca : ((0 + 1 : Nat) : Int) = 1 := rfl
   refine Exec.reg ?_
   have X := (X.a cz).a ca
   refine Run.o1 V66 ?_
   refine Run.nil ?_
   refine Exec.cndS V66 (fun hb25 => ?_) (fun hb25 => ?_)
   ·skip
    refine Exec.skipS (Exec.blk (Exec.reg ?_))
    iterate 4 (refine Run.o1 V66 ?_)
    refine Run.nil (Exec.reg ?_)
    iterate 5 (refine Run.o1 V66 ?_)
    refine Run.o1 V30 ?_
    iterate 2 (refine Run.o1 V24 ?_)
    refine Run.o1 V66 ?_
    refine Run.nil (Exec.reg ?_)
    iterate 2 (refine Run.o1 V66 ?_)
    refine Run.o1 V24 ?_
    refine Run.o1 V66 ?_
    refine Run.c1 (c_dw a 32 (by decide)) V66 V66 ?_
    refine Run.c1 (c_fig (dw 32 a) fa) V66 V66 ?_
    refine Run.o1 V24 ?_
    refine Run.o1 V66 ?_
    refine Run.nil (Exec.reg1 ?_)
    iterate 2 (refine Run.o1 V66 ?_)
    iterate 2 (refine Run.o1 V30 ?_)
    refine Run.o1 V66 ?_
    refine Run.nil (BlkK.nrm (Exec.reg1 ?_))
    refine Run.o1 V30 ?_
    refine Run.o1 V66 ?_
    refine Run.nil ?_
    refine ForK.nxt ?_ ?_ ?_
    ·omega
    ·exact Ghost.kp [0, 2, 3, 4, 5, 23, 24] [2, 3, 4] V11
    ·trivial
   ·exact absurd hb25 (by simp)
  ·skip
   by_cases h1 : k = 1
   ·skip
    subst h1
    have cz : ((1 : Nat) : Int) = 1 := rfl
    have ca : ((1 + 1 : Nat) : Int) = 2 := rfl
    refine Exec.reg ?_
    have X := (X.a cz).a ca
    refine Run.o1 V66 ?_
    refine Run.nil ?_
    refine Exec.cndS V66 (fun hb25 => ?_) (fun hb25 => ?_)
    ·skip
     refine Exec.skipS (Exec.blk (Exec.reg ?_))
     iterate 4 (refine Run.o1 V66 ?_)
     refine Run.nil (Exec.reg ?_)
     iterate 5 (refine Run.o1 V66 ?_)
     refine Run.o1 V30 ?_
     iterate 2 (refine Run.o1 V24 ?_)
     refine Run.o1 V66 ?_
     refine Run.nil (Exec.reg ?_)
     iterate 2 (refine Run.o1 V66 ?_)
     refine Run.o1 V24 ?_
     refine Run.o1 V66 ?_
     refine Run.c1 (c_dw b 32 (by decide)) V66 V66 ?_
     refine Run.c1 (c_fig (dw 32 b) fb) V66 V66 ?_
     refine Run.o1 V24 ?_
     refine Run.o1 V66 ?_
     refine Run.nil (Exec.reg1 ?_)
     iterate 2 (refine Run.o1 V66 ?_)
     iterate 2 (refine Run.o1 V30 ?_)
     refine Run.o1 V66 ?_
     refine Run.nil (BlkK.nrm (Exec.reg1 ?_))
     refine Run.o1 V30 ?_
     refine Run.o1 V66 ?_
     refine Run.nil ?_
     refine ForK.nxt ?_ ?_ ?_
     ·omega
     ·exact Ghost.kp [0, 2, 3, 4, 5, 23, 24] [2, 3, 4] V11
     ·trivial
    ·exact absurd hb25 (by simp)
   ·skip
    by_cases h2 : k = 2
    ·skip
     subst h2
     have cz : ((2 : Nat) : Int) = 2 := rfl
     have ca : ((2 + 1 : Nat) : Int) = 3 := rfl
     refine Exec.reg ?_
     have X := (X.a cz).a ca
     refine Run.o1 V66 ?_
     refine Run.nil ?_
     refine Exec.cndS V66 (fun hb25 => ?_) (fun hb25 => ?_)
     ·skip
      refine Exec.skipS (Exec.blk (Exec.reg ?_))
      iterate 4 (refine Run.o1 V66 ?_)
      refine Run.nil (Exec.reg ?_)
      iterate 5 (refine Run.o1 V66 ?_)
      refine Run.o1 V30 ?_
      iterate 2 (refine Run.o1 V24 ?_)
      refine Run.o1 V66 ?_
      refine Run.nil (Exec.reg ?_)
      iterate 2 (refine Run.o1 V66 ?_)
      refine Run.o1 V24 ?_
      refine Run.o1 V66 ?_
      refine Run.c1 (c_dw c 32 (by decide)) V66 V66 ?_
      refine Run.c1 (c_fig (dw 32 c) fc) V66 V66 ?_
      refine Run.o1 V24 ?_
      refine Run.o1 V66 ?_
      refine Run.nil (Exec.reg1 ?_)
      iterate 2 (refine Run.o1 V66 ?_)
      iterate 2 (refine Run.o1 V30 ?_)
      refine Run.o1 V66 ?_
      refine Run.nil (BlkK.nrm (Exec.reg1 ?_))
      refine Run.o1 V30 ?_
      refine Run.o1 V66 ?_
      refine Run.nil ?_
      refine ForK.nxt ?_ ?_ ?_
      ·omega
      ·exact Ghost.kp [0, 2, 3, 4, 5, 23, 24] [2, 3, 4] V11
      ·trivial
     ·exact absurd hb25 (by simp)
    ·skip
     have h3 : k = 3 := by omega
     subst h3
     have cz : ((3 : Nat) : Int) = 3 := rfl
     refine Exec.reg ?_
     have X := X.a cz
     refine Run.o1 V66 ?_
     refine Run.nil ?_
     refine Exec.cndS V66 (fun hb25 => ?_) (fun hb25 => ?_)
     ·exact absurd hb25 (by simp)
     ·skip
      refine Exec.exitS (ForK.ext (BlkK.hit (Exec.reg ?_)))
      refine Run.o1 V24 ?_
      refine Run.o1 V66 ?_
      refine Run.o1 V24 ?_
      refine Run.o1 V66 ?_
      refine Run.o1 V24 ?_
      iterate 4 (refine Run.o1 V66 ?_)
      refine Run.nil ?_
      refine Exec.opk 7 ?_
      refine OpenK.o1 V66 ?_
      refine OpenK.cal (c_rowOf (trP a b c) (trP_pos fa fb fc)) V164 V66 V74 (fr0) V66 V162 V162 ?_
      refine OpenK.o1 V66 ?_
      refine OpenK.val [.slot 56, .slot 57] (fun A' hA => semV_eq3 (a := pad 32 6 (txt (vp a))) (b := pad 32 7 (txt (vp b))) (c := pad 32 7 (txt (vp c))) (a' := a) (b' := b) (c' := c) Tryz.underlying148 Tryz.underlying9 (i := _) rfl V169 V169 V81 V82) V162 V162 V162 ?_
      refine OpenK.cal (c_need true rfl) V164 V66 V74 (fr0) V66 V162 V162 ?_
      refine OpenK.nil (OpenE.fin V166 V166 ?_)
      refine Exec.reg ?_
      iterate 2 (refine Run.o1 V66 ?_)
      refine Run.nil ?_
      exact Ends.fin [] (rs := [.cell 2 146]) rfl V66 (by simp only [go_sem, X.h, rk, rv, cond_true, cond_false, from3_0, from3_1, from3_2, from3_3, Int.toNat_zero, List.drop_zero, Int.reduceAdd] <;> first | rfl | exact eqz)
end Go.Mw
namespace Go.Mw
open Go.Proofs Go.Bk
theorem c_try {h : Bs} {t : Tr} (hm : tryP h = some t) : Contract Tryz.prog 93 [.str h] (trV t) [] := by
 unfold tryP at hm
 split at hm
 ·next hc =>
  simp only [Option.some.injEq] at hm
  obtain ⟨⟨h1, h2, h3⟩, ⟨f1, f2, f3⟩, p1, p2, p3⟩ := hc
  subst hm
  refine c_tr h _ _ _ h1 h2 h3 rfl (cutA h) (cutB' h) f1 f2 f3 ?_
  simp only [Bool.and_eq_true, beq_iff_eq]
  exact ⟨p1, p2, p3⟩
 ·cases hm
theorem p_try {h : Bs} (hl : h.length ≤ 1000000000) (hm : tryP h = none) : Pan Tryz.prog pvE 93 [.str h] [] := by
 by_cases h22 : h.length = 22
 ·obtain ⟨x, hx⟩ : ∃ x, h[6]? = some x := ⟨_, List.getElem?_eq_getElem (by omega)⟩
  obtain ⟨y, hy⟩ : ∃ y, h[14]? = some y := ⟨_, List.getElem?_eq_getElem (by omega)⟩
  by_cases x32 : x = 32
  ·subst x32
   by_cases y32 : y = 32
   ·subst y32
    refine p_tr2 h _ _ _ h22 hx hy rfl (cutA h) (cutB' h) fun hn => ?_
    obtain ⟨f1, f2, f3, hn⟩ := hn
    simp only [Bool.and_eq_true, beq_iff_eq] at hn
    unfold tryP at hm
    rw [if_pos ⟨⟨h22, hx, hy⟩, ⟨f1, f2, f3⟩, hn.1, hn.2.1, hn.2.2⟩] at hm
    cases hm
   ·exact p_tr0c h y h22 hx hy y32
  ·exact p_tr0b h x h22 hx x32
 ·exact p_tr0a h hl h22
end Go.Mw
namespace Go.Bk
open Go.Mw
theorem chk_cases {own : Bs} : chkOK own = true ∧ 3 ≤ own.length ∧ own[own.length - 2]? = some 32 ∧ chk (own.take (own.length - 2)) = own.drop (own.length - 1) ∨
  chkOK own = false ∧ (own.length < 3 ∨ 3 ≤ own.length ∧ (own[own.length - 2]? ≠ some 32 ∨ own[own.length - 2]? = some 32 ∧ chk (own.take (own.length - 2)) ≠ own.drop (own.length - 1))) := by
 unfold chkOK
 by_cases h1 : 3 ≤ own.length <;> by_cases h2 : own[own.length - 2]? = some 32 <;> by_cases h3 : chk (own.take (own.length - 2)) = own.drop (own.length - 1) <;> simp [h1, h2, h3] <;> omega
theorem stepPb {l : List Sh} {own : Bs} (h : chkOK own = false) : stepP l own = none := by unfold stepP; rw [if_neg (by rw [h]; simp)]
theorem stepPh {l : List Sh} {own : Bs} (h : chkOK own = true) (h2 : own.head? = some 35) : stepP l own = (meterP (own.take (own.length - 2))).map fun m => l ++ [⟨m, []⟩] := by unfold stepP; rw [if_pos h, if_pos h2]
theorem stepPn {own : Bs} (h : chkOK own = true) (h2 : own.head? ≠ some 35) : stepP [] own = none := by unfold stepP; rw [if_pos h, if_neg h2, if_pos rfl]
theorem stepPt {l : List Sh} {x : Sh} {own : Bs} (h : chkOK own = true) (h2 : own.head? ≠ some 35) : stepP (l ++ [x]) own = (tryP (own.take (own.length - 2))).map fun t => l ++ [⟨x.meter, x.tries ++ [t]⟩] := by
 unfold stepP
 rw [if_pos h, if_neg h2, if_neg (by simp)]
 congr 1
 funext t
 rw [addT_snoc]
theorem fold_long : ∀ (ls : List Bs) (l0 l : List Sh), ls.foldlM stepP l0 = some l → ∀ w ∈ ls, 3 ≤ w.length
 | [], _, _, _, w, hw => by cases hw
 | a :: ls, l0, l, h, w, hw => by
  rw [List.foldlM_cons] at h
  obtain ⟨l1, h1, h2⟩ := Option.bind_eq_some_iff.1 h
  rcases List.mem_cons.1 hw with rfl | hw
  ·cases hc : chkOK w
   ·rw [stepPb hc] at h1; cases h1
   ·rcases chk_cases (own := w) with hh | hh
    ·exact hh.2.1
    ·rw [hc] at hh; exact absurd hh.1 (by simp)
  ·exact fold_long ls l1 l h2 w hw
theorem ends_long : ∀ (ls : List Bs), (∀ w ∈ ls, 3 ≤ w.length) → 4 * ls.length ≤ (ends 10 ls).length
 | [], _ => by simp
 | a :: ls, h => by
  have := ends_long ls fun w hw => h w (List.mem_cons_of_mem _ hw)
  have := h a (List.mem_cons_self ..)
  rw [ends_cons]
  simp; omega
end Go.Bk
namespace Go.Mw
open Go.Proofs
open Go.Bk
attribute [local go_sem] decide_true beq_self_eq_true bne_self_eq_false
theorem c_sheetsErrorX (l : List Sh) (hl : l.length ≤ 1000000000000) (hz : ∀ x ∈ l, x.tries.length ≤ 1000) : Contract Tryz.prog 80 [.leaf (.d (shsD l))] (.int (sheetsE l)) [] := by
 by_cases h : 12 < l.length
 ·have e : sheetsE l = 3 := err3 _ _ h
  rw [e]; exact c_long_sheets l h hl
 ·exact c_sheetsError l (by omega) hz
def stP (ls : List Bs) (q : Nat × List Sh × Value) : Prop := foldK stepP ls q.1 = some q.2.1 ∧ q.1 ≤ ls.length ∧ bndT q.1 q.2.1
theorem end_P {ls : List Bs} {k : Nat} {l : List Sh} (h : foldK stepP ls k = some l) (hk : k = ls.length) : ls.foldlM stepP [] = some l := by rw [hk, foldK_all] at h; exact h
theorem bad_P {ls : List Bs} {k : Nat} (h : foldK stepP ls (k + 1) = none) : ls.foldlM stepP [] = none := fold_none h
theorem c_rdS (text : Bs) (ls : List Bs) (lf : List Sh) (hl : text.length ≤ 3000) (h : linesP text = some ls) (hm : ls.foldlM stepP [] = some lf) (hpe : sheetsE lf = 0) : Con Tryz.prog 91 [.leaf (.d (.pt [.raw (.string (bs text))]))] [] (.ret (.leaf (.d (shsD lf))) []) := by
 obtain ⟨hb1, hb2⟩ := lines_bnd h
 have h00 : ((0 : Int) == 0) = true := rfl
 have hl4 := ends_long ls (fold_long ls [] lf hm)
 rw [← lines_back h] at hl4
 refine con_of follows_mixed Tryz.func91 rfl V114 V169 rfl ?_
 refine Exec.reg ?_
 have X := (Fx.mk hpe).a h00
 refine Run.o1 V158 ?_
 refine Run.nil (Exec.assocS (Exec.reg ?_))
 refine Run.o1 V158 ?_
 refine Run.c1 (c_lines (by omega) h) V158 V158 ?_
 iterate 2 (refine Run.o1 V158 ?_)
 refine Run.nilo 1 1000 68 2 V162 V162 (by omega) (by omega) V162 ?_
 refine Run.pinNil 1002 1001 146 3 (.inl V162) V162 (by omega) (by omega) (by omega) (by omega) V162 ?_
 refine Run.nil (Exec.blk ?_)
 refine Exec.whl [1, 7, 8, 9] [1000, 1001, 1002] (fun (q : Nat × List Sh × Value) => [.slot 1 (.leaf (.own 1000 0 q.2.1.length q.2.1.length)), .slot 9 (.int q.1), .obj 1000 (.arr 68 2 (rowsV q.2.1 q.2.2)), .obj 1001 (.arr 146 3 ((lastT q.2.1).map encTr)), .obj 1002 (.pin q.2.2 (.own 1001 0 (lastT q.2.1).length (lastT q.2.1).length))]) (fun q => stP ls q) (fun q => ls.length - q.1) ((0, ([] : List Sh), Value.slice none 0 0)) (fun q => by simp only [go_sem] <;> rfl) (by simp only [go_sem, X.h, Int.natCast_zero, rowsV_nil, lastT_nil, List.map_nil, List.length_nil] <;> rfl) ?_ (fun q hX => ?_)
 ·exact ⟨foldK_zero _ _, Nat.zero_le _, bndT_nil⟩
 ·skip
  obtain ⟨k, l, v⟩ := q
  dsimp only at hX ⊢
  have hrl := rowsV_len l v
  have hkb := hX.2.1
  refine Exec.reg ?_
  have X := X.a hrl
  refine Run.o1 V158 ?_
  refine Run.nil ?_
  refine Exec.cndS V158 (fun hb10 => ?_) (fun hb10 => ?_)
  ·skip
   have hkn : k < ls.length := by have := of_decide_eq_true hb10; omega
   obtain ⟨s, hx⟩ : ∃ s, ls[k]? = some s := ⟨_, List.getElem?_eq_getElem hkn⟩
   have hsl := hb2 s (List.mem_of_getElem? hx)
   have hfk := foldK_step hx hX.1
   have hbT : bndT k l := hX.2.2
   have hbL : l.length ≤ k := hbT.1
   refine Exec.skipS (Exec.blk (Exec.reg ?_))
   have X := X.a hx
   refine Run.o1 V88 ?_
   iterate 2 (refine Run.o1 V158 ?_)
   refine Run.nil (Exec.reg ?_)
   iterate 2 (refine Run.o1 V158 ?_)
   refine Run.o1 V67 ?_
   refine Run.o1 V158 ?_
   refine Run.nil ?_
   by_cases hck : chkOK s = true
   ·skip
    have hcc := (chk_cases (own := s)).resolve_right (fun h => by rw [hck] at h; exact absurd h.1 (by simp))
    obtain ⟨_, k3, k4, k5⟩ := hcc
    have d17 : decide ((s.length : Int) - 2 > 0) = true := decide_eq_true (by omega)
    have tn : ((s.length : Int) - 2).toNat = s.length - 2 := by omega
    have hge : (0 ≤ (s.length : Int) - 2) = True := eq_true (by omega)
    have tn1 : ((s.length : Int) - 2 + 1).toNat = s.length - 1 := by omega
    have d33 : (chk (s.take (s.length - 2)) == s.drop (s.length - 1)) = true := beq_iff_eq.2 k5
    have d32 : (((32 : UInt8).toNat : Int) == 32) = true := rfl
    obtain ⟨c, hc0⟩ : ∃ c, s[0]? = some c := ⟨_, List.getElem?_eq_getElem (by omega)⟩
    have hhd : s.head? = some c := by rw [List.head?_eq_getElem?]; exact hc0
    refine Exec.opk 22 ?_
    have X := (((((((X.a d17).a hge).a tn).a tn1).a d33).a d32).a k4).a hc0
    iterate 3 (refine OpenK.o1 V100 ?_)
    iterate 4 (refine OpenK.y1 V100 ?_)
    iterate 2 (refine OpenK.o1 V100 ?_)
    iterate 2 (refine OpenK.y1 V100 ?_)
    refine OpenK.y1 V47 ?_
    refine OpenK.calw V162 (c_check (s.take (s.length - 2)) V160) V164 V100 V100 V74 (fr0) V100 V162 V162 ?_
    iterate 2 (refine OpenK.y1 V100 ?_)
    refine OpenK.y1 V48 ?_
    refine OpenK.y1 V47 ?_
    refine OpenK.y1 V100 ?_
    refine OpenK.o1 V100 ?_
    refine OpenK.cal (c_need true rfl) V164 V100 V74 (fr0) V100 V162 V162 ?_
    refine OpenK.nil (OpenE.finT V169 V169 V169 ?_)
    refine Exec.assocS ?_
    by_cases hc : c = 35
    ·skip
     subst hc
     have d35 : (((35 : UInt8).toNat : Int) == 35) = true := rfl
     have hst := stepPh (l := l) hck hhd
     rw [hst] at hfk
     refine Exec.reg ?_
     have X := X.a d35
     iterate 3 (refine Run.o1 V100 ?_)
     refine Run.nil ?_
     refine Exec.cndS V100 (fun hb38 => ?_) (fun hb38 => ?_)
     ·skip
      refine Exec.assocS ?_
      by_cases hmp : meterP (s.take (s.length - 2)) = none
      ·skip
       exact absurd (bad_P (hfk.trans (by rw [hmp]; rfl))) (by rw [hm]; simp)
      ·skip
       obtain ⟨m, hm1⟩ := Option.ne_none_iff_exists'.1 hmp
       rw [hm1, Option.map_some] at hfk
       have hnx := bndT_new hbT m
       by_cases hl0 : l = []
       ·skip
        subst hl0
        have hta : List.take (lastT []).length (List.map encTr (lastT [])) = List.map encTr (lastT []) := rfl
        refine Exec.reg ?_
        have X := Fx.mk hta
        refine Run.frz 1001 V158 ?_
        have X := ((((((((((((Fx.mk hpe).a h00).a hrl).a hx).a d17).a hge).a tn).a tn1).a d33).a d32).a k4).a hc0).a d35
        iterate 3 (refine Run.o1 V100 ?_)
        refine Run.o1 V47 ?_
        refine Run.c1 (c_meter hm1) V100 V100 ?_
        iterate 2 (refine Run.o1 V100 ?_)
        refine Run.o1 V4 ?_
        refine Run.o1 V100 ?_
        refine Run.pinNil 1002 1001 146 3 (.inr ⟨_, _, V162⟩) V162 (by omega) (by omega) (by omega) (by omega) V162 ?_
        refine Run.nil (Exec.exitS (BlkK.hit (Exec.reg1 ?_)))
        refine Run.o1 V48 ?_
        refine Run.o1 V100 ?_
        refine Run.nil ?_
        refine WhlK.nxt ((k + 1, [⟨m, []⟩], .slice none 0 0)) ?_ ?_ ?_
        ·show ls.length - (k + 1) < ls.length - k; omega
        ·exact ⟨hfk, hkn, hnx⟩
        ·exact Ghost.kp [1, 7, 8, 9] [1000, 1001, 1002] V14
       ·skip
        obtain ⟨l1, x, rfl⟩ := (snoc_or l).resolve_left hl0
        have hrv := rowsV_snoc l1 x v
        have hlt := lastT_snoc l1 x
        have hll : (l1 ++ [x]).length = l1.length + 1 := by simp
        have hrl2 := rows_len l1
        have hl1 : l1.length ≤ 200000000 := by omega
        have hta : List.take x.tries.length (List.map encTr x.tries) = List.map encTr x.tries := List.take_of_length_le (by simp)
        have hrb := rows_back l1 x
        have hr2 : rowsV (l1 ++ [x] ++ [⟨m, []⟩]) (.slice none 0 0) = (l1.map encSh ++ [[D.i x.meter, trsD x.tries]]) ++ [[.i m, .raw (.slice none 0 0)]] := by rw [rowsV_snoc, rows_back]
        have hl2 : lastT (l1 ++ [x] ++ [⟨m, []⟩]) = [] := lastT_snoc _ _
        refine Exec.reg ?_
        have X := ((Fx.mk hrv).a hlt).a hta
        refine Run.frz 1001 V158 ?_
        refine Run.unpinR 1002 1000 V158 V158 V158 ?_
        have X := ((((((((((((((((Fx.mk hpe).a h00).a hrl).a hx).a d17).a hge).a tn).a tn1).a d33).a d32).a k4).a hc0).a d35).a hll).a hrl2).a hr2).a hl2
        iterate 3 (refine Run.o1 V89 ?_)
        refine Run.o1 V31 ?_
        refine Run.c1 (c_meter hm1) V89 V89 ?_
        iterate 2 (refine Run.o1 V89 ?_)
        refine Run.o1 V2 ?_
        refine Run.o1 V89 ?_
        refine Run.pinNil 1002 1001 146 3 (.inr ⟨_, _, V162⟩) V162 (by omega) (by omega) (by omega) (by omega) V162 ?_
        refine Run.nil (Exec.exitS (BlkK.hit (Exec.reg1 ?_)))
        refine Run.o1 V37 ?_
        refine Run.o1 V89 ?_
        refine Run.nil ?_
        refine WhlK.nxt ((k + 1, l1 ++ [x] ++ [⟨m, []⟩], .slice none 0 0)) ?_ ?_ ?_
        ·show ls.length - (k + 1) < ls.length - k; omega
        ·exact ⟨hfk, hkn, hnx⟩
        ·exact Ghost.kp [1, 7, 8, 9] [1000, 1001, 1002] V12
     ·exact absurd hb38 (by simp)
    ·skip
     have hnh : s.head? ≠ some 35 := fun h => by rw [hhd] at h; exact hc (Option.some.inj h)
     have d35 : ((c.toNat : Int) == 35) = false := beq_eq_false_iff_ne.2 (fun h => hc (UInt8.toNat_inj.1 (by have : (35 : UInt8).toNat = 35 := rfl; omega)))
     refine Exec.reg ?_
     have X := X.a d35
     iterate 3 (refine Run.o1 V100 ?_)
     refine Run.nil ?_
     refine Exec.cndS V100 (fun hb38 => ?_) (fun hb38 => ?_)
     ·exact absurd hb38 (by simp)
     ·skip
      refine Exec.skipS ?_
      by_cases hl0 : l = []
      ·skip
       exact absurd (bad_P (hfk.trans (hl0 ▸ stepPn hck hnh))) (by rw [hm]; simp)
      ·skip
       obtain ⟨l1, x, rfl⟩ := (snoc_or l).resolve_left hl0
       have hrv := rowsV_snoc l1 x v
       have hlt := lastT_snoc l1 x
       have hll : (l1 ++ [x]).length = l1.length + 1 := by simp
       have hrl2 := rows_len l1
       have hl1 : l1.length ≤ 200000000 := by omega
       have hta : List.take x.tries.length (List.map encTr x.tries) = List.map encTr x.tries := List.take_of_length_le (by simp)
       have d4 : decide (((l1.length + 1 : Nat) : Int) > 0) = true := decide_eq_true (by omega)
       have hst := stepPt (l := l1) (x := x) hck hnh
       rw [hst] at hfk
       have t1 : (((l1.length + 1 : Nat) : Int) - 1).toNat = l1.length := by omega
       have hra := rows_at l1
       have hxt : x.tries.length ≤ k := hbT.2 x (by simp)
       refine Exec.reg ?_
       have X := ((((((X.a hll).a d4).a hrv).a hlt).a hrl2).a t1).a hra
       iterate 3 (refine Run.o1 V100 ?_)
       refine Run.c1 (c_need true rfl) V100 V100 ?_
       refine Run.nil (Exec.reg ?_)
       iterate 3 (refine Run.o1 V100 ?_)
       refine Run.o1 V48 ?_
       refine Run.o1 V47 ?_
       refine Run.o1 V100 ?_
       refine Run.nil ?_
       by_cases htp : tryP (s.take (s.length - 2)) = none
       ·skip
        exact absurd (bad_P (hfk.trans (by rw [htp]; rfl))) (by rw [hm]; simp)
       ·skip
        obtain ⟨t, ht1⟩ := Option.ne_none_iff_exists'.1 htp
        rw [ht1, Option.map_some] at hfk
        have hnx := bndT_try hbT t
        have hlt2 : lastT (l1 ++ [⟨x.meter, x.tries ++ [t]⟩]) = x.tries ++ [t] := lastT_snoc _ _
        refine Exec.opl1 16 13 rfl V166 ?_
        iterate 4 (refine OpenK.o1 V95 ?_)
        refine OpenK.pinl 1002 V162 V95 V95 V162 V162 ?_
        iterate 2 (refine OpenK.o1 V95 ?_)
        refine OpenK.o1 V39 ?_
        refine OpenK.cal (c_try ht1) V164 V95 V74 (fr0) V95 V162 V162 ?_
        refine OpenK.o1 V95 ?_
        refine OpenK.o1 V3 ?_
        iterate 2 (refine OpenK.o1 V95 ?_)
        refine OpenK.nil (OpenLE.pin (s := 66) (G := 1002) V166 V166 V162 V95 (.inr ⟨_, _, V95⟩) (fun u => V162) (fun u => V95) (fun u => V162) fun u => ?_)
        refine BlkK.nrm (Exec.reg1 ?_)
        refine Run.o1 V43 ?_
        refine Run.o1 V95 ?_
        refine Run.nil ?_
        refine WhlK.nxt ((k + 1, l1 ++ [⟨x.meter, x.tries ++ [t]⟩], u)) ?_ ?_ ?_
        ·show ls.length - (k + 1) < ls.length - k; omega
        ·exact ⟨hfk, hkn, hnx⟩
        ·exact Ghost.kp [1, 7, 8, 9] [1000, 1001, 1002] V10
   ·skip
    exact absurd (bad_P (hfk.trans (stepPb (by simpa using hck)))) (by rw [hm]; simp)
  ·skip
   have hke : k = ls.length := by have := of_decide_eq_false hb10; have := hX.2.1; omega
   have hf1 := end_P hX.1 hke
   rw [hm] at hf1
   have hle : lf = l := Option.some.inj hf1
   subst hle
   have hbT : bndT k lf := hX.2.2
   have hbL : lf.length ≤ k := hbT.1
   clear hf1
   refine Exec.exitS (WhlK.ext (BlkK.hit ?_))
   by_cases hl0 : lf = []
   ·skip
    subst hl0
    have hta : List.take (lastT []).length (List.map encTr (lastT [])) = List.map encTr (lastT []) := rfl
    have hrv := rowsV_nil v
    refine Exec.reg ?_
    have X := Fx.mk hta
    refine Run.frz 1001 V158 ?_
    have X := Fx.mk hrv
    refine Run.frz 1000 (by simp only [go_sem, X.h, List.take_nil] <;> rfl) ?_
    have X := ((Fx.mk hpe).a h00).a hrl
    refine Run.o1 V158 ?_
    refine Run.c1 (c_sheetsErrorX [] (by simp) (by simp)) V158 V158 ?_
    refine Run.o1 V158 ?_
    refine Run.c1 (c_need true rfl) V158 V158 ?_
    refine Run.nil (Exec.reg ?_)
    iterate 2 (refine Run.o1 V158 ?_)
    refine Run.nil ?_
    exact Ends.fin [] (rs := [.tmp 1]) rfl V158 V129
   ·skip
    have hz : ∀ y ∈ lf, y.tries.length ≤ 1000 := fun y hy => by have := hbT.2 y hy; omega
    obtain ⟨l1, x, rfl⟩ := (snoc_or lf).resolve_left hl0
    have hrv := rowsV_snoc l1 x v
    have hlt := lastT_snoc l1 x
    have hll : (l1 ++ [x]).length = l1.length + 1 := by simp
    have hrl2 := rows_len l1
    have hl1 : l1.length ≤ 200000000 := by omega
    have hta : List.take x.tries.length (List.map encTr x.tries) = List.map encTr x.tries := List.take_of_length_le (by simp)
    have htr := take_rows l1 x
    refine Exec.reg ?_
    have X := ((Fx.mk hrv).a hlt).a hta
    refine Run.frz 1001 V158 ?_
    refine Run.unpinR 1002 1000 V158 V158 V158 ?_
    have X := ((Fx.mk hll).a hrl2).a htr
    refine Run.frz 1000 V158 ?_
    have X := ((((Fx.mk hpe).a h00).a hrl).a hll).a hrl2
    refine Run.o1 V158 ?_
    refine Run.c1 (c_sheetsErrorX (l1 ++ [x]) (by omega) hz) V158 V158 ?_
    refine Run.o1 V158 ?_
    refine Run.c1 (c_need true rfl) V158 V158 ?_
    refine Run.nil (Exec.reg ?_)
    iterate 2 (refine Run.o1 V158 ?_)
    refine Run.nil ?_
    exact Ends.fin [] (rs := [.tmp 1]) rfl V158 V129
theorem p_rdS1 (text : Bs) (ls : List Bs) (hl : text.length ≤ 3000) (h : linesP text = some ls) (hbad : ∀ l, ls.foldlM stepP [] = some l → sheetsE l ≠ 0) : Pan Tryz.prog pvE 91 [.leaf (.d (.pt [.raw (.string (bs text))]))] [] := by
 obtain ⟨hb1, hb2⟩ := lines_bnd h
 refine pan_of follows_mixed Tryz.func91 rfl V114 V169 rfl ?_
 refine Exec.reg ?_
 refine Run.o ?_
 refine Run.nil (Exec.assocS (Exec.reg ?_))
 refine Run.o ?_
 refine Run.c1 (c_lines (by omega) h) V162 V162 ?_
 iterate 2 (refine Run.o ?_)
 refine Run.nilo 1 1000 68 2 V162 V162 (by omega) (by omega) V162 ?_
 refine Run.pinNil 1002 1001 146 3 (.inl V162) V162 (by omega) (by omega) (by omega) (by omega) V162 ?_
 refine Run.nil (Exec.blk ?_)
 refine Exec.whl [1, 7, 8, 9] [1000, 1001, 1002] (fun (q : Nat × List Sh × Value) => [.slot 1 (.leaf (.own 1000 0 q.2.1.length q.2.1.length)), .slot 9 (.int q.1), .obj 1000 (.arr 68 2 (rowsV q.2.1 q.2.2)), .obj 1001 (.arr 146 3 ((lastT q.2.1).map encTr)), .obj 1002 (.pin q.2.2 (.own 1001 0 (lastT q.2.1).length (lastT q.2.1).length))]) (fun q => stP ls q) (fun q => ls.length - q.1) ((0, ([] : List Sh), Value.slice none 0 0)) (fun q => by simp only [go_sem] <;> rfl) (by simp only [go_sem, Int.natCast_zero, rowsV_nil, lastT_nil, List.map_nil, List.length_nil] <;> rfl) ?_ (fun q hX => ?_)
 ·exact ⟨foldK_zero _ _, Nat.zero_le _, bndT_nil⟩
 ·skip
  obtain ⟨k, l, v⟩ := q
  dsimp only at hX ⊢
  have hrl := rowsV_len l v
  have hkb := hX.2.1
  refine Exec.reg ?_
  have X := Fx.mk hrl
  refine Run.o1 V158 ?_
  refine Run.nil ?_
  refine Exec.cndS V158 (fun hb10 => ?_) (fun hb10 => ?_)
  ·skip
   have hkn : k < ls.length := by have := of_decide_eq_true hb10; omega
   obtain ⟨s, hx⟩ : ∃ s, ls[k]? = some s := ⟨_, List.getElem?_eq_getElem hkn⟩
   have hsl := hb2 s (List.mem_of_getElem? hx)
   have hfk := foldK_step hx hX.1
   have hbT : bndT k l := hX.2.2
   have hbL : l.length ≤ k := hbT.1
   refine Exec.skipS (Exec.blk (Exec.reg ?_))
   have X := X.a hx
   refine Run.o1 V88 ?_
   iterate 2 (refine Run.o1 V158 ?_)
   refine Run.nil (Exec.reg ?_)
   iterate 2 (refine Run.o1 V158 ?_)
   refine Run.o1 V67 ?_
   refine Run.o1 V158 ?_
   refine Run.nil ?_
   by_cases hck : chkOK s = true
   ·skip
    have hcc := (chk_cases (own := s)).resolve_right (fun h => by rw [hck] at h; exact absurd h.1 (by simp))
    obtain ⟨_, k3, k4, k5⟩ := hcc
    have d17 : decide ((s.length : Int) - 2 > 0) = true := decide_eq_true (by omega)
    have tn : ((s.length : Int) - 2).toNat = s.length - 2 := by omega
    have hge : (0 ≤ (s.length : Int) - 2) = True := eq_true (by omega)
    have tn1 : ((s.length : Int) - 2 + 1).toNat = s.length - 1 := by omega
    have d33 : (chk (s.take (s.length - 2)) == s.drop (s.length - 1)) = true := beq_iff_eq.2 k5
    have d32 : (((32 : UInt8).toNat : Int) == 32) = true := rfl
    obtain ⟨c, hc0⟩ : ∃ c, s[0]? = some c := ⟨_, List.getElem?_eq_getElem (by omega)⟩
    have hhd : s.head? = some c := by rw [List.head?_eq_getElem?]; exact hc0
    refine Exec.opk 22 ?_
    have X := (((((((X.a d17).a hge).a tn).a tn1).a d33).a d32).a k4).a hc0
    iterate 3 (refine OpenK.o1 V100 ?_)
    iterate 4 (refine OpenK.y1 V100 ?_)
    iterate 2 (refine OpenK.o1 V100 ?_)
    iterate 2 (refine OpenK.y1 V100 ?_)
    refine OpenK.y1 V47 ?_
    refine OpenK.calw V162 (c_check (s.take (s.length - 2)) V160) V164 V100 V100 V74 (fr0) V100 V162 V162 ?_
    iterate 2 (refine OpenK.y1 V100 ?_)
    refine OpenK.y1 V48 ?_
    refine OpenK.y1 V47 ?_
    refine OpenK.y1 V100 ?_
    refine OpenK.o1 V100 ?_
    refine OpenK.cal (c_need true rfl) V164 V100 V74 (fr0) V100 V162 V162 ?_
    refine OpenK.nil (OpenE.finT V169 V169 V169 ?_)
    refine Exec.assocS ?_
    by_cases hc : c = 35
    ·skip
     subst hc
     have d35 : (((35 : UInt8).toNat : Int) == 35) = true := rfl
     have hst := stepPh (l := l) hck hhd
     rw [hst] at hfk
     refine Exec.reg ?_
     have X := X.a d35
     iterate 3 (refine Run.o1 V100 ?_)
     refine Run.nil ?_
     refine Exec.cndS V100 (fun hb38 => ?_) (fun hb38 => ?_)
     ·skip
      refine Exec.assocS ?_
      by_cases hmp : meterP (s.take (s.length - 2)) = none
      ·skip
       skip
       refine Exec.pan (pv := pvE) 4 rfl ?_
       iterate 3 (refine Run.o1 V100 ?_)
       refine Run.o1 V47 ?_
       exact Run.panc (p_meter V160 hmp) V164 V100 V74 rfl
      ·skip
       obtain ⟨m, hm1⟩ := Option.ne_none_iff_exists'.1 hmp
       rw [hm1, Option.map_some] at hfk
       have hnx := bndT_new hbT m
       by_cases hl0 : l = []
       ·skip
        subst hl0
        have hta : List.take (lastT []).length (List.map encTr (lastT [])) = List.map encTr (lastT []) := rfl
        refine Exec.reg ?_
        have X := Fx.mk hta
        refine Run.frz 1001 V158 ?_
        have X := ((((((((((Fx.mk hrl).a hx).a d17).a hge).a tn).a tn1).a d33).a d32).a k4).a hc0).a d35
        iterate 3 (refine Run.o1 V100 ?_)
        refine Run.o1 V47 ?_
        refine Run.c1 (c_meter hm1) V100 V100 ?_
        iterate 2 (refine Run.o1 V100 ?_)
        refine Run.o1 V4 ?_
        refine Run.o1 V100 ?_
        refine Run.pinNil 1002 1001 146 3 (.inr ⟨_, _, V162⟩) V162 (by omega) (by omega) (by omega) (by omega) V162 ?_
        refine Run.nil (Exec.exitS (BlkK.hit (Exec.reg1 ?_)))
        refine Run.o1 V48 ?_
        refine Run.o1 V100 ?_
        refine Run.nil ?_
        refine WhlK.nxt ((k + 1, [⟨m, []⟩], .slice none 0 0)) ?_ ?_ ?_
        ·show ls.length - (k + 1) < ls.length - k; omega
        ·exact ⟨hfk, hkn, hnx⟩
        ·exact Ghost.kp [1, 7, 8, 9] [1000, 1001, 1002] V14
       ·skip
        obtain ⟨l1, x, rfl⟩ := (snoc_or l).resolve_left hl0
        have hrv := rowsV_snoc l1 x v
        have hlt := lastT_snoc l1 x
        have hll : (l1 ++ [x]).length = l1.length + 1 := by simp
        have hrl2 := rows_len l1
        have hl1 : l1.length ≤ 200000000 := by omega
        have hta : List.take x.tries.length (List.map encTr x.tries) = List.map encTr x.tries := List.take_of_length_le (by simp)
        have hrb := rows_back l1 x
        have hr2 : rowsV (l1 ++ [x] ++ [⟨m, []⟩]) (.slice none 0 0) = (l1.map encSh ++ [[D.i x.meter, trsD x.tries]]) ++ [[.i m, .raw (.slice none 0 0)]] := by rw [rowsV_snoc, rows_back]
        have hl2 : lastT (l1 ++ [x] ++ [⟨m, []⟩]) = [] := lastT_snoc _ _
        refine Exec.reg ?_
        have X := ((Fx.mk hrv).a hlt).a hta
        refine Run.frz 1001 V158 ?_
        refine Run.unpinR 1002 1000 V158 V158 V158 ?_
        have X := ((((((((((((((Fx.mk hrl).a hx).a d17).a hge).a tn).a tn1).a d33).a d32).a k4).a hc0).a d35).a hll).a hrl2).a hr2).a hl2
        iterate 3 (refine Run.o1 V89 ?_)
        refine Run.o1 V31 ?_
        refine Run.c1 (c_meter hm1) V89 V89 ?_
        iterate 2 (refine Run.o1 V89 ?_)
        refine Run.o1 V2 ?_
        refine Run.o1 V89 ?_
        refine Run.pinNil 1002 1001 146 3 (.inr ⟨_, _, V162⟩) V162 (by omega) (by omega) (by omega) (by omega) V162 ?_
        refine Run.nil (Exec.exitS (BlkK.hit (Exec.reg1 ?_)))
        refine Run.o1 V37 ?_
        refine Run.o1 V89 ?_
        refine Run.nil ?_
        refine WhlK.nxt ((k + 1, l1 ++ [x] ++ [⟨m, []⟩], .slice none 0 0)) ?_ ?_ ?_
        ·show ls.length - (k + 1) < ls.length - k; omega
        ·exact ⟨hfk, hkn, hnx⟩
        ·exact Ghost.kp [1, 7, 8, 9] [1000, 1001, 1002] V12
     ·exact absurd hb38 (by simp)
    ·skip
     have hnh : s.head? ≠ some 35 := fun h => by rw [hhd] at h; exact hc (Option.some.inj h)
     have d35 : ((c.toNat : Int) == 35) = false := beq_eq_false_iff_ne.2 (fun h => hc (UInt8.toNat_inj.1 (by have : (35 : UInt8).toNat = 35 := rfl; omega)))
     refine Exec.reg ?_
     have X := X.a d35
     iterate 3 (refine Run.o1 V100 ?_)
     refine Run.nil ?_
     refine Exec.cndS V100 (fun hb38 => ?_) (fun hb38 => ?_)
     ·exact absurd hb38 (by simp)
     ·skip
      refine Exec.skipS ?_
      by_cases hl0 : l = []
      ·skip
       subst hl0
       have d4 : decide ((([] : List Sh).length : Int) > 0) = false := rfl
       refine Exec.pan (pv := pvE) 3 rfl ?_
       have X := X.a d4
       iterate 3 (refine Run.o1 V100 ?_)
       exact Run.panc (p_need false rfl) V164 V100 V74 rfl
      ·skip
       obtain ⟨l1, x, rfl⟩ := (snoc_or l).resolve_left hl0
       have hrv := rowsV_snoc l1 x v
       have hlt := lastT_snoc l1 x
       have hll : (l1 ++ [x]).length = l1.length + 1 := by simp
       have hrl2 := rows_len l1
       have hl1 : l1.length ≤ 200000000 := by omega
       have hta : List.take x.tries.length (List.map encTr x.tries) = List.map encTr x.tries := List.take_of_length_le (by simp)
       have d4 : decide (((l1.length + 1 : Nat) : Int) > 0) = true := decide_eq_true (by omega)
       have hst := stepPt (l := l1) (x := x) hck hnh
       rw [hst] at hfk
       have t1 : (((l1.length + 1 : Nat) : Int) - 1).toNat = l1.length := by omega
       have hra := rows_at l1
       have hxt : x.tries.length ≤ k := hbT.2 x (by simp)
       refine Exec.reg ?_
       have X := ((((((X.a hll).a d4).a hrv).a hlt).a hrl2).a t1).a hra
       iterate 3 (refine Run.o1 V100 ?_)
       refine Run.c1 (c_need true rfl) V100 V100 ?_
       refine Run.nil (Exec.reg ?_)
       iterate 3 (refine Run.o1 V100 ?_)
       refine Run.o1 V48 ?_
       refine Run.o1 V47 ?_
       refine Run.o1 V100 ?_
       refine Run.nil ?_
       by_cases htp : tryP (s.take (s.length - 2)) = none
       ·skip
        skip
        refine Exec.opp1 (pv := pvE) 16 8 [0, 1, 2, 3, 4, 5, 6, 7] rfl V166 ?_
        iterate 7 (refine OpenK.o1 V100 ?_)
        refine OpenK.o1 V47 ?_
        exact OpenK.pang [] 0 (p_try V160 htp) V164 V162 V162 V79 (fun q x h => by simp [look] at h) (fun q q' n h => by simp [look] at h) V166 V166 rfl
       ·skip
        obtain ⟨t, ht1⟩ := Option.ne_none_iff_exists'.1 htp
        rw [ht1, Option.map_some] at hfk
        have hnx := bndT_try hbT t
        have hlt2 : lastT (l1 ++ [⟨x.meter, x.tries ++ [t]⟩]) = x.tries ++ [t] := lastT_snoc _ _
        refine Exec.opl1 16 13 rfl V166 ?_
        iterate 4 (refine OpenK.o1 V95 ?_)
        refine OpenK.pinl 1002 V162 V95 V95 V162 V162 ?_
        iterate 2 (refine OpenK.o1 V95 ?_)
        refine OpenK.o1 V39 ?_
        refine OpenK.cal (c_try ht1) V164 V95 V74 (fr0) V95 V162 V162 ?_
        refine OpenK.o1 V95 ?_
        refine OpenK.o1 V3 ?_
        iterate 2 (refine OpenK.o1 V95 ?_)
        refine OpenK.nil (OpenLE.pin (s := 66) (G := 1002) V166 V166 V162 V95 (.inr ⟨_, _, V95⟩) (fun u => V162) (fun u => V95) (fun u => V162) fun u => ?_)
        refine BlkK.nrm (Exec.reg1 ?_)
        refine Run.o1 V43 ?_
        refine Run.o1 V95 ?_
        refine Run.nil ?_
        refine WhlK.nxt ((k + 1, l1 ++ [⟨x.meter, x.tries ++ [t]⟩], u)) ?_ ?_ ?_
        ·show ls.length - (k + 1) < ls.length - k; omega
        ·exact ⟨hfk, hkn, hnx⟩
        ·exact Ghost.kp [1, 7, 8, 9] [1000, 1001, 1002] V10
   ·skip
    have hck2 : chkOK s = false := by simpa using hck
    have hcc := ((chk_cases (own := s)).resolve_left (fun h => hck h.1)).2
    have tn : ((s.length : Int) - 2).toNat = s.length - 2 := by omega
    have tn1 : 3 ≤ s.length → ((s.length : Int) - 2 + 1).toNat = s.length - 1 := fun h => by omega
    by_cases hs3 : s.length < 3
    ·skip
     have d17 : decide ((s.length : Int) - 2 > 0) = false := decide_eq_false (by omega)
     refine Exec.opp (pv := pvE) 22 19 [0, 1, 2, 3, 4, 5, 6, 7, 8, 9, 10, 11, 12, 13, 14, 15, 16, 17, 18] rfl V166 ?_
     have X := (X.a tn).a d17
     iterate 3 (refine OpenK.o1 (by simp only [go_sem, X.h, List.drop_zero] <;> rfl) ?_)
     iterate 4 (refine OpenK.s ?_)
     iterate 2 (refine OpenK.o1 (by simp only [go_sem, X.h, List.drop_zero] <;> rfl) ?_)
     iterate 9 (refine OpenK.s ?_)
     refine OpenK.o1 (by simp only [go_sem, X.h, List.drop_zero] <;> rfl) ?_
     exact OpenK.pang [] 0 (p_need false rfl) V164 V162 V158 V79 (fun q x h => by simp [look] at h) (fun q q' n h => by simp [look] at h) V166 V166 rfl
    ·skip
     have d17 : decide ((s.length : Int) - 2 > 0) = true := decide_eq_true (by omega)
     have hcd := (hcc.resolve_left hs3).2
     have tn2 := tn1 (by omega)
     have hge : (0 ≤ (s.length : Int) - 2) = True := eq_true (by omega)
     by_cases h32 : s[s.length - 2]? = some 32
     ·skip
      have hne := (hcd.resolve_left (fun h => h h32)).2
      have d33 := bs_ne hne
      have d32 : (((32 : UInt8).toNat : Int) == 32) = true := rfl
      refine Exec.opp (pv := pvE) 22 19 [0, 1, 2, 3, 4, 5, 6, 7, 8, 9, 10, 11, 12, 13, 14, 15, 16, 17, 18] rfl V166 ?_
      have X := ((((((X.a tn).a d17).a hge).a tn2).a h32).a d32).a d33
      iterate 3 (refine OpenK.o1 V127 ?_)
      iterate 4 (refine OpenK.y1 V127 ?_)
      iterate 2 (refine OpenK.o1 V127 ?_)
      iterate 2 (refine OpenK.y1 V127 ?_)
      refine OpenK.y1 V62 ?_
      refine OpenK.calw V162 (c_check (s.take (s.length - 2)) V160) V164 V127 V127 V74 (fr0) V127 V162 V162 ?_
      iterate 2 (refine OpenK.y1 V127 ?_)
      refine OpenK.y1 (by simp only [go_sem, X.h, List.drop_zero, if_true]; (try simp (disch := omega) only [IntWalk.i64_in, IntWalk.u64_in, IntWalk.i32_in, IntWalk.u8_in, if_neg, if_pos])<;> rfl) ?_
      refine OpenK.y1 V62 ?_
      refine OpenK.y1 V127 ?_
      refine OpenK.o1 V127 ?_
      have X := ((((((((Fx.mk hrl).a hx).a tn).a tn2).a hge).a d17).a h32).a d32).a d33
      exact OpenK.pang [] 0 (p_need false rfl) V164 V162 (by simp only [go_sem, X.h, if_true] <;> rfl) V79 (fun q x h => by simp [look] at h) (fun q q' n h => by simp [look] at h) V166 V166 rfl
     ·skip
      obtain ⟨z, hz0⟩ : ∃ z, s[s.length - 2]? = some z := ⟨_, List.getElem?_eq_getElem (by omega)⟩
      have d32 : ((z.toNat : Int) == 32) = false := beq_eq_false_iff_ne.2 (fun h => h32 (by rw [hz0]; congr 1; exact UInt8.toNat_inj.1 (by have : (32 : UInt8).toNat = 32 := rfl; omega)))
      refine Exec.opp (pv := pvE) 22 19 [0, 1, 2, 3, 4, 5, 6, 7, 8, 9, 10, 11, 12, 13, 14, 15, 16, 17, 18] rfl V166 ?_
      have X := (((((X.a tn).a d17).a hge).a tn2).a hz0).a d32
      iterate 3 (refine OpenK.o1 V127 ?_)
      iterate 4 (refine OpenK.y1 V127 ?_)
      iterate 2 (refine OpenK.o1 V127 ?_)
      iterate 9 (refine OpenK.s ?_)
      refine OpenK.o1 V127 ?_
      have X := (((((((Fx.mk hrl).a hx).a tn).a tn2).a hge).a d17).a hz0).a d32
      exact OpenK.pang [] 0 (p_need false rfl) V164 V162 (by simp only [go_sem, X.h, if_true] <;> rfl) V79 (fun q x h => by simp [look] at h) (fun q q' n h => by simp [look] at h) V166 V166 rfl
  ·skip
   have hke : k = ls.length := by have := of_decide_eq_false hb10; have := hX.2.1; omega
   have hf1 := end_P hX.1 hke
   have h00 : (sheetsE l == 0) = false := by simpa using hbad l hf1
   have hl4 := ends_long ls (fold_long ls [] l hf1)
   rw [← lines_back h] at hl4
   have hbT : bndT k l := hX.2.2
   have hbL : l.length ≤ k := hbT.1
   refine Exec.exitS (WhlK.ext (BlkK.hit ?_))
   by_cases hl0 : l = []
   ·skip
    subst hl0
    have hta : List.take (lastT []).length (List.map encTr (lastT [])) = List.map encTr (lastT []) := rfl
    have hrv := rowsV_nil v
    refine Exec.pan (pv := pvE) 3 rfl ?_
    have X := Fx.mk hta
    refine Run.frz 1001 V158 ?_
    have X := Fx.mk hrv
    refine Run.frz 1000 (by simp only [go_sem, X.h, List.take_nil] <;> rfl) ?_
    have X := (Fx.mk hrl).a h00
    refine Run.o1 V158 ?_
    refine Run.c1 (c_sheetsErrorX [] (by simp) (by simp)) V158 V158 ?_
    refine Run.o1 V158 ?_
    exact Run.panc (p_need false rfl) V164 V158 V74 rfl
   ·skip
    have hz : ∀ y ∈ l, y.tries.length ≤ 1000 := fun y hy => by have := hbT.2 y hy; omega
    obtain ⟨l1, x, rfl⟩ := (snoc_or l).resolve_left hl0
    have hrv := rowsV_snoc l1 x v
    have hlt := lastT_snoc l1 x
    have hll : (l1 ++ [x]).length = l1.length + 1 := by simp
    have hrl2 := rows_len l1
    have hl1 : l1.length ≤ 200000000 := by omega
    have hta : List.take x.tries.length (List.map encTr x.tries) = List.map encTr x.tries := List.take_of_length_le (by simp)
    have htr := take_rows l1 x
    refine Exec.pan (pv := pvE) 3 rfl ?_
    have X := ((Fx.mk hrv).a hlt).a hta
    refine Run.frz 1001 V158 ?_
    refine Run.unpinR 1002 1000 V158 V158 V158 ?_
    have X := ((Fx.mk hll).a hrl2).a htr
    refine Run.frz 1000 V158 ?_
    have X := (((Fx.mk hrl).a h00).a hll).a hrl2
    refine Run.o1 V158 ?_
    refine Run.c1 (c_sheetsErrorX (l1 ++ [x]) (by omega) hz) V158 V158 ?_
    refine Run.o1 V158 ?_
    exact Run.panc (p_need false rfl) V164 V158 V74 rfl
theorem p_rdS0 (text : Bs) (hl : text.length ≤ 3000) (h : linesP text = none) : Pan Tryz.prog pvE 91 [.leaf (.d (.pt [.raw (.string (bs text))]))] [] := by
 refine pan_of follows_mixed Tryz.func91 rfl V114 V169 rfl ?_
 refine Exec.reg ?_
 refine Run.o ?_
 refine Run.nil (Exec.assocS ?_)
 refine Exec.pan (pv := pvE) 1 rfl ?_
 refine Run.o ?_
 exact Run.panc (p_lines (by omega) h) V164 V162 V74 rfl
end Go.Mw
namespace Go.Mw
open Go.Proofs Go.Bk
theorem c_rdSh {text : Bs} {l : List Sh} (hl : text.length ≤ 3000) (h : parseS text = some l) : Con Tryz.prog 91 [.leaf (.d (.pt [.raw (.string (bs text))]))] [] (.ret (.leaf (.d (shsD l))) []) := by
 unfold parseS strictS at h
 split at h
 ·next l' h1 =>
  obtain ⟨ls, h3, h4⟩ := Option.bind_eq_some_iff.1 h1
  split at h
  ·next hc => cases h; exact c_rdS text ls l hl h3 h4 hc
  ·cases h
 ·cases h
theorem p_rdSh {text : Bs} (hl : text.length ≤ 3000) (h : parseS text = none) : Pan Tryz.prog pvE 91 [.leaf (.d (.pt [.raw (.string (bs text))]))] [] := by
 cases h1 : linesP text with
 | none => exact p_rdS0 text hl h1
 | some ls =>
  cases h2 : ls.foldlM stepP [] with
  | none => exact p_rdS1 text ls hl h1 fun l e => by rw [h2] at e; cases e
  | some l =>
   by_cases h3 : sheetsE l = 0
   ·have e : strictS text = some l := by unfold strictS; rw [h1]; exact h2
    unfold parseS at h
    rw [e] at h
    simp only at h
    rw [if_pos h3] at h; cases h
   ·exact p_rdS1 text ls hl h1 fun l' e => by rw [h2] at e; cases e; exact h3
end Go.Mw
namespace Go.Mw
open Go.Proofs Go.RowKit
theorem tmps18_135 (a b v : Value) : #[a, b] ++ (((Array.replicate 16 undef).setIfInBounds 3 v).setIfInBounds 0 v) = #[a, b, v, undef, undef, v, undef, undef, undef, undef, undef, undef, undef, undef, undef, undef, undef, undef] := by kernel_rfl
theorem idle135 (p q : Addr) (w : World) : CallsD Tryz.prog 135 #[.pointer (some p), .pointer (some q)] .returning w fun e u' w' => e = .returned (.tuple #[]) ∧ u' = .returning ∧ w' = w := by
 refine callsD_of_wpS Tryz.func135 rfl fun c₀ cs hu => ?_
 apply wpS_seq
 apply wpS_region
 simp [wpOpsS, go_sem, recoverD, hu, Tryz.ntmps135, Exit.thenS]
 rw [tmps18_135]
 refine wpS_of_wp ?_
 have hnil : ∀ w : World, (binOp BinOp.neq 20 .nilIface .nilIface).run Tryz.prog w = .ok (.bool false) w := fun _ => by kernel_rfl
 have heg : ∀ w : World, (eqGuard BinOp.neq 20 (Operand.tmp 6) (Operand.const .nilIface) .nilIface .nilIface).run Tryz.prog w = .ok () w := fun _ => by kernel_rfl
 go_wp2
 cases c₀
 simp_all [bodyPostS, results, Tryz.results135, Exit.thenS]
theorem wrong135 (p q : Nat) (w : World) {cp cq : Value} {tp tq : TypeId} (hp : w.heap[p]? = some (.cells #[cp] tp (0, 0))) (hq : w.heap[q]? = some (.cells #[cq] tq (0, 0))) (hpq : p ≠ q) :
  CallsD Tryz.prog 135 #[.pointer (some ⟨p, 0, none⟩), .pointer (some ⟨q, 0, none⟩)] (.panicking [{ v := pvE, recovered := false }]) w fun e u' w' => e = .returned (.tuple #[]) ∧ u' = .panicking [{ v := pvE, recovered := true }] ∧
   w' = (((w.setCell ⟨p, 0, none⟩ (.slice none 0 0)).setCell ⟨q, 0, none⟩ (.int .i64 8)).alloc (.cells #[.int .i64 8] 172)).drew := by
 have mixed := mixedT
 refine callsD_of_wpS Tryz.func135 rfl fun c₀ cs hu => ?_
 apply wpS_seq
 apply wpS_region
 simp [wpOpsS, go_sem, recoverD, hu, Tryz.ntmps135, Exit.thenS]
 rw [tmps18_135]
 refine wpS_of_wp ?_
 have hnil : ∀ w : World, (binOp BinOp.neq 20 pvE .nilIface).run Tryz.prog w = .ok (.bool true) w := fun _ => by kernel_rfl
 have hta : ∀ w : World, (Instr.typeAssert pvE 20 172 true).run Tryz.prog w = .ok (.tuple #[.agg #[.int .i64 8], .bool true]) w := fun _ => by kernel_rfl
 have heg : ∀ w : World, (eqGuard BinOp.neq 20 (Operand.tmp 6) (Operand.const .nilIface) pvE .nilIface).run Tryz.prog w = .ok () w := fun _ => by kernel_rfl
 generalize hv : pvE = v at hnil hta heg ⊢
 have hlp := (Array.getElem?_eq_some_iff.1 hp).1
 have hlq := (Array.getElem?_eq_some_iff.1 hq).1
 have hpa : ∀ o, (w.alloc o).drew.heap[p]? = some (.cells #[cp] tp (0, 0)) := fun o => (Below.heap_alloc w o p hlp).trans hp
 have hqa : ∀ o, (w.alloc o).drew.heap[q]? = some (.cells #[cq] tq (0, 0)) := fun o => (Below.heap_alloc w o q hlq).trans hq
 have hna : ∀ o, (w.alloc o).drew.heap[w.heap.size]? = some o := fun o => heap_alloc_new w o
 have cpa : ∀ o, (w.alloc o).drew.cell? ⟨p, 0, none⟩ = some cp := fun o => by rw [Lib.cell_of_heap (hpa o)]; rfl
 have cqa : ∀ o, (w.alloc o).drew.cell? ⟨q, 0, none⟩ = some cq := fun o => by rw [Lib.cell_of_heap (hqa o)]; rfl
 have cna : (w.alloc (.cells #[.int .i64 8] 172)).drew.cell? ⟨w.heap.size, 0, none⟩ = some (.int .i64 8) := by rw [Lib.cell_of_heap (hna _)]; rfl
 have fpa : ∀ o, (w.alloc o).drew.frozen? ⟨p, 0, none⟩ = false := fun o => Lib.frozen_of_heap (hpa o) _
 have fqa : ∀ o, (w.alloc o).drew.frozen? ⟨q, 0, none⟩ = false := fun o => Lib.frozen_of_heap (hqa o) _
 have cp0 : w.cell? ⟨p, 0, none⟩ = some cp := by rw [Lib.cell_of_heap hp]; rfl
 have cq0 : w.cell? ⟨q, 0, none⟩ = some cq := by rw [Lib.cell_of_heap hq]; rfl
 have fp0 : w.frozen? ⟨p, 0, none⟩ = false := Lib.frozen_of_heap hp _
 have fq0 : w.frozen? ⟨q, 0, none⟩ = false := Lib.frozen_of_heap hq _
 have hqp : q ≠ p := fun h => hpq h.symm
 go_wp2
 go_region
 exact ⟨rfl, _, rfl, _, results_none rfl _ _ _, rfl, rfl, rfl⟩
theorem read90_ok (x : Value) (w : World) (G : Value → World → Prop)
  (hf : Calls Tryz.prog 91 #[x] ((w.alloc (.cells #[.slice none 0 0] 61)).alloc (.cells #[.int .i64 0] 35)) fun e w' => ∃ p n c, e = .returned (.slice p n c) ∧ G (.slice p n c) w' ∧
   w'.heap[w.heap.size]? = some (.cells #[.slice none 0 0] 61 (0, 0)) ∧ w'.heap[w.heap.size + 1]? = some (.cells #[.int .i64 0] 35 (0, 0))) :
  Calls Tryz.prog 90 #[.func (.func 91) #[] #[x]] w fun e w' => ∃ r w2, G r w2 ∧ e = .returned (.tuple #[r, .int .i64 0]) ∧ w' = (w2.setCell ⟨w.heap.size, 0, none⟩ r).setCell ⟨w.heap.size + 1, 0, none⟩ (.int .i64 0) := by
 have hmf : ∀ (fn : Fn) (first cap : Array Value) (w : World), (Instr.makeFunc fn first cap).run Tryz.prog w = .ok (.func fn first cap) w := fun _ _ _ _ => rfl
 go_enter_defers Tryz.func90, Tryz.ntmps90
 go_wp2_with (go_at_call 91; refine hf.mono ?_)
 rintro e w2 ⟨p, n, c, rfl, hG, h1, h2⟩
 have c1 : w2.cell? ⟨w.heap.size, 0, none⟩ = some (.slice none 0 0) := by rw [Lib.cell_of_heap h1]; rfl
 have c2 : w2.cell? ⟨w.heap.size + 1, 0, none⟩ = some (.int .i64 0) := by rw [Lib.cell_of_heap h2]; rfl
 have f1 : w2.frozen? ⟨w.heap.size, 0, none⟩ = false := Lib.frozen_of_heap h1 _
 have f2 : w2.frozen? ⟨w.heap.size + 1, 0, none⟩ = false := Lib.frozen_of_heap h2 _
 go_wp2
 have hne : w.heap.size ≠ w.heap.size + 1 := by omega
 have g1 : ((w2.setCell ⟨w.heap.size, 0, none⟩ (.slice p n c)).setCell ⟨w.heap.size + 1, 0, none⟩ (.int .i64 0)).heap[w.heap.size]? = some (.cells #[.slice p n c] 61 (0, 0)) :=
  (Below.heap_setCell _ ⟨w.heap.size + 1, 0, none⟩ _ _ hne).trans ((Lib.heap_setCell_same (i := 0) h1 (.slice p n c)).trans rfl)
 have g2 : ((w2.setCell ⟨w.heap.size, 0, none⟩ (.slice p n c)).setCell ⟨w.heap.size + 1, 0, none⟩ (.int .i64 0)).heap[w.heap.size + 1]? = some (.cells #[.int .i64 0] 35 (0, 0)) :=
  (Lib.heap_setCell_same (i := 0) ((Below.heap_setCell w2 ⟨w.heap.size, 0, none⟩ _ _ (fun h => hne h.symm)).trans h2) (.int .i64 0)).trans rfl
 have d1 : ((w2.setCell ⟨w.heap.size, 0, none⟩ (.slice p n c)).setCell ⟨w.heap.size + 1, 0, none⟩ (.int .i64 0)).cell? ⟨w.heap.size, 0, none⟩ = some (.slice p n c) := by rw [Lib.cell_of_heap g1]; rfl
 have d2 : ((w2.setCell ⟨w.heap.size, 0, none⟩ (.slice p n c)).setCell ⟨w.heap.size + 1, 0, none⟩ (.int .i64 0)).cell? ⟨w.heap.size + 1, 0, none⟩ = some (.int .i64 0) := by rw [Lib.cell_of_heap g2]; rfl
 refine leaves_cons (f := 135) (args := #[.pointer (some ⟨w.heap.size, 0, none⟩), .pointer (some ⟨w.heap.size + 1, 0, none⟩)]) (by simp) (by simp [go_sem]) ?_
 refine (idle135 ⟨w.heap.size, 0, none⟩ ⟨w.heap.size + 1, 0, none⟩ _).mono ?_
 rintro e u' w'' ⟨rfl, rfl, rfl⟩
 generalize hW : (w2.setCell ⟨w.heap.size, 0, none⟩ (.slice p n c)).setCell ⟨w.heap.size + 1, 0, none⟩ (.int .i64 0) = W at d1 d2 ⊢
 simp [Leaves, settle, results, Tryz.results90, go_sem, d1, d2]
 exact ⟨_, w2, hG, rfl, hW.symm⟩
theorem read90_pan (x : Value) (w : World) (G : World → Prop)
  (hf : Calls Tryz.prog 91 #[x] ((w.alloc (.cells #[.slice none 0 0] 61)).alloc (.cells #[.int .i64 0] 35)) fun e w' => e = .panicked (chain0 pvE) ∧ G w' ∧
   w'.heap[w.heap.size]? = some (.cells #[.slice none 0 0] 61 (0, 0)) ∧ w'.heap[w.heap.size + 1]? = some (.cells #[.int .i64 0] 35 (0, 0))) :
  Calls Tryz.prog 90 #[.func (.func 91) #[] #[x]] w fun e w' => ∃ w2, G w2 ∧ e = .returned (.tuple #[.slice none 0 0, .int .i64 8]) ∧ w' = (((w2.setCell ⟨w.heap.size, 0, none⟩ (.slice none 0 0)).setCell ⟨w.heap.size + 1, 0, none⟩ (.int .i64 8)).alloc (.cells #[.int .i64 8] 172)).drew := by
 have hmf : ∀ (fn : Fn) (first cap : Array Value) (w : World), (Instr.makeFunc fn first cap).run Tryz.prog w = .ok (.func fn first cap) w := fun _ _ _ _ => rfl
 go_enter_defers Tryz.func90, Tryz.ntmps90
 go_wp2_with (go_at_call 91; refine hf.mono ?_)
 rintro e w2 ⟨rfl, hG, h1, h2⟩
 go_wp2
 have hne : w.heap.size ≠ w.heap.size + 1 := by omega
 have hl2 := (Array.getElem?_eq_some_iff.1 h2).1
 have g1 : ((w2.setCell ⟨w.heap.size, 0, none⟩ (.slice none 0 0)).setCell ⟨w.heap.size + 1, 0, none⟩ (.int .i64 8)).heap[w.heap.size]? = some (.cells #[.slice none 0 0] 61 (0, 0)) :=
  (Below.heap_setCell _ ⟨w.heap.size + 1, 0, none⟩ _ _ hne).trans ((Lib.heap_setCell_same (i := 0) h1 (.slice none 0 0)).trans rfl)
 have g2 : ((w2.setCell ⟨w.heap.size, 0, none⟩ (.slice none 0 0)).setCell ⟨w.heap.size + 1, 0, none⟩ (.int .i64 8)).heap[w.heap.size + 1]? = some (.cells #[.int .i64 8] 35 (0, 0)) :=
  (Lib.heap_setCell_same (i := 0) ((Below.heap_setCell w2 ⟨w.heap.size, 0, none⟩ _ _ (fun h => hne h.symm)).trans h2) (.int .i64 8)).trans rfl
 have hs : ((w2.setCell ⟨w.heap.size, 0, none⟩ (.slice none 0 0)).setCell ⟨w.heap.size + 1, 0, none⟩ (.int .i64 8)).heap.size = w2.heap.size := by rw [sz_set, sz_set]
 refine leaves_cons (f := 135) (args := #[.pointer (some ⟨w.heap.size, 0, none⟩), .pointer (some ⟨w.heap.size + 1, 0, none⟩)]) (by simp) (by simp [go_sem]) ?_
 refine (wrong135 w.heap.size (w.heap.size + 1) w2 h1 h2 hne).mono ?_
 rintro e u' w'' ⟨rfl, rfl, rfl⟩
 generalize hW : (w2.setCell ⟨w.heap.size, 0, none⟩ (.slice none 0 0)).setCell ⟨w.heap.size + 1, 0, none⟩ (.int .i64 8) = W at g1 g2 hs ⊢
 have k1 : (W.alloc (.cells #[.int .i64 8] 172)).drew.heap[w.heap.size]? = some (.cells #[.slice none 0 0] 61 (0, 0)) := (Below.heap_alloc W _ _ (by omega)).trans g1
 have k2 : (W.alloc (.cells #[.int .i64 8] 172)).drew.heap[w.heap.size + 1]? = some (.cells #[.int .i64 8] 35 (0, 0)) := (Below.heap_alloc W _ _ (by omega)).trans g2
 have d1 : (W.alloc (.cells #[.int .i64 8] 172)).drew.cell? ⟨w.heap.size, 0, none⟩ = some (.slice none 0 0) := by rw [Lib.cell_of_heap k1]; rfl
 have d2 : (W.alloc (.cells #[.int .i64 8] 172)).drew.cell? ⟨w.heap.size + 1, 0, none⟩ = some (.int .i64 8) := by rw [Lib.cell_of_heap k2]; rfl
 generalize hV : (W.alloc (.cells #[.int .i64 8] 172)).drew = V at d1 d2 ⊢
 simp [Leaves, settle, results, Tryz.results90, go_sem, d1, d2]
 trace_state
 exact ⟨w2, hG, by rw [hW, hV]⟩
end Go.Mw
namespace Go.Mw
open Go.Proofs
open Go.Bk
attribute [local go_sem] decide_true beq_self_eq_true bne_self_eq_false
theorem readOk90 : ReadOk Tryz.prog 90 91 61 35 := fun x w G h => read90_ok x w G h
theorem readPan90 : ReadPan Tryz.prog 90 91 pvE 61 35 172 := fun x w G h => read90_pan x w G h
theorem c_read90 (b : Bs) (hb : b.length ≤ 3000) : Contract Tryz.prog 90 [.leaf (.d (.fn 91 [.pt [.raw (.string (bs b))]]))] (rsE (parseS b)) [] := by
 cases h : parseS b with
 | some l => exact con_readOk readOk90 (fun _ _ _ h => sl_slice h) (c_rdSh hb h)
 | none => exact con_readPan readPan90 (fun _ _ => RepD.nil _ _ _) (p_rdSh hb h)
theorem c_ReadSheets (b : Bs) (hb : b.length ≤ 3000) : Contract Tryz.prog 36 [.str b] (rsE (parseS b)) [] := by
 have hcr := c_read90 b hb
 generalize parseS b = q at hcr ⊢
 rcases q with _ | l
 ·skip
  dsimp only [rsE] at hcr ⊢
  refine con_of follows_mixed Tryz.func36 rfl (by simp only [List.length_cons, List.length_nil, Tryz.ntmps36]; omega) V169 rfl ?_
  refine Exec.reg ?_
  iterate 3 (refine Run.o ?_)
  refine Run.nil (Exec.reg ?_)
  refine Run.frz 1 V162 ?_
  refine Run.o ?_
  refine Run.frz 4 V162 ?_
  refine Run.c1 (hcr) V162 V162 ?_
  iterate 4 (refine Run.o ?_)
  refine Run.nil ?_
  exact Ends.fin [] (rs := [.tmp 2, .tmp 3]) rfl V162 V137
 ·skip
  dsimp only [rsE] at hcr ⊢
  refine con_of follows_mixed Tryz.func36 rfl (by simp only [List.length_cons, List.length_nil, Tryz.ntmps36]; omega) V169 rfl ?_
  refine Exec.reg ?_
  iterate 3 (refine Run.o ?_)
  refine Run.nil (Exec.reg ?_)
  refine Run.frz 1 V162 ?_
  refine Run.o ?_
  refine Run.frz 4 V162 ?_
  refine Run.c1 (hcr) V162 V162 ?_
  iterate 4 (refine Run.o ?_)
  refine Run.nil ?_
  exact Ends.fin [] (rs := [.tmp 2, .tmp 3]) rfl V162 V137
end Go.Mw

/- Contracts of the functions that the book reaches: bits that are punched. -/
import Derived.Test.YtpmdcdglfeicaaaGreatDoorD1
import Derived.Test.YtpmdcdglfeicaaaGreatDoorB4
import Derived.Test.YtpmdcdglfeicaaaGreatDoorB8
import Derived.Test.YtpmdcdglfeicaaaGreatDoorB6
import Derived.WalkKit
import Derived.Defers
import Derived.Recover
set_option maxRecDepth 20000
set_option maxHeartbeats 16000000
set_option linter.unusedSimpArgs false
set_option linter.unusedVariables false
set_option linter.unusedSectionVars false
set_option linter.deprecated false
namespace Go.Mw
open Go.Proofs
open Go.Bk
attribute [-go_sem] binInt
attribute [local go_sem] bI_add bI_sub bI_mul bI_rem bI_eql bI_neq bI_lss bI_leq bI_gtr bI_geq
theorem buf_all (o q : Nat) (l : List UInt8) (lr : AL) (x y z : D) (h : ∀ ns, AL.inn ns lr = true) : (bufP o q l lr x y z).all (fun p => p.2.inn (nms (bufP o q l lr x y z))) = true := by
 have h2 : (nms (bufP o q l lr x y z)).contains q = true := by simp [nms, bufP]
 generalize nms (bufP o q l lr x y z) = ns at h2
 show (((bfC q l).inn ns && (true && (lr.inn ns && true))) && true) = true
 rw [bfC_inn q l ns h2, h ns]; rfl
theorem c_wb (l : List UInt8) (c : UInt8) (hl : l.length ≤ 1000000) (v : Int) (hv : v = c.toNat) (x y z : D) :
  Con Tryz.prog 122 [.leaf (.ptr 910 0), .leaf (.d (.raw (.int .u8 v)))] [(910, .cells [bfC 901 l, .d (.raw (.int .i64 0)), .dead, .d x, .d y, .d z]), (901, .arr 5 1 (byD l))]
   (.ret (.leaf (.d (.raw .nilIface))) [(910, .cells [bfC 901 (l ++ [c]), .d (.raw (.int .i64 0)), .dead, .d x, .d y, .d z]), (901, .arr 5 1 (byD (l ++ [c])))]) := by subst hv; exact c_bufWB l c hl x y z
theorem c_bit (s : Bits) (b : Bool) (o : Int) (hs : s.length ≤ 100000) (ho : 0 ≤ o ∧ o ≤ 100000) : Con Tryz.prog 67 [.leaf (.ptr 910 0), .leaf (.d (.raw (.int .i64 (b.toNat : Nat))))] [(910, .cells [bfC 901 (pack s), .d (.raw (.int .i64 0)), .dead, .d (.raw (.int .u8 ((valB (rst s) : Nat) : Int))), .d (.raw (.int .i64 ((s).length : Int))), .d (.raw (.int .i64 o))]), (901, .arr 5 1 (byD (pack s)))] (.ret (.tup []) [(910, .cells [bfC 901 (pack (s ++ [b])), .d (.raw (.int .i64 0)), .dead, .d (.raw (.int .u8 ((valB (rst (s ++ [b])) : Nat) : Int))), .d (.raw (.int .i64 (((s ++ [b])).length : Int))), .d (.raw (.int .i64 (o + (b.toNat : Nat))))]), (901, .arr 5 1 (byD (pack (s ++ [b]))))]) := by
 have hv := valR s
 have hb1 : b.toNat ≤ 1 := by cases b <;> decide
 have hpl := pack_len s
 have hsh := bI_shl1 hv
 have hor := bI_orb hv b
 have hby : ((2 * valB (rst s) + b.toNat : Nat) : Int) = ((byteB (rst s ++ [b])).toNat : Int) := by
  unfold byteB; rw [valB_snoc, ofNat_toNat (by omega)]
 have htm : ((s.length : Int) + 1).tmod 8 = (((s.length + 1) % 8 : Nat) : Int) := by rw [Int.tmod_eq_emod_of_nonneg (by omega)]; omega
 have hlb : (s ++ [b]).length = s.length + 1 := List.length_append
 have hz0 : ((valB [] : Nat) : Int) = 0 := rfl
 refine con_of follows_mixed Tryz.func67 rfl (by simp only [List.length_cons, List.length_nil, Tryz.ntmps67]; omega) V169 rfl ?_
 refine Exec.reg ?_
 have X := (((Fx.mk hsh).a hor).a htm).a hlb
 iterate 7 (refine Run.o1 V128 ?_)
 refine Run.o1 V53 ?_
 iterate 4 (refine Run.o1 V128 ?_)
 refine Run.nil (Exec.reg ?_)
 iterate 5 (refine Run.o1 V128 ?_)
 refine Run.o1 V53 ?_
 iterate 3 (refine Run.o1 V128 ?_)
 refine Run.nil (Exec.reg ?_)
 iterate 4 (refine Run.o1 V128 ?_)
 refine Run.o1 V53 ?_
 iterate 3 (refine Run.o1 V128 ?_)
 refine Run.nil (Exec.reg ?_)
 iterate 4 (refine Run.o1 V128 ?_)
 refine Run.o1 V53 ?_
 refine Run.o1 V128 ?_
 refine Run.nil ?_
 refine Exec.cnd V128 (fun hb35 => ?_) (fun hb35 => ?_)
 ·skip
  have h8 : (s.length + 1) % 8 = 0 := by have := of_decide_eq_true hb35; omega
  obtain ⟨q1, q2⟩ := snoc_hi b h8
  refine Exec.opk 10 ?_
  have X := ((X.a q1).a q2).a hz0
  iterate 7 (refine OpenK.o1 V128 ?_)
  refine OpenK.lendG (ds := []) [(910, 910), (901, 901)] V162 (c_wb (pack s) (byteB (rst s ++ [b])) (by omega) _ hby (.raw (.int .u8 ((2 * valB (rst s) + b.toNat : Nat) : Int))) (.raw (.int .i64 ((s.length : Int) + 1))) (.raw (.int .i64 (o + (b.toNat : Nat))))) V164 V162 V162 V27 rfl (by decide) (by first | rfl | exact pen_all _ _ _ _ _ _ | exact buf_all _ _ _ _ _ _ _ (fun _ => rfl)) V54 V40 rfl V162 V162 V162 ?_
  refine OpenK.nil (OpenE.fin V166 V166 ?_)
  refine Exec.reg1 ?_
  iterate 4 (refine Run.o1 V128 ?_)
  refine Run.nil ?_
  exact Ends.fin0 [910, 901] (rs := []) rfl V128 (by simp only [go_sem, X.h, reduceCtorEq, if_false] <;> first | rfl | ((repeat' (first | with_reducible_and_instances rfl | refine st_eq ?_ ?_ ?_ | refine ret_eq ?_ | refine tup_eq ?_ | refine tm_eq ?_ ?_ | refine arr_eq ?_ | refine cells_eq ?_ | refine val_eq ?_ | refine ls_eq ?_ ?_ | refine own_eq ?_ ?_ | refine sl_eq ?_ | refine b_eq ?_ | (refine i_eq ?_; omega))); all_goals (first | omega | rfl)))
 ·skip
  have h8 : (s.length + 1) % 8 ≠ 0 := by have := of_decide_eq_false hb35; omega
  obtain ⟨q1, q2⟩ := snoc_lo b h8
  have X := (X.a q1).a q2
  exact Ends.fin0 [910, 901] (rs := []) rfl (by simp only [go_sem, X.h, reduceCtorEq, if_false, valB_snoc] <;> rfl) (by simp only [go_sem, X.h, reduceCtorEq, if_false, valB_snoc] <;> first | rfl | ((repeat' (first | with_reducible_and_instances rfl | refine st_eq ?_ ?_ ?_ | refine ret_eq ?_ | refine tup_eq ?_ | refine tm_eq ?_ ?_ | refine arr_eq ?_ | refine cells_eq ?_ | refine val_eq ?_ | refine ls_eq ?_ ?_ | refine own_eq ?_ ?_ | refine sl_eq ?_ | refine b_eq ?_ | (refine i_eq ?_; omega))); all_goals (first | omega | rfl)))
theorem c_number (s : Bits) (n many : Nat) (o : Int) (hs : s.length + many ≤ 100000) (ho : 0 ≤ o ∧ o + many ≤ 100000) (hm : many ≤ 63) (hn : n < 9223372036854775808) : Con Tryz.prog 65 [.leaf (.ptr 910 0), .int n, .int many] [(910, .cells [bfC 901 (pack s), .d (.raw (.int .i64 0)), .dead, .d (.raw (.int .u8 ((valB (rst s) : Nat) : Int))), .d (.raw (.int .i64 ((s).length : Int))), .d (.raw (.int .i64 o))]), (901, .arr 5 1 (byD (pack s)))] (.ret (.tup []) [(910, .cells [bfC 901 (pack (s ++ numB many n)), .d (.raw (.int .i64 0)), .dead, .d (.raw (.int .u8 ((valB (rst (s ++ numB many n)) : Nat) : Int))), .d (.raw (.int .i64 (((s ++ numB many n)).length : Int))), .d (.raw (.int .i64 (o + (ones (numB many n) : Nat))))]), (901, .arr 5 1 (byD (pack (s ++ numB many n))))]) := by
 have ht0 := topB_zero many n
 have hta := topB_all many n
 refine con_of follows_mixed Tryz.func65 rfl (by simp only [List.length_cons, List.length_nil, Tryz.ntmps65]; omega) V169 rfl ?_
 refine Exec.reg ?_
 refine Run.o ?_
 refine Run.o1 V69 ?_
 refine Run.o ?_
 refine Run.nil (Exec.blk1 ?_)
 have X := Fx.mk ht0
 refine Exec.forA [0, 1, 6] [910, 901] (many) (fun k => [.slot 6 (.int ((many : Int) - 1 - k)), .obj 910 (.cells [bfC 901 (pack (s ++ topB k many n)), .d (.raw (.int .i64 0)), .dead, .d (.raw (.int .u8 ((valB (rst (s ++ topB k many n)) : Nat) : Int))), .d (.raw (.int .i64 (((s ++ topB k many n)).length : Int))), .d (.raw (.int .i64 (o + (ones (topB k many n) : Nat))))]), .obj 901 (.arr 5 1 (byD (pack (s ++ topB k many n))))]) (fun _ => True) (fun k => by simp only [go_sem] <;> rfl) (by simp only [go_sem, X.h, Int.natCast_zero, List.append_nil, Int.sub_zero, ones_nil, Int.add_zero] <;> rfl) ?_ (fun k hk hX => ?_)
 ·trivial
 ·skip
  refine Exec.assocS (Exec.reg ?_)
  iterate 2 (refine Run.o ?_)
  refine Run.nil ?_
  refine Exec.cndS V162 (fun hb10 => ?_) (fun hb10 => ?_)
  ·skip
   have hk : k < many := by have := of_decide_eq_true hb10; omega
   have hsh := bI_shrN .i64 rfl n ((many : Int) - 1 - k) (i := many - 1 - k) (by omega) (by omega)
   have hlt : n / 2 ^ (many - 1 - k) < 9223372036854775808 := Nat.lt_of_le_of_lt (Nat.div_le_self _ _) hn
   have han := bI_and1 hlt
   have hbt := toNat_beq (n / 2 ^ (many - 1 - k))
   have hst := topB_step (n := n) hk
   have hol := ones_le (topB k many n)
   have htl := topB_len k many n
   have hsl : (s ++ topB k many n).length = s.length + k := by rw [List.length_append, htl]
   refine Exec.skipS (Exec.blk (Exec.reg1 ?_))
   have X := (Fx.mk hsh).a han
   iterate 5 (refine Run.o1 V158 ?_)
   refine Run.lendG [(910, 910), (901, 901)] V162 (c_bit (s ++ topB k many n) (n / 2 ^ (many - 1 - k) % 2 == 1) (o + (ones (topB k many n) : Nat)) (by rw [hsl]; omega) (by omega)) V164 (.inl ⟨[], by simp only [go_sem] <;> rfl, rfl⟩) V162 V8 rfl (by decide) V126 V54 V29 V78 V162 ?_
   refine Run.nil (BlkK.nrm (Exec.reg1 ?_))
   refine Run.o1 V158 ?_
   refine Run.o1 V67 ?_
   refine Run.o1 V158 ?_
   refine Run.nil ?_
   refine ForK.nxt ?_ ?_ ?_
   ·omega
   ·exact Ghost.kp [0, 1, 6] [910, 901] (by simp only [go_sem, X.h] <;> first | ((repeat' (first | with_reducible_and_instances rfl | refine st_eq ?_ ?_ ?_ | refine ret_eq ?_ | refine tup_eq ?_ | refine tm_eq ?_ ?_ | refine arr_eq ?_ | refine cells_eq ?_ | refine val_eq ?_ | refine ls_eq ?_ ?_ | refine own_eq ?_ ?_ | refine sl_eq ?_ | refine b_eq ?_ | (refine i_eq ?_; omega))); all_goals (first | omega | (rw [hst]; simp [ones_app, ones_one, Int.add_assoc]; done))) | rfl)
   ·trivial
  ·skip
   have hke : k = many := by have := of_decide_eq_false hb10; omega
   subst hke
   refine Exec.exitS (ForK.ext (Blk1K.hit ?_))
   have X := Fx.mk hta
   exact Ends.fin0 [910, 901] (rs := []) rfl V158 V129
end Go.Mw
namespace Go.Mw
open Go.Proofs
open Go.Bk
attribute [-go_sem] binInt
attribute [local go_sem] bI_add bI_sub bI_mul bI_rem bI_eql bI_neq bI_lss bI_leq bI_gtr bI_geq
theorem c_LenB (n : Nat) (h1 : 1 ≤ n) (h2 : n < 9223372036854775808) : Contract Tryz.prog 156 [.leaf (.d (.raw (.int .u64 n)))] (.int (bl n : Nat)) [] :=
 by
  have := c_Len (n : Int) (by omega) (by omega)
  rwa [Int.toNat_natCast, bl_bitLen h1 (by omega)] at this
theorem c_gamma (s : Bits) (n : Nat) (o : Int) (hs : s.length ≤ 90000) (ho : 0 ≤ o ∧ o ≤ 90000) (h1 : 1 ≤ n) (hn : n ≤ 65535) : Con Tryz.prog 121 [.leaf (.ptr 910 0), .int n] [(910, .cells [bfC 901 (pack s), .d (.raw (.int .i64 0)), .dead, .d (.raw (.int .u8 ((valB (rst s) : Nat) : Int))), .d (.raw (.int .i64 ((s).length : Int))), .d (.raw (.int .i64 o))]), (901, .arr 5 1 (byD (pack s)))] (.ret (.tup []) [(910, .cells [bfC 901 (pack (s ++ gammaB n)), .d (.raw (.int .i64 0)), .dead, .d (.raw (.int .u8 ((valB (rst (s ++ gammaB n)) : Nat) : Int))), .d (.raw (.int .i64 (((s ++ gammaB n)).length : Int))), .d (.raw (.int .i64 (o + (ones (gammaB n) : Nat))))]), (901, .arr 5 1 (byD (pack (s ++ gammaB n))))]) := by
 have hb1 := (bl_spec n).1
 have hb2 := bl_le (n := n) (k := 16) (by omega) (by omega)
 have hg : gammaB n = numB (2 * bl n - 1) n := rfl
 refine con_of follows_mixed Tryz.func121 rfl (by simp only [List.length_cons, List.length_nil, Tryz.ntmps121]; omega) V169 rfl ?_
 refine Exec.reg1 ?_
 have X := Fx.mk hg
 iterate 3 (refine Run.o1 V158 ?_)
 refine Run.o1 V67 ?_
 refine Run.c1 (c_LenB n h1 (by omega)) V158 V158 ?_
 iterate 2 (refine Run.o1 V67 ?_)
 refine Run.lendG [(910, 910), (901, 901)] V162 (c_number s n (2 * bl n - 1) o (by omega) (by omega) (by omega) (by omega)) V164 (.inl ⟨[], by simp only [go_sem] <;> rfl, rfl⟩) V162 V5 rfl (by decide) V126 V54 V29 V78 V162 ?_
 refine Run.nil ?_
 exact Ends.fin0 [910, 901] (rs := []) rfl V158 V129
theorem gammaB_len (n : Nat) : (gammaB n).length = 2 * bl n - 1 := numB_len _ _
attribute [local irreducible] numB gammaB ones pack rst valB plateB bodyB parB bfC byD
theorem c_plate (s : Bits) (x : Pl) (last o : Int) (hs : s.length ≤ 80000) (hl : 0 ≤ last ∧ last ≤ 65535) (hf : fits x last) : Con Tryz.prog 66 [.leaf (.ptr 910 0), plV x, .int last] [(910, .cells [bfC 901 (pack s), .d (.raw (.int .i64 0)), .dead, .d (.raw (.int .u8 ((valB (rst s) : Nat) : Int))), .d (.raw (.int .i64 ((s).length : Int))), .d (.raw (.int .i64 o))]), (901, .arr 5 1 (byD (pack s)))] (.ret (.tup []) [(910, .cells [bfC 901 (pack (s ++ plateB x last)), .d (.raw (.int .i64 0)), .dead, .d (.raw (.int .u8 ((valB (rst (s ++ plateB x last)) : Nat) : Int))), .d (.raw (.int .i64 (((s ++ plateB x last)).length : Int))), .d (.raw (.int .i64 ((ones (plateB x last) : Nat) : Int)))]), (901, .arr 5 1 (byD (pack (s ++ plateB x last))))]) := by
 obtain ⟨⟨f1, f2⟩, ⟨f3, f4⟩, f5, f6⟩ := hf
 have hb1 := (bl_spec (x.num - last).toNat).1
 have hb2 := bl_le (n := (x.num - last).toNat) (k := 16) (by omega) (by omega)
 have hgl : (gammaB (x.num - last).toNat).length = 2 * bl (x.num - last).toNat - 1 := gammaB_len _
 have h3l := numB_len 3 x.cls.toNat
 have h18l := numB_len 18 x.day.toNat
 have g1 := ones_le (gammaB (x.num - last).toNat)
 have g2 := ones_le (numB 3 x.cls.toNat)
 have g3 := ones_le (numB 18 x.day.toNat)
 have l1 : (s ++ (gammaB (x.num - last).toNat)).length = s.length + (gammaB (x.num - last).toNat).length := List.length_append
 have l2 : ((s ++ (gammaB (x.num - last).toNat)) ++ (numB 3 x.cls.toNat)).length = (s ++ (gammaB (x.num - last).toNat)).length + 3 := by rw [List.length_append, h3l]
 have l3 : (((s ++ (gammaB (x.num - last).toNat)) ++ (numB 3 x.cls.toNat)) ++ (numB 18 x.day.toNat)).length = ((s ++ (gammaB (x.num - last).toNat)) ++ (numB 3 x.cls.toNat)).length + 18 := by rw [List.length_append, h18l]
 have hob : ones (bodyB x last) = ones (gammaB (x.num - last).toNat) + ones (numB 3 x.cls.toNat) + ones (numB 18 x.day.toNat) := by unfold bodyB; rw [ones_app, ones_app]; omega
 have htm : (0 + (ones (gammaB (x.num - last).toNat) : Nat) + (ones (numB 3 x.cls.toNat) : Nat) + (ones (numB 18 x.day.toNat) : Nat) : Int).tmod 2 = (((parB (bodyB x last)).toNat : Nat) : Int) := by
  unfold parB; rw [toNat_beq, hob, Int.tmod_eq_emod_of_nonneg (by omega)]; omega
 have hss : s ++ plateB x last = (((s ++ (gammaB (x.num - last).toNat)) ++ (numB 3 x.cls.toNat)) ++ (numB 18 x.day.toNat)) ++ [parB (bodyB x last)] := by unfold plateB bodyB; simp only [List.append_assoc]
 have hop : ones (plateB x last) = ones (bodyB x last) + (parB (bodyB x last)).toNat := by unfold plateB; rw [ones_app, ones_one]
 have hpl : (plateB x last).length = (gammaB (x.num - last).toNat).length + 3 + 18 + 1 := by unfold plateB bodyB; simp only [List.length_append, List.length_singleton, h3l, h18l]; try omega
 have l4 : ((((s ++ (gammaB (x.num - last).toNat)) ++ (numB 3 x.cls.toNat)) ++ (numB 18 x.day.toNat)) ++ [parB (bodyB x last)]).length = (((s ++ (gammaB (x.num - last).toNat)) ++ (numB 3 x.cls.toNat)) ++ (numB 18 x.day.toNat)).length + 1 := List.length_append
 refine con_of follows_mixed Tryz.func66 rfl (by simp only [List.length_cons, List.length_nil, Tryz.ntmps66]; omega) V169 rfl ?_
 refine Exec.reg ?_
 have X := ((Fx.mk htm).a hss).a hop
 refine Run.o1 V158 ?_
 refine Run.nil (Exec.reg ?_)
 iterate 4 (refine Run.o1 V158 ?_)
 refine Run.nil (Exec.reg ?_)
 iterate 4 (refine Run.o1 V158 ?_)
 refine Run.o1 V67 ?_
 refine Run.lendG [(910, 910), (901, 901)] V162 (c_gamma s (x.num - last).toNat 0 (by omega) (by omega) (by omega) (by omega)) V164 (.inl ⟨[], by simp only [go_sem] <;> rfl, rfl⟩) V162 V8 rfl (by decide) V126 V54 V29 V78 V162 ?_
 refine Run.nil (Exec.reg ?_)
 iterate 3 (refine Run.o1 V158 ?_)
 refine Run.lendG [(910, 910), (901, 901)] V162 (c_number (s ++ (gammaB (x.num - last).toNat)) x.cls.toNat 3 (0 + (ones (gammaB (x.num - last).toNat) : Nat) : Int) (by omega) (by omega) (by omega) (by omega)) V164 (.inl ⟨[], by simp only [go_sem] <;> rfl, rfl⟩) V162 V5 rfl (by decide) V126 V54 V29 V78 V162 ?_
 refine Run.nil (Exec.reg ?_)
 iterate 3 (refine Run.o1 V158 ?_)
 refine Run.lendG [(910, 910), (901, 901)] V162 (c_number ((s ++ (gammaB (x.num - last).toNat)) ++ (numB 3 x.cls.toNat)) x.day.toNat 18 (0 + (ones (gammaB (x.num - last).toNat) : Nat) + (ones (numB 3 x.cls.toNat) : Nat) : Int) (by omega) (by omega) (by omega) (by omega)) V164 (.inl ⟨[], by simp only [go_sem] <;> rfl, rfl⟩) V162 V5 rfl (by decide) V126 V54 V29 V78 V162 ?_
 refine Run.nil (Exec.reg1 ?_)
 iterate 5 (refine Run.o1 V158 ?_)
 refine Run.o1 V67 ?_
 refine Run.lendG [(910, 910), (901, 901)] V162 (c_bit (((s ++ (gammaB (x.num - last).toNat)) ++ (numB 3 x.cls.toNat)) ++ (numB 18 x.day.toNat)) (parB (bodyB x last)) (0 + (ones (gammaB (x.num - last).toNat) : Nat) + (ones (numB 3 x.cls.toNat) : Nat) + (ones (numB 18 x.day.toNat) : Nat) : Int) (by omega) (by omega)) V164 (.inl ⟨[], by simp only [go_sem] <;> rfl, rfl⟩) V162 V8 rfl (by decide) V126 V54 V29 V78 V162 ?_
 refine Run.nil ?_
 exact Ends.fin0 [910, 901] (rs := []) rfl V158 (by simp only [go_sem, X.h] <;> first | rfl | ((repeat' (first | with_reducible_and_instances rfl | refine st_eq ?_ ?_ ?_ | refine ret_eq ?_ | refine tup_eq ?_ | refine tm_eq ?_ ?_ | refine arr_eq ?_ | refine cells_eq ?_ | refine val_eq ?_ | refine ls_eq ?_ ?_ | refine own_eq ?_ ?_ | refine sl_eq ?_ | refine b_eq ?_ | (refine i_eq ?_; omega))); all_goals (first | omega | ((repeat' (first | with_reducible_and_instances rfl | refine st_eq ?_ ?_ ?_ | refine congrArg (Beh.ret _) ?_ | refine ret_eq ?_ | refine tm_eq ?_ ?_ | refine congrArg (List.cons _) ?_ | refine congrArg₂ List.cons ?_ ?_ | refine congrArg (Prod.mk _) ?_ | refine arr_eq ?_ | refine cells_eq ?_ | refine ls_eq ?_ ?_ | refine i_eq ?_)); all_goals (first | omega | (trace_state; skip))))))
end Go.Mw
namespace Go.Mw
open Go.Proofs
open Go.Bk
attribute [-go_sem] binInt
attribute [local go_sem] bI_add bI_sub bI_mul bI_rem bI_eql bI_neq bI_lss bI_leq bI_gtr bI_geq
theorem c_Bytes (l : Bs) (hl : l ≠ []) (x y z : D) : Con Tryz.prog 69 [.leaf (.ptr 910 0)] [(910, .cells [bfC 901 l, .d (.raw (.int .i64 0)), .dead, .d x, .d y, .d z]), (901, .arr 5 1 (byD l))] (.ret (.leaf (.own 901 0 l.length l.length)) [(910, .cells [bfC 901 l, .d (.raw (.int .i64 0)), .dead, .d x, .d y, .d z]), (901, .arr 5 1 (byD l))]) := by
 rw [bfC_ne hl]
 have hbl := byD_len l
 refine con_of follows_mixed Tryz.func69 rfl (by simp only [List.length_cons, List.length_nil, Tryz.ntmps69]; omega) V169 rfl ?_
 refine Exec.reg ?_
 have X := Fx.mk hbl
 refine Run.o1 V158 ?_
 refine Run.nil ?_
 refine Exec.opk 12 ?_
 iterate 8 (refine OpenK.o1 V158 ?_)
 refine OpenK.o1 V88 ?_
 refine OpenK.o1 V158 ?_
 refine OpenK.nil (OpenE.fin V166 V166 ?_)
 exact Ends.fin [910, 901] (rs := [.tmp 2]) rfl V158 V129
theorem c_Clone (l : Bs) (hl : l ≠ []) (hn : l.length ≤ 1000000) : Con Tryz.prog 68 [.leaf (.own 901 0 l.length l.length)] [(901, .arr 5 1 (byD l))] (.ret (.leaf (.own 5 0 l.length l.length)) [(5, .arr 5 1 (byD l)), (901, .arr 5 1 (byD l))]) := by
 have hbl := byD_len l
 have hp : 0 < l.length := List.length_pos_iff.2 hl
 have htk : (byD l).take l.length = byD l := List.take_of_length_le (by omega)
 refine con_of follows_mixed Tryz.func68 rfl (by simp only [List.length_cons, List.length_nil, Tryz.ntmps68]; omega) V169 rfl ?_
 refine Exec.reg ?_
 have X := (Fx.mk hbl).a htk
 refine Run.o1 V158 ?_
 refine Run.nil (Exec.assocS (Exec.reg ?_))
 refine Run.o1 V158 ?_
 refine Run.val (semV_ownNil Tryz.underlying53 V162 V162 hbl hp) rfl V162 ?_ 
 refine Run.nil ?_
 refine Exec.cndS V158 (fun hb4 => ?_) (fun hb4 => ?_)
 ·exact absurd hb4 (by simp)
 ·skip
  refine Exec.skipS (Exec.reg ?_)
  iterate 2 (refine Run.o1 V158 ?_)
  refine Run.o1 V7 ?_
  refine Run.o1 V158 ?_
  refine Run.nil ?_
  exact Ends.fin [5, 901] (rs := [.tmp 2]) rfl V158 V129
abbrev bysE (l : Bs) (e : Int) : AV := .tup [(false, [.d (bysD l)]), (false, [.d (.i e)])]
theorem c_number0 (n : Nat) (hn : n ≤ 1000) : Con Tryz.prog 65 [.leaf (.ptr 910 0), .int n, .int 8] [(910, .cells [.d (.raw (.slice none 0 0)), .d (.raw (.int .i64 0)), .dead, .d (.raw (.int .u8 0)), .d (.raw (.int .i64 0)), .d (.raw (.int .i64 0))]), (901, .arr 5 1 [])] (.ret (.tup []) [(910, .cells [bfC 901 (pack (numB 8 n)), .d (.raw (.int .i64 0)), .dead, .d (.raw (.int .u8 ((valB (rst (numB 8 n)) : Nat) : Int))), .d (.raw (.int .i64 (((numB 8 n)).length : Int))), .d (.raw (.int .i64 ((ones (numB 8 n) : Nat) : Int)))]), (901, .arr 5 1 (byD (pack (numB 8 n))))]) := by
 have := c_number [] n 8 0 (by simp) (by omega) (by omega) (by omega)
 rw [Int.zero_add] at this
 exact this
theorem pack_ne (l : List Pl) : pack (padB (bitsB l)) ≠ [] := fun h => by
 have h1 := pack_len (padB (bitsB l))
 rw [h] at h1
 obtain ⟨k, hk⟩ := pad_len8 (bitsB l)
 have h2 : (bitsB l).length ≤ (padB (bitsB l)).length := by unfold padB; rw [List.length_append]; omega
 have h3 : 8 ≤ (bitsB l).length := by unfold bitsB; rw [List.length_append, numB_len]; omega
 simp only [List.length_nil] at h1
 omega
attribute [local irreducible] numB gammaB pack rst valB plateB bodyB parB byD
theorem c_WritePlates (l : List Pl) (hl : l.length ≤ 1000) : Contract Tryz.prog 25 [.leaf (.d (plsD l))] (bysE (wPlates l) (platesE l)) [] := by
 have hn1 := ones_le (numB 8 l.length)
 rw [numB_len] at hn1
 have hn8 := numB_len 8 l.length
 refine con_of follows_mixed Tryz.func25 rfl (by simp only [List.length_cons, List.length_nil, Tryz.ntmps25]; omega) V169 rfl ?_
 refine Exec.reg ?_
 iterate 2 (refine Run.o ?_)
 refine Run.nil (Exec.assocS (Exec.reg ?_))
 refine Run.o ?_
 refine Run.c1 (c_platesError l hl) V162 V162 ?_
 refine Run.o ?_
 refine Run.nil (Exec.assocS (Exec.reg ?_))
 iterate 2 (refine Run.o ?_)
 refine Run.nil ?_
 refine Exec.cndS V162 (fun hb12 => ?_) (fun hb12 => ?_)
 ·skip
  have hne : platesE l ≠ 0 := by simpa using hb12
  have hr : wPlates l = [] := if_neg hne
  refine Exec.assocS (Exec.reg ?_)
  have X := Fx.mk hr
  iterate 3 (refine Run.o1 (by simp only [go_sem, X.h, byD_nil] <;> rfl) ?_)
  refine Run.nild 2 1 V162 V162 ?_
  refine Run.nil (Exec.retS ?_)
  exact Ends.fin [] (rs := [.tmp 2, .tmp 3]) rfl (by simp only [go_sem, X.h, byD_nil] <;> rfl) (by simp only [go_sem, X.h, byD_nil] <;> first | rfl | ((repeat' (first | with_reducible_and_instances rfl | refine st_eq ?_ ?_ ?_ | refine ret_eq ?_ | refine tup_eq ?_ | refine tm_eq ?_ ?_ | refine arr_eq ?_ | refine cells_eq ?_ | refine val_eq ?_ | refine ls_eq ?_ ?_ | refine own_eq ?_ ?_ | refine sl_eq ?_ | refine b_eq ?_ | (refine i_eq ?_; omega))); all_goals exact byD_nil))
 ·skip
  have he0 : platesE l = 0 := by simpa using hb12
  have hr : wPlates l = pack (padB (bitsB l)) := if_pos he0
  obtain ⟨hch, hl60⟩ := chain_ok he0
  have hx65 : ∀ x ∈ l, x.num ≤ 65535 := fun x hx => by
   have h := List.all_eq_true.1 (errB_ok he0).2.1 x hx
   unfold plateOK at h
   simp only [Bool.and_eq_true, inD_iff] at h
   omega
  have hca0 := chain_at l 0 hch ⟨by omega, by omega⟩ hx65
  refine Exec.skipS (Exec.reg ?_)
  have X := (Fx.mk hr).a he0
  refine Run.o1 V158 ?_
  refine Run.nil (Exec.reg ?_)
  refine Run.deadc 5 2 V162 V162 ?_
  refine Run.arr0 5901 5 1 V162 (by omega) (by omega) V162 ?_
  iterate 2 (refine Run.o1 V158 ?_)
  refine Run.lendG [(910, 5), (901, 5901)] V162 (c_number0 l.length hl) V164 (.inl ⟨[], by simp only [go_sem] <;> rfl, rfl⟩) V162 V5 rfl (by decide) V126 V54 V29 V78 V162 ?_
  refine Run.nil (Exec.reg ?_)
  refine Run.o1 V158 ?_
  refine Run.nil (Exec.assocS (Exec.reg ?_))
  iterate 3 (refine Run.o1 V158 ?_)
  refine Run.nil (Exec.blk ?_)
  refine Exec.forA [5, 6, 17, 18, 19] [5, 5901] (l.length) (fun k => [.slot 6 (.int (lastP 0 (l.take k))), .slot 19 (.int k), .obj 5 (.cells [bfC 5901 (pack (numB 8 l.length ++ goB 0 (l.take k))), .d (.raw (.int .i64 0)), .dead, .d (.raw (.int .u8 ((valB (rst (numB 8 l.length ++ goB 0 (l.take k))) : Nat) : Int))), .d (.raw (.int .i64 (((numB 8 l.length ++ goB 0 (l.take k))).length : Int))), .d (.raw (.int .i64 (lastO 0 ((ones (numB 8 l.length) : Nat) : Int) (l.take k))))]), .obj 5901 (.arr 5 1 (byD (pack (numB 8 l.length ++ goB 0 (l.take k)))))]) (fun _ => True) (fun k => by simp only [go_sem] <;> rfl) (by simp only [go_sem, X.h, Int.natCast_zero, List.take_zero, goB, lastP, lastO, List.append_nil] <;> rfl) ?_ (fun k hk hX => ?_)
  ·trivial
  ·skip
   refine Exec.reg ?_
   refine Run.o1 V158 ?_
   refine Run.nil ?_
   refine Exec.cndS V158 (fun hb20 => ?_) (fun hb20 => ?_)
   ·skip
    have hlt := lt_of_dec hb20
    obtain ⟨x, hx⟩ := elem_of hb20
    have hca := hca0 k
    have htk := take_snoc hx
    have hg : numB 8 l.length ++ goB 0 (l.take (k + 1)) = numB 8 l.length ++ goB 0 (l.take k) ++ plateB x (lastP 0 (l.take k)) := by rw [htk, goB_snoc, List.append_assoc]
    have hp : lastP 0 (l.take (k + 1)) = x.num := by rw [htk, lastP_snoc]
    have ho : lastO 0 ((ones (numB 8 l.length) : Nat) : Int) (l.take (k + 1)) = ((ones (plateB x (lastP 0 (l.take k))) : Nat) : Int) := by rw [htk, lastO_snoc]
    have hgl : (goB 0 (l.take (k + 1))).length = (goB 0 (l.take k)).length + (plateB x (lastP 0 (l.take k))).length := by rw [htk, goB_snoc, List.length_append]
    refine Exec.skipS (Exec.blk (Exec.reg ?_))
    have X := (((X.a hx).a hg).a hp).a ho
    refine Run.o1 V88 ?_
    iterate 3 (refine Run.o1 V158 ?_)
    refine Run.nil (Exec.reg ?_)
    iterate 2 (refine Run.o1 V158 ?_)
    refine Run.lendG [(910, 5), (901, 5901)] V162 (c_plate (numB 8 l.length ++ goB 0 (l.take k)) x (lastP 0 (l.take k)) (lastO 0 ((ones (numB 8 l.length) : Nat) : Int) (l.take k)) (by rw [List.length_append]; omega) hca.2.1 (hca.2.2.2 x hx)) V164 (.inl ⟨[], by simp only [go_sem] <;> rfl, rfl⟩) V162 V5 rfl (by decide) V126 V54 V29 V78 V162 ?_
    refine Run.nil (Exec.reg1 ?_)
    iterate 3 (refine Run.o1 V158 ?_)
    refine Run.nil (BlkK.nrm (Exec.reg1 ?_))
    refine Run.o1 V67 ?_
    refine Run.o1 V158 ?_
    refine Run.nil ?_
    refine ForK.nxt ?_ ?_ ?_
    ·omega
    ·exact Ghost.kp [5, 6, 17, 18, 19] [5, 5901] (by simp only [go_sem, X.h] <;> first | ((repeat' (first | with_reducible_and_instances rfl | refine st_eq ?_ ?_ ?_ | refine ret_eq ?_ | refine tup_eq ?_ | refine tm_eq ?_ ?_ | refine arr_eq ?_ | refine cells_eq ?_ | refine val_eq ?_ | refine ls_eq ?_ ?_ | refine own_eq ?_ ?_ | refine sl_eq ?_ | refine b_eq ?_ | (refine i_eq ?_; omega))); all_goals (first | omega | ((repeat' (first | with_reducible_and_instances rfl | refine st_eq ?_ ?_ ?_ | refine congrArg (Beh.ret _) ?_ | refine ret_eq ?_ | refine tm_eq ?_ ?_ | refine congrArg (List.cons _) ?_ | refine congrArg₂ List.cons ?_ ?_ | refine congrArg (Prod.mk _) ?_ | refine arr_eq ?_ | refine cells_eq ?_ | refine ls_eq ?_ ?_ | refine i_eq ?_)); all_goals omega))) | rfl)
    ·trivial
   ·skip
    have hke := ge_of_dec hb20
    have htk : l.take k = l := List.take_of_length_le hke
    have hca := hca0 k
    rw [htk] at hca
    have hol := hca.2.2.1 ((ones (numB 8 l.length) : Nat) : Int) (by omega)
    have hbb : numB 8 l.length ++ goB 0 l = bitsB l := rfl
    have hbl : (bitsB l).length = 8 + (goB 0 l).length := by rw [← hbb, List.length_append, hn8]
    have hpl : (padB (bitsB l)).length = (bitsB l).length + ((8 - (bitsB l).length % 8) % 8) := by unfold padB; rw [List.length_append, List.length_replicate]
    have hg0 := hca.1
    have hkl : k ≤ 60 := by omega
    have hbl2 : (numB 8 l.length).length + (goB 0 l).length = (bitsB l).length := by rw [← hbb, List.length_append]
    refine Exec.exitS (ForK.ext (BlkK.hit (Exec.blk ?_)))
    have X := ((X.a htk).a hbb).a hbl2
    refine Exec.forA [5] [5, 5901] (((8 - (bitsB l).length % 8) % 8)) (fun j => [.obj 5 (.cells [bfC 5901 (pack (bitsB l ++ List.replicate j false)), .d (.raw (.int .i64 0)), .dead, .d (.raw (.int .u8 ((valB (rst (bitsB l ++ List.replicate j false)) : Nat) : Int))), .d (.raw (.int .i64 (((bitsB l ++ List.replicate j false)).length : Int))), .d (.raw (.int .i64 (lastO 0 ((ones (numB 8 l.length) : Nat) : Int) l)))]), .obj 5901 (.arr 5 1 (byD (pack (bitsB l ++ List.replicate j false))))]) (fun _ => True) (fun j => by simp only [go_sem] <;> rfl) (by simp only [go_sem, X.h, List.replicate_zero, List.append_nil, List.length_nil, Nat.add_zero] <;> rfl) ?_ (fun j hj Xj => ?_)
    ·trivial
    ·skip
     skip
     have htm1 : (((bitsB l ++ List.replicate j false).length : Nat) : Int).tmod 8 = ((((bitsB l).length + j) % 8 : Nat) : Int) := by rw [Int.tmod_eq_emod_of_nonneg (by omega)]; simp
     have htm2 : (((bitsB l).length + (List.replicate j false).length : Nat) : Int).tmod 8 = ((((bitsB l).length + j) % 8 : Nat) : Int) := by rw [Int.tmod_eq_emod_of_nonneg (by omega)]; simp
     have htm3 : (((bitsB l).length + j : Nat) : Int).tmod 8 = ((((bitsB l).length + j) % 8 : Nat) : Int) := by rw [Int.tmod_eq_emod_of_nonneg (by omega)]; simp
     refine Exec.assocS (Exec.reg ?_)
     have X := ((X.a htm1).a htm2).a htm3
     iterate 2 (refine Run.o1 V158 ?_)
     refine Run.o1 V67 ?_
     refine Run.o1 V158 ?_
     refine Run.nil ?_
     refine Exec.cndS V158 (fun hb32 => ?_) (fun hb32 => ?_)
     ·skip
      have hj : j < ((8 - (bitsB l).length % 8) % 8) := by have := hb32; simp at this; omega
      have hst : bitsB l ++ List.replicate (j + 1) false = bitsB l ++ List.replicate j false ++ [false] := by rw [List.replicate_succ', List.append_assoc]
      refine Exec.skipS (Exec.blk1 (Exec.reg1 ?_))
      refine Run.lendG [(910, 5), (901, 5901)] V162 (c_bit (bitsB l ++ List.replicate j false) false (lastO 0 ((ones (numB 8 l.length) : Nat) : Int) l) (by rw [List.length_append, List.length_replicate]; omega) (by omega)) V164 (.inl ⟨[], by simp only [go_sem] <;> rfl, rfl⟩) V162 V8 rfl (by decide) V126 V54 V29 V78 V162 ?_
      refine Run.nil (Blk1K.nrm ?_)
      refine ForK.nxt ?_ ?_ ?_
      ·omega
      ·exact Ghost.kp [5] [5, 5901] (by simp only [go_sem, hr, he0, htk, hbb, hbl2, htm1, htm2, htm3, hst, Bool.toNat_false, Int.natCast_zero, Int.add_zero] <;> first | ((repeat' (first | with_reducible_and_instances rfl | refine st_eq ?_ ?_ ?_ | refine ret_eq ?_ | refine tup_eq ?_ | refine tm_eq ?_ ?_ | refine arr_eq ?_ | refine cells_eq ?_ | refine val_eq ?_ | refine ls_eq ?_ ?_ | refine own_eq ?_ ?_ | refine sl_eq ?_ | refine b_eq ?_ | (refine i_eq ?_; omega))); all_goals (first | omega | ((repeat' (first | with_reducible_and_instances rfl | refine st_eq ?_ ?_ ?_ | refine congrArg (Beh.ret _) ?_ | refine ret_eq ?_ | refine tm_eq ?_ ?_ | refine congrArg (List.cons _) ?_ | refine congrArg₂ List.cons ?_ ?_ | refine congrArg (Prod.mk _) ?_ | refine arr_eq ?_ | refine cells_eq ?_ | refine ls_eq ?_ ?_ | refine i_eq ?_)); all_goals omega))) | rfl)
      ·trivial
     ·skip
      have hj : j = ((8 - (bitsB l).length % 8) % 8) := by have := hb32; simp at this; omega
      have hje : bitsB l ++ List.replicate j false = padB (bitsB l) := by rw [hj]; rfl
      have hlj : (bitsB l).length + j = (padB (bitsB l)).length := by rw [hpl, hj]
      have hb0 := byD_len (pack (padB (bitsB l)))
      have htk0 : (byD (pack (padB (bitsB l)))).take (pack (padB (bitsB l))).length = byD (pack (padB (bitsB l))) := List.take_of_length_le (by omega)
      refine Exec.exitS (ForK.ext (BlkK.hit (Exec.reg ?_)))
      have X := (X.a hje).a hlj
      refine Run.o1 V158 ?_
      have X := (Fx.mk hje).a hlj
      refine Run.lendG [(910, 5), (901, 5901)] V162 (c_Bytes (pack (padB (bitsB l))) (pack_ne l) (.raw (.int .u8 ((valB (rst (padB (bitsB l))) : Nat) : Int))) (.raw (.int .i64 (((padB (bitsB l))).length : Int))) (.raw (.int .i64 (lastO 0 ((ones (numB 8 l.length) : Nat) : Int) l)))) V164 (.inl ⟨[], by simp only [go_sem] <;> rfl, rfl⟩) V158 V13 rfl (by decide) V126 (by intro p hp n hn; simp only [List.mem_cons, List.not_mem_nil, or_false] at hp; rcases hp with rfl | rfl <;> (simp [look] at hn; subst hn; simp only [go_sem, X.h] <;> rfl)) V29 V78 V158 ?_
      refine Run.lendG [(901, 5901)] V162 (c_Clone (pack (padB (bitsB l))) (pack_ne l) (by rw [pack_len]; omega)) V164 (.inl ⟨[], by simp only [go_sem] <;> rfl, rfl⟩) V162 V13 rfl (by decide) V46 V60 V44 (by intro p hp hn; simp only [List.mem_cons, List.not_mem_nil, or_false] at hp; rcases hp with rfl | rfl <;> first | (simp [look] at hn; done) | (simp only [go_sem] <;> rfl)) V162 ?_
      have X := (Fx.mk hb0).a htk0
      refine Run.frz 37005 V158 ?_
      have X := (((((((((Fx.mk hr).a he0).a htk).a hbb).a hbl2).a htm1).a htm2).a htm3).a hje).a hlj
      iterate 2 (refine Run.o1 V158 ?_)
      refine Run.nil ?_
      exact Ends.fin [] (rs := [.tmp 2, .tmp 3]) rfl V158 V129
end Go.Mw
namespace Go.Mw
open Go.Proofs
open Go.Bk
attribute [-go_sem] binInt
attribute [local go_sem] bI_add bI_sub bI_mul bI_rem bI_eql bI_neq bI_lss bI_leq bI_gtr bI_geq
theorem drop_get {α : Type} {l : List α} {k : Nat} {x : α} (h : l[k]? = some x) : l.drop k = x :: l.drop (k + 1) := by
 obtain ⟨hk, rfl⟩ := List.getElem?_eq_some_iff.1 h
 exact List.drop_eq_getElem_cons hk
def biI (s : Bits) : List Int := s.map fun b => (b.toNat : Int)
theorem biI_len (s : Bits) : (biI s).length = s.length := by unfold biI; simp
def bitV (s : Bits) : List (List AV) := s.map fun b => [.int (b.toNat : Nat)]
theorem bitV_len (s : Bits) : (bitV s).length = s.length := by unfold bitV; simp
theorem bitV_drop {s : Bits} {k : Nat} {b : Bool} (h : s[k]? = some b) : (bitV s).drop k = [.int (b.toNat : Nat)] :: (bitV s).drop (k + 1) := by
 refine drop_get ?_
 unfold bitV
 rw [List.getElem?_map, h]; rfl
theorem bitV_get {s : Bits} {k : Nat} {v : List AV} (h : (bitV s)[k]? = some v) : ∃ b, s[k]? = some b ∧ v = [.int (b.toNat : Nat)] := by
 unfold bitV at h
 rw [List.getElem?_map] at h
 cases hn : s[k]? with
 | none => simp [hn] at h
 | some n => exact ⟨n, rfl, by simpa [hn] using h.symm⟩
theorem numB_get : ∀ (k n j : Nat), j < k → (numB k n)[j]? = some (n / 2 ^ (k - 1 - j) % 2 == 1)
 | 0, _, _, h => by omega
 | k + 1, n, j, h => by
  rw [numB]
  by_cases hj : j < k
  ·rw [List.getElem?_append_left (by rw [numB_len]; exact hj), numB_get k (n / 2) j hj, Nat.div_div_eq_div_mul, Nat.mul_comm, ← Nat.pow_succ, show (k - 1 - j).succ = k + 1 - 1 - j by omega]
  ·have e : j = k := by omega
   subst e
   rw [List.getElem?_append_right (by rw [numB_len]; exact Nat.le_refl _), numB_len]
   simp
theorem unp_get : ∀ (b : Bs) (k j : Nat) (c : UInt8), b[k]? = some c → j < 8 → (unp b)[8 * k + j]? = some (c.toNat / 2 ^ (7 - j) % 2 == 1)
 | [], _, _, _, h, _ => by simp at h
 | d :: b, 0, j, c, h, hj => by
  simp at h; subst h
  show (numB 8 d.toNat ++ unp b)[8 * 0 + j]? = _
  rw [List.getElem?_append_left (by rw [numB_len]; omega), Nat.mul_zero, Nat.zero_add, numB_get 8 _ j hj]
 | d :: b, k + 1, j, c, h, hj => by
  show (numB 8 d.toNat ++ unp b)[8 * (k + 1) + j]? = _
  rw [List.getElem?_append_right (by rw [numB_len]; omega), numB_len, show 8 * (k + 1) + j - 8 = 8 * k + j by omega]
  exact unp_get b k j c (by simpa using h) hj
theorem byD_get {b : Bs} {k : Nat} {c : UInt8} (h : b[k]? = some c) : (byD b)[k]? = some [.raw (.int .u8 c.toNat)] := by
 unfold byD
 rw [List.getElem?_map, h]; rfl
theorem and_one8 {x : Nat} (h : x < 256) : binInt .and .u8 (x : Int) 1 = some (.int .u8 ((x % 2 : Nat) : Int)) := by
 have e : IntKind.u8.wrap ((BitVec.ofInt 8 (x : Int) &&& BitVec.ofInt 8 1).toNat : Int) = ((x % 2 : Nat) : Int) := by
  have e : (BitVec.ofInt 8 (x : Int) &&& BitVec.ofInt 8 1).toNat = x % 2 := by
   rw [BitVec.toNat_and]
   have h1 : (BitVec.ofInt 8 (x : Int)).toNat = x := by rw [BitVec.toNat_ofInt]; omega
   have h2 : (BitVec.ofInt 8 1).toNat = 1 := by decide
   rw [h1, h2, Nat.and_one_is_mod]
  rw [e, IntKind.wrap_u8]; omega
 exact congrArg (fun z => some (Value.int .u8 z)) e
theorem shr8 (x : Nat) (a : Int) {i : Nat} (ha : a = i) (h : i ≤ 8) : binInt .shr .u8 (x : Int) a = some (.int .u8 ((x / 2 ^ i : Nat) : Int)) := by
 subst ha
 show (if (i : Int) < 0 then none else some (Value.int .u8 ((x : Int).fdiv (2 ^ (min (i : Int).toNat 8))))) = _
 rw [if_neg (by omega), Int.toNat_natCast, Nat.min_eq_left h, Int.fdiv_eq_ediv_of_nonneg _ (Int.le_of_lt (Int.pow_pos (by decide)))]
 norm_cast
abbrev hoFn (b : Bs) : D := .fn 159 [.pt [bysD b]]
theorem c_holes (b : Bs) : Contract Tryz.prog 126 [.leaf (.d (bysD b))] (.leaf (.d (hoFn b))) [] := by
 refine con_of follows_mixed Tryz.func126 rfl (by simp only [List.length_cons, List.length_nil, Tryz.ntmps126]; omega) V169 rfl ?_
 refine Exec.reg ?_
 iterate 2 (refine Run.o ?_)
 refine Run.nil (Exec.reg ?_)
 refine Run.frz 1 V162 ?_
 iterate 2 (refine Run.o ?_)
 refine Run.frz 3 V162 ?_
 refine Run.nil ?_
 exact Ends.fin [] (rs := [.tmp 2]) rfl V162 V137
theorem c_holes_1 (b : Bs) (hb : b.length ≤ 1000000) : Con Tryz.prog 159 [.leaf (.obj 900), .leaf (.d (.pt [bysD b]))] [(900, .yl)] (lB (bitV (unp b))) := by
 have hbl := byD_len b
 have hul := unp_len b
 refine con_of follows_mixed Tryz.func159 rfl (by simp only [List.length_cons, List.length_nil, Tryz.ntmps159]; omega) V169 rfl ?_
 refine Exec.reg ?_
 have X := Fx.mk hbl
 iterate 3 (refine Run.o1 V158 ?_)
 refine Run.nil (Exec.blk1 ?_)
 refine Exec.forY [0, 6, 7, 8] [900] (b.length) (fun k => [.slot 8 (.int k)]) (fun k => lB ((bitV (unp b)).drop (8 * k))) (fun _ => True) (fun k => by simp only [go_sem] <;> rfl) (by simp only [go_sem, X.h, Int.natCast_zero, Nat.mul_zero, List.drop_zero] <;> rfl) ?_ (fun k hk hX => ?_)
 ·trivial
 ·skip
  refine Exec.reg ?_
  refine Run.o1 V158 ?_
  refine Run.nil ?_
  refine Exec.cndS V158 (fun hb9 => ?_) (fun hb9 => ?_)
  ·skip
   have hlt := lt_of_dec hb9
   obtain ⟨c, hx⟩ := elem_of hb9
   have hxb := byD_get hx
   have hc := c.toNat_lt
   refine Exec.skipS (Exec.blk (Exec.reg ?_))
   have X := X.a hxb
   refine Run.o1 V88 ?_
   iterate 2 (refine Run.o1 V158 ?_)
   refine Run.nil (Exec.reg ?_)
   refine Run.o1 V158 ?_
   refine Run.nil (Exec.blk1 ?_)
   refine Exec.forY [0, 4, 5, 6, 7, 8] [900] (8) (fun j => [.slot 5 (.int (7 - j))]) (fun j => lB ((bitV (unp b)).drop (8 * k + j))) (fun _ => True) (fun j => by simp only [go_sem] <;> rfl) (by simp only [go_sem, X.h, Int.natCast_zero, Int.sub_zero, Nat.add_zero] <;> rfl) ?_ (fun j hj Xj => ?_)
   ·trivial
   ·skip
    refine Exec.assocS (Exec.reg ?_)
    iterate 2 (refine Run.o1 V158 ?_)
    refine Run.nil ?_
    refine Exec.cndS V158 (fun hb13 => ?_) (fun hb13 => ?_)
    ·skip
     have hj8 : j < 8 := by have := of_decide_eq_true hb13; omega
     have hsh := shr8 c.toNat (7 - (j : Int)) (i := 7 - j) (by omega) (by omega)
     have hle : c.toNat / 2 ^ (7 - j) ≤ c.toNat := Nat.div_le_self _ _
     have han := and_one8 (x := c.toNat / 2 ^ (7 - j)) (by omega)
     have htb : ((c.toNat / 2 ^ (7 - j) % 2 : Nat) : Int) = (((c.toNat / 2 ^ (7 - j) % 2 == 1).toNat : Nat) : Int) := by rw [toNat_beq]
     have hdr := bitV_drop (unp_get b k j c hx hj8)
     refine Exec.skipS (Exec.blk (Exec.reg ?_))
     have X := (X.a hsh).a han
     iterate 5 (refine Run.o1 V158 ?_)
     refine Run.o1 V67 ?_
     have X := Fx.mk htb
     refine Run.yld (args := [.int ((c.toNat / 2 ^ (7 - j) % 2 == 1).toNat : Nat)]) V162 V162 V158 (by exact ⟨WkP.refl rfl, trivial⟩) (by simp only [hdr, lB_cons] <;> rfl) (fun t => ?_)
     have X := (((Fx.mk hbl).a hxb).a hsh).a han
     refine Run.o1 V158 ?_
     refine Run.nil ?_
     refine Exec.cnd V158 (fun hb23 => ?_) (fun hb23 => ?_)
     ·skip
      have ht : t = false := by cases t <;> simp_all
      subst ht
      refine BlkK.ret (ForK.ret (Blk1K.ret (BlkK.ret (ForK.ret (Blk1K.ret ?_)))))
      exact Ends.fin [] (rs := []) rfl (by simp only [go_sem, X.h, cond_false] <;> rfl) (by simp only [go_sem, X.h, cond_false] <;> first | rfl | exact eqz)
     ·skip
      have ht : t = true := by cases t <;> simp_all
      subst ht
      refine BlkK.nrm (Exec.reg1 ?_)
      refine Run.o1 (by simp only [go_sem, X.h, cond_true] <;> rfl) ?_
      refine Run.o1 (by simp only [go_sem, X.h, cond_true]; (try simp (disch := omega) only [IntWalk.i64_in, IntWalk.u64_in, IntWalk.i32_in, IntWalk.u8_in, if_neg, if_pos])<;> rfl) ?_
      refine Run.o1 (by simp only [go_sem, X.h, cond_true] <;> rfl) ?_
      refine Run.nil ?_
      refine ForK.nxt ?_ ?_ ?_
      ·omega
      ·exact Ghost.kp [0, 4, 5, 6, 7, 8] [900] (by simp only [go_sem, X.h, cond_true] <;> first | exact eqz | rfl)
      ·trivial
    ·skip
     have hj8 : j = 8 := by have := of_decide_eq_false hb13; omega
     subst hj8
     refine Exec.exitS (ForK.ext (Blk1K.hit (BlkK.nrm (Exec.reg1 ?_))))
     refine Run.o1 V67 ?_
     refine Run.o1 V158 ?_
     refine Run.nil ?_
     refine ForK.nxt ?_ ?_ ?_
     ·omega
     ·exact Ghost.kp [0, 6, 7, 8] [900] V130
     ·trivial
  ·skip
   have hke := ge_of_dec hb9
   have hdn : (bitV (unp b)).drop (8 * k) = [] := List.drop_eq_nil_of_le (by rw [bitV_len, hul]; omega)
   refine Exec.exitS (ForK.ext (Blk1K.hit ?_))
   have X := X.a hdn
   exact Ends.fin0 [] (rs := []) rfl (by simp only [go_sem, X.h, lB] <;> rfl) (by simp only [go_sem, X.h, lB] <;> first | rfl | exact eqz)
theorem c_newFeeler (b : Bs) (hb : b.length ≤ 1000000) : Con Tryz.prog 73 [.leaf (.d (bysD b))] [] (.ret (.leaf (.ptr 6 0)) [(6, .cells [.d (intsD (biI (unp b))), .d (.i 0)])]) := by
 have hul := unp_len b
 have hil := biI_len (unp b)
 have hvl := bitV_len (unp b)
 refine con_of follows_mixed Tryz.func73 rfl (by simp only [List.length_cons, List.length_nil, Tryz.ntmps73]; omega) V169 rfl ?_
 refine Exec.reg ?_
 refine Run.o ?_
 refine Run.nil (Exec.reg ?_)
 iterate 4 (refine Run.o ?_)
 refine Run.nil (Exec.assocS (Exec.reg ?_))
 refine Run.nilC 6 0 1000 3 1 V162 V162 V162 (by omega) (by omega) V162 ?_
 refine Run.o ?_
 refine Run.c1 (c_holes b) V162 V162 ?_
 refine Run.nil (Exec.blk ?_)
 refine Exec.rangeL 159 [.pt [bysD b]] 900 (bitV (unp b)) [3, 8] [3, 6, 1000] (fun k => [.obj 6 (.cells [.own 1000 0 k k, .d (.i 0)]), .obj 1000 (.arr 3 1 (((biI (unp b)).take k).map encInt))]) (fun _ => True) (fun k => by simp only [go_sem] <;> rfl) V99 (fun _ => by rfl) (fun _ => by rfl) rfl V162 V164 (c_holes_1 b hb) V166 ?_ (fun k v hv hX => ?_) (fun hX => ?_)
 ·trivial
 ·skip
  obtain ⟨n, hn, rfl⟩ := bitV_get hv
  have hkl := (List.getElem?_eq_some_iff.1 hn).1
  have htl : ((biI (unp b)).take k).length = k := by rw [List.length_take]; omega
  have hts : (biI (unp b)).take (k + 1) = (biI (unp b)).take k ++ [((n.toNat : Nat) : Int)] := by
   refine take_snoc ?_
   unfold biI
   rw [List.getElem?_map, hn]; rfl
  refine ⟨rfl, ?_⟩
  refine Exec.reg1 ?_
  have X := Fx.mk htl
  refine Run.o1 V158 ?_
  refine Run.nil ?_
  refine ⟨rfl, ?_⟩
  refine Exec.blk1 ?_
  refine Exec.opk1 13 ?_
  iterate 7 (refine OpenK.o1 V158 ?_)
  refine OpenK.o1 V7 ?_
  iterate 3 (refine OpenK.o1 V158 ?_)
  refine OpenK.nil (OpenE.fin V166 V166 ?_)
  refine Blk1K.nrm ?_
  refine RngK.nrm ?_ ?_
  ·exact Ghost.kl [3, 6, 1000] (by simp only [go_sem, X.h] <;> first | ((repeat' (first | with_reducible_and_instances rfl | refine st_eq ?_ ?_ ?_ | refine ret_eq ?_ | refine tup_eq ?_ | refine tm_eq ?_ ?_ | refine arr_eq ?_ | refine cells_eq ?_ | refine val_eq ?_ | refine ls_eq ?_ ?_ | refine own_eq ?_ ?_ | refine sl_eq ?_ | refine b_eq ?_ | (refine i_eq ?_; omega))); (all_goals (first | omega | (rw [hts]; simp [encInt]; done)))) | rfl)
  ·trivial
 ·skip
  rw [bitV_len] at *
  have htk : (biI (unp b)).take (unp b).length = biI (unp b) := List.take_of_length_le (by omega)
  have hta : List.take (unp b).length (List.map encInt (biI (unp b))) = List.map encInt (biI (unp b)) := List.take_of_length_le (by simp [hil])
  refine BlkK.nrm (Exec.reg ?_)
  have X := ((Fx.mk htk).a hta).a hil
  refine Run.frz 1000 V158 ?_
  iterate 2 (refine Run.o1 (by simp only [go_sem, bitV_len] <;> rfl) ?_)
  refine Run.nil ?_
  exact Ends.fin [6] (rs := [.tmp 2]) rfl (by simp only [go_sem, bitV_len] <;> rfl) (by simp only [go_sem, bitV_len] <;> first | rfl | exact eqz)
end Go.Mw
namespace Go.Mw
open Go.Proofs
open Go.Bk
attribute [-go_sem] binInt
attribute [local go_sem] bI_add bI_sub bI_mul bI_rem bI_eql bI_neq bI_lss bI_leq bI_gtr bI_geq
theorem biI_cons (b : Bool) (s : Bits) : biI (b :: s) = (b.toNat : Int) :: biI s := rfl
theorem biI_nil : biI [] = [] := rfl
theorem c_fbit (b : Bool) (r : Bits) (o : Int) (ho : 0 ≤ o ∧ o ≤ 1000000000) : Con Tryz.prog 76 [.leaf (.ptr 911 0)] [(911, .cells [.d (intsD (biI (b :: r))), .d (.i o)])] (.ret (.int (b.toNat : Nat)) [(911, .cells [.d (intsD (biI r)), .d (.i (o + (b.toNat : Nat)))])]) := by
 have hb1 : b.toNat ≤ 1 := by cases b <;> decide
 have hgt : decide (((r.length + 1 : Nat) : Int) > 0) = true := decide_eq_true (by omega)
 have hgt2 : decide ((r.length : Int) + 1 > 0) = true := decide_eq_true (by omega)
 have hil := biI_len r
 rw [biI_cons]
 refine con_of follows_mixed Tryz.func76 rfl (by simp only [List.length_cons, List.length_nil, Tryz.ntmps76]; omega) V169 rfl ?_
 refine Exec.reg ?_
 have X := ((Fx.mk hil).a hgt).a hgt2
 refine Run.o1 V51 ?_
 refine Run.nil (Exec.reg ?_)
 iterate 6 (refine Run.o1 V51 ?_)
 refine Run.c1 (c_need true rfl) V51 V51 ?_
 refine Run.nil (Exec.reg ?_)
 iterate 4 (refine Run.o1 V51 ?_)
 refine Run.o1 V20 ?_
 iterate 2 (refine Run.o1 V51 ?_)
 refine Run.nil (Exec.reg ?_)
 iterate 5 (refine Run.o1 V51 ?_)
 refine Run.o1 V20 ?_
 iterate 3 (refine Run.o1 V51 ?_)
 refine Run.nil (Exec.reg ?_)
 iterate 5 (refine Run.o1 V51 ?_)
 refine Run.o1 (by simp only [go_sem, X.h, List.map_cons, List.length_cons, List.length_map, List.getElem?_cons_zero, List.drop_succ_cons, List.drop_zero, Int.natCast_add, Int.natCast_one]; (try simp (disch := omega) only [IntWalk.i64_in, IntWalk.u64_in, IntWalk.i32_in, IntWalk.u8_in, if_neg, if_pos])<;> rfl) ?_
 iterate 3 (refine Run.o1 V51 ?_)
 refine Run.nil (Exec.reg ?_)
 iterate 2 (refine Run.o1 V51 ?_)
 refine Run.nil ?_
 exact Ends.fin [911] (rs := [.tmp 2]) rfl V51 (by simp only [go_sem, X.h, List.map_cons, List.length_cons, List.length_map, List.getElem?_cons_zero, List.drop_succ_cons, List.drop_zero, Int.natCast_add, Int.natCast_one] <;> first | rfl | exact eqz)
theorem p_fbit (o : Int) : Pan Tryz.prog pvE 76 [.leaf (.ptr 911 0)] [(911, .cells [.d (intsD (biI [])), .d (.i o)])] := by
 rw [biI_nil]
 refine pan_of follows_mixed Tryz.func76 rfl (by simp only [List.length_cons, List.length_nil, Tryz.ntmps76]; omega) V169 rfl ?_
 refine Exec.reg ?_
 refine Run.o1 V125 ?_
 refine Run.nil ?_
 refine Exec.pan (pv := pvE) 6 rfl ?_
 iterate 6 (refine Run.o1 V125 ?_)
 exact Run.panc (p_need false rfl) V164 V125 V74 rfl
theorem take_bit {s : Bits} {k : Nat} {b : Bool} (h : s[k]? = some b) : s.take (k + 1) = s.take k ++ [b] := take_snoc h
theorem ones_take (s : Bits) (k : Nat) : ones (s.take k) ≤ k := by
 have := ones_le (s.take k)
 rw [List.length_take] at this; omega
theorem valB_63 {s : Bits} {k n : Nat} (h : s.length = n) (hk : k ≤ n) (hn : n ≤ 62) : valB (s.take k) < 4611686018427387904 := by
 have h1 := valB_lt (s.take k)
 have h2 : 2 ^ (s.take k).length ≤ 2 ^ 62 := Nat.pow_le_pow_right (by omega) V160
 have h3 : (2 : Nat) ^ 62 = 4611686018427387904 := by decide
 omega
theorem valB_nil : valB [] = 0 := rfl
theorem c_fnum (many : Nat) (s r : Bits) (o : Int) (hs : s.length = many) (hm : many ≤ 62) (ho : 0 ≤ o ∧ o ≤ 100000000) : Con Tryz.prog 74 [.leaf (.ptr 911 0), .int many] [(911, .cells [.d (intsD (biI (s ++ r))), .d (.i o)])] (.ret (.int (valB s : Nat)) [(911, .cells [.d (intsD (biI r)), .d (.i (o + ((ones s : Nat) : Int)))])]) := by
 refine con_of follows_mixed Tryz.func74 rfl (by simp only [List.length_cons, List.length_nil, Tryz.ntmps74]; omega) V169 rfl ?_
 refine Exec.reg ?_
 refine Run.o ?_
 refine Run.nil (Exec.assocS (Exec.reg ?_))
 iterate 2 (refine Run.o ?_)
 refine Run.nil (Exec.blk ?_)
 refine Exec.forA [0, 4, 5, 6] [911] (many) (fun k => [.slot 4 (.int (valB (s.take k) : Nat)), .slot 6 (.int k), .obj 911 (.cells [.d (intsD (biI (s.drop k ++ r))), .d (.i (o + ((ones (s.take k) : Nat) : Int)))])]) (fun _ => True) (fun k => by simp only [go_sem] <;> rfl) (by simp only [go_sem, Int.natCast_zero, List.take_zero, List.drop_zero, ones_nil, valB_nil, Int.add_zero] <;> rfl) ?_ (fun k hk hX => ?_)
 ·trivial
 ·skip
  refine Exec.reg ?_
  refine Run.o ?_
  refine Run.nil ?_
  refine Exec.cndS V162 (fun hb7 => ?_) (fun hb7 => ?_)
  ·skip
   have hk : k < many := by have := of_decide_eq_true hb7; omega
   obtain ⟨b, hx⟩ : ∃ b, s[k]? = some b := ⟨_, List.getElem?_eq_getElem (by omega)⟩
   have hdk : s.drop k = b :: s.drop (k + 1) := drop_get hx
   have htk := take_bit hx
   have hov := ones_take s k
   have hon : ones (s.take (k + 1)) = ones (s.take k) + b.toNat := by rw [htk, ones_app, ones_one]
   have hvl : valB (s.take (k + 1)) = 2 * valB (s.take k) + b.toNat := by rw [htk, valB_snoc]
   have hb1 : b.toNat ≤ 1 := by cases b <;> decide
   have hvb := valB_63 hs (by omega) hm (k := k)
   refine Exec.skipS (Exec.blk (Exec.reg1 ?_))
   refine Run.o ?_
   refine Run.o1 V69 ?_
   refine Run.o ?_
   have X := Fx.mk hdk
   refine Run.lendG [(911, 911)] V162 (c_fbit b (s.drop (k + 1) ++ r) (o + ((ones (s.take k) : Nat) : Int)) (by omega)) V164 (.inl ⟨[], by simp only [go_sem] <;> rfl, rfl⟩) V133 V13 rfl (by decide) V46 V50 V44 V83 V133 ?_
   refine Run.o1 V69 ?_
   refine Run.o ?_
   refine Run.nil (BlkK.nrm (Exec.reg1 ?_))
   refine Run.o1 V69 ?_
   refine Run.o ?_
   refine Run.nil ?_
   refine ForK.nxt ?_ ?_ ?_
   ·omega
   ·exact Ghost.kp [0, 4, 5, 6] [911] V17
   ·trivial
  ·skip
   have hke : k = many := by have := of_decide_eq_false hb7; omega
   have htk : s.take k = s := List.take_of_length_le (by omega)
   have hdk : s.drop k = [] := List.drop_eq_nil_of_le (by omega)
   refine Exec.exitS (ForK.ext (BlkK.hit (Exec.reg ?_)))
   have X := (Fx.mk htk).a hdk
   iterate 2 (refine Run.o1 (by simp only [go_sem, X.h, List.nil_append] <;> rfl) ?_)
   refine Run.nil ?_
   exact Ends.fin [911] (rs := [.tmp 4]) rfl (by simp only [go_sem, X.h, List.nil_append] <;> rfl) (by simp only [go_sem, X.h, List.nil_append] <;> first | rfl | exact eqz)
theorem p_fnum (many : Nat) (s : Bits) (o : Int) (hs : s.length < many) (hm : many ≤ 62) (ho : 0 ≤ o ∧ o ≤ 100000000) : Pan Tryz.prog pvE 74 [.leaf (.ptr 911 0), .int many] [(911, .cells [.d (intsD (biI s)), .d (.i o)])] := by
 refine pan_of follows_mixed Tryz.func74 rfl (by simp only [List.length_cons, List.length_nil, Tryz.ntmps74]; omega) V169 rfl ?_
 refine Exec.reg ?_
 refine Run.o ?_
 refine Run.nil (Exec.assocS (Exec.reg ?_))
 iterate 2 (refine Run.o ?_)
 refine Run.nil (Exec.blk ?_)
 refine Exec.forA [0, 4, 5, 6] [911] (s.length) (fun k => [.slot 4 (.int (valB (s.take k) : Nat)), .slot 6 (.int k), .obj 911 (.cells [.d (intsD (biI (s.drop k))), .d (.i (o + ((ones (s.take k) : Nat) : Int)))])]) (fun _ => True) (fun k => by simp only [go_sem] <;> rfl) (by simp only [go_sem, Int.natCast_zero, List.take_zero, List.drop_zero, ones_nil, valB_nil, Int.add_zero] <;> rfl) ?_ (fun k hk hX => ?_)
 ·trivial
 ·skip
  refine Exec.reg ?_
  refine Run.o ?_
  refine Run.nil ?_
  refine Exec.cndS V162 (fun hb7 => ?_) (fun hb7 => ?_)
  ·skip
   have hk : k < many := by have := of_decide_eq_true hb7; omega
   refine Exec.skipS (Exec.blk ?_)
   by_cases hk2 : k < s.length
   ·skip
    obtain ⟨b, hx⟩ : ∃ b, s[k]? = some b := ⟨_, List.getElem?_eq_getElem (by omega)⟩
    have hdk : s.drop k = b :: s.drop (k + 1) := drop_get hx
    have htk := take_bit hx
    have hov := ones_take s k
    have hon : ones (s.take (k + 1)) = ones (s.take k) + b.toNat := by rw [htk, ones_app, ones_one]
    have hvl : valB (s.take (k + 1)) = 2 * valB (s.take k) + b.toNat := by rw [htk, valB_snoc]
    have hb1 : b.toNat ≤ 1 := by cases b <;> decide
    have hvb := valB_63 rfl (by omega) (by omega) (k := k) (s := s)
    refine Exec.reg1 ?_
    refine Run.o ?_
    refine Run.o1 V69 ?_
    refine Run.o ?_
    have X := Fx.mk hdk
    refine Run.lendG [(911, 911)] V162 (c_fbit b (s.drop (k + 1)) (o + ((ones (s.take k) : Nat) : Int)) (by omega)) V164 (.inl ⟨[], by simp only [go_sem] <;> rfl, rfl⟩) V158 V13 rfl (by decide) V46 V56 V44 V83 V158 ?_
    refine Run.o1 V69 ?_
    refine Run.o ?_
    refine Run.nil (BlkK.nrm (Exec.reg1 ?_))
    refine Run.o1 V69 ?_
    refine Run.o ?_
    refine Run.nil ?_
    refine ForK.nxt ?_ ?_ ?_
    ·omega
    ·exact Ghost.kp [0, 4, 5, 6] [911] V17
    ·trivial
   ·skip
    have hke : k = s.length := by omega
    have hdk : s.drop k = [] := List.drop_eq_nil_of_le (by omega)
    refine Exec.pan1 (pv := pvE) 3 rfl ?_
    have X := Fx.mk hdk
    refine Run.o1 V158 ?_
    refine Run.o1 V67 ?_
    refine Run.o1 V158 ?_
    exact Run.pang [(911, 911)] 0 (p_fbit (o + ((ones (s.take k) : Nat) : Int))) V164 V162 V158 V79 (fun q x h => by by_cases e : q = 911 <;> simp [look, e] at h; subst e; subst h; exact ⟨911, _, rfl, by simp only [go_sem, X.h] <;> rfl, OLe.refl _, rfl⟩) V90 rfl
  ·skip
   exact absurd (of_decide_eq_false hb7) (by omega)
end Go.Mw
namespace Go.Mw
open Go.Proofs
open Go.Bk
attribute [-go_sem] binInt
attribute [local go_sem] bI_add bI_sub bI_mul bI_rem bI_eql bI_neq bI_lss bI_leq bI_gtr bI_geq
theorem bI_shl1z {z : Nat} (h : z ≤ 16) : binInt .shl .i64 1 (z : Int) = some (.int .i64 ((2 ^ z : Nat) : Int)) := by
 show (if (z : Int) < 0 then none else some (Value.int .i64 (IntKind.i64.wrap (1 * 2 ^ (min (z : Int).toNat 64))))) = _
 have h2 : 2 ^ z ≤ 2 ^ 16 := Nat.pow_le_pow_right (by omega) h
 rw [if_neg (by omega), Int.toNat_natCast, Nat.min_eq_left (by omega), Int.one_mul, IntWalk.i64_in]
 ·norm_cast
 ·have : ((2 : Int) ^ z) = ((2 ^ z : Nat) : Int) := by norm_cast
  rw [this]
  generalize 2 ^ z = q at h2
  omega
theorem bI_orz {z v : Nat} (h : z ≤ 16) (hv : v < 2 ^ z) : binInt .or .i64 ((2 ^ z : Nat) : Int) (v : Int) = some (.int .i64 ((2 ^ z + v : Nat) : Int)) := by
 have h2 : 2 ^ z ≤ 2 ^ 16 := Nat.pow_le_pow_right (by omega) h
 have e : (BitVec.ofInt 64 ((2 ^ z : Nat) : Int) ||| BitVec.ofInt 64 (v : Int)).toNat = 2 ^ z + v := by
  rw [BitVec.toNat_or]
  have h1 : (BitVec.ofInt 64 ((2 ^ z : Nat) : Int)).toNat = 2 ^ z := by rw [BitVec.toNat_ofInt]; omega
  have h3 : (BitVec.ofInt 64 (v : Int)).toNat = v := by rw [BitVec.toNat_ofInt]; omega
  have h4 := Nat.two_pow_add_eq_or_of_lt hv 1
  rw [Nat.mul_one] at h4
  rw [h1, h3, h4]
 have e2 : IntKind.i64.wrap ((BitVec.ofInt 64 ((2 ^ z : Nat) : Int) ||| BitVec.ofInt 64 (v : Int)).toNat : Int) = ((2 ^ z + v : Nat) : Int) := by
  rw [e, IntKind.wrap_i64]; omega
 exact congrArg (fun z => some (Value.int .i64 z)) e2
theorem rep_step {z k : Nat} (h : k < z) : List.replicate (z - k) false = false :: List.replicate (z - (k + 1)) false := by
 rw [show z - k = (z - (k + 1)) + 1 by omega, List.replicate_succ]
theorem c_fgam (z : Nat) (a r : Bits) (o : Int) (hz : z ≤ 16) (ha : a.length = z) (ho : 0 ≤ o ∧ o ≤ 90000000) : Con Tryz.prog 127 [.leaf (.ptr 911 0)] [(911, .cells [.d (intsD (biI (List.replicate z false ++ true :: (a ++ r)))), .d (.i o)])] (.ret (.int ((2 ^ z + valB a : Nat) : Int)) [(911, .cells [.d (intsD (biI r)), .d (.i (o + 1 + ((ones a : Nat) : Int)))])]) := by
 have h10 : ((1 : Int) == 0) = false := rfl
 have h00 : ((0 : Int) == 0) = true := rfl
 have hva := valB_lt a
 rw [ha] at hva
 have hs1 := bI_shl1z hz
 have hs2 := bI_orz hz hva
 refine con_of follows_mixed Tryz.func127 rfl V104 V169 rfl ?_
 refine Exec.reg ?_
 have X := (((Fx.mk h00).a h10).a hs1).a hs2
 refine Run.o1 V84 ?_
 refine Run.nil (Exec.reg ?_)
 refine Run.o1 V84 ?_
 refine Run.nil (Exec.blk ?_)
 refine Exec.forA [0, 3] [911] (z) (fun k => [.slot 3 (.int k), .obj 911 (.cells [.d (intsD (biI (List.replicate (z - k) false ++ true :: (a ++ r)))), .d (.i o)])]) (fun _ => True) (fun k => by simp only [go_sem] <;> rfl) V65 ?_ (fun k hk hX => ?_)
 ·trivial
 ·skip
  refine Exec.assocS ?_
  by_cases hk2 : k < z
  ·skip
   have hrs := rep_step hk2
   have hle : decide ((k : Int) + 1 ≤ 16) = true := decide_eq_true (by omega)
   refine Exec.reg ?_
   have X := X.a hle
   refine Run.o1 V84 ?_
   have X := Fx.mk hrs
   refine Run.lendG [(911, 911)] V162 (c_fbit false (List.replicate (z - (k + 1)) false ++ true :: (a ++ r)) o (by omega)) V164 (.inl ⟨[], by simp only [go_sem] <;> rfl, rfl⟩) V133 V13 rfl (by decide) V46 V50 V44 V83 V133 ?_
   have X := ((((Fx.mk h00).a h10).a hs1).a hs2).a hle
   refine Run.o1 V84 ?_
   refine Run.nil ?_
   refine Exec.cndS V84 (fun hb6 => ?_) (fun hb6 => ?_)
   ·skip
    refine Exec.skipS (Exec.blk1 (Exec.reg ?_))
    refine Run.o1 V84 ?_
    refine Run.o1 V33 ?_
    refine Run.o1 V84 ?_
    refine Run.nil (Exec.reg1 ?_)
    iterate 2 (refine Run.o1 V84 ?_)
    refine Run.c1 (c_need true rfl) V84 V84 ?_
    refine Run.nil (Blk1K.nrm ?_)
    refine ForK.nxt ?_ ?_ ?_
    ·omega
    ·exact Ghost.kp [0, 3] [911] V72
    ·trivial
   ·exact absurd hb6 (by simp)
  ·skip
   have hke : k = z := by omega
   refine Exec.reg ?_
   have X := X.a hke
   refine Run.o1 V84 ?_
   have X := Fx.mk hke
   refine Run.lendG [(911, 911)] V162 (c_fbit true (a ++ r) o (by omega)) V164 (.inl ⟨[], by simp only [go_sem] <;> rfl, rfl⟩) V93 V13 rfl (by decide) V46 V38 V44 V83 V93 ?_
   have X := ((((Fx.mk h00).a h10).a hs1).a hs2).a hke
   refine Run.o1 V84 ?_
   refine Run.nil ?_
   refine Exec.cndS V84 (fun hb6 => ?_) (fun hb6 => ?_)
   ·exact absurd hb6 (by simp)
   ·skip
    refine Exec.exitS (ForK.ext (BlkK.hit ?_))
    refine Exec.opk 9 ?_
    iterate 4 (refine OpenK.o1 V84 ?_)
    refine OpenK.lendG (ds := []) [(911, 911)] V162 (c_fnum z a r (o + 1) ha (by omega) (by omega)) V164 V162 V162 V27 rfl (by decide) V148 V60 (by intro p hp; simp only [List.mem_cons, List.not_mem_nil, or_false] at hp; rcases hp with rfl <;> (first | exact ⟨_, rfl, back_refl _⟩ | exact ⟨_, rfl, _, rfl, by simp [byD]⟩ | exact ⟨_, rfl, _, rfl⟩)) rfl V162 V162 V162 ?_
    iterate 2 (refine OpenK.o1 V84 ?_)
    refine OpenK.nil (OpenE.fin V166 V166 ?_)
    exact Ends.fin [911] (rs := [.tmp 2]) rfl V84 (by simp only [go_sem, X.h, Bool.toNat_false, Bool.toNat_true, Int.natCast_zero, Int.natCast_one, Int.add_zero] <;> first | rfl | exact eqz)
theorem p_fgamA (z : Nat) (o : Int) (hz : z ≤ 16) (ho : 0 ≤ o ∧ o ≤ 90000000) : Pan Tryz.prog pvE 127 [.leaf (.ptr 911 0)] [(911, .cells [.d (intsD (biI (List.replicate z false))), .d (.i o)])] := by
 have h10 : ((1 : Int) == 0) = false := rfl
 have h00 : ((0 : Int) == 0) = true := rfl
 refine pan_of follows_mixed Tryz.func127 rfl V104 V169 rfl ?_
 refine Exec.reg ?_
 have X := (Fx.mk h00).a h10
 refine Run.o1 V84 ?_
 refine Run.nil (Exec.reg ?_)
 refine Run.o1 V84 ?_
 refine Run.nil (Exec.blk ?_)
 refine Exec.forA [0, 3] [911] (z) (fun k => [.slot 3 (.int k), .obj 911 (.cells [.d (intsD (biI (List.replicate (z - k) false))), .d (.i o)])]) (fun _ => True) (fun k => by simp only [go_sem] <;> rfl) V65 ?_ (fun k hk hX => ?_)
 ·trivial
 ·skip
  refine Exec.assocS ?_
  by_cases hk2 : k < z
  ·skip
   have hrs := rep_step hk2
   have hle : decide ((k : Int) + 1 ≤ 16) = true := decide_eq_true (by omega)
   refine Exec.reg ?_
   have X := X.a hle
   refine Run.o1 V84 ?_
   have X := Fx.mk hrs
   refine Run.lendG [(911, 911)] V162 (c_fbit false (List.replicate (z - (k + 1)) false) o (by omega)) V164 (.inl ⟨[], by simp only [go_sem] <;> rfl, rfl⟩) V158 V13 rfl (by decide) V46 V56 V44 V83 V158 ?_
   have X := ((Fx.mk h00).a h10).a hle
   refine Run.o1 V84 ?_
   refine Run.nil ?_
   refine Exec.cndS V84 (fun hb6 => ?_) (fun hb6 => ?_)
   ·skip
    refine Exec.skipS (Exec.blk1 (Exec.reg ?_))
    refine Run.o1 V84 ?_
    refine Run.o1 V33 ?_
    refine Run.o1 V84 ?_
    refine Run.nil (Exec.reg1 ?_)
    iterate 2 (refine Run.o1 V84 ?_)
    refine Run.c1 (c_need true rfl) V84 V84 ?_
    refine Run.nil (Blk1K.nrm ?_)
    refine ForK.nxt ?_ ?_ ?_
    ·omega
    ·exact Ghost.kp [0, 3] [911] V72
    ·trivial
   ·exact absurd hb6 (by simp)
  ·skip
   have hke : k = z := by omega
   refine Exec.pan (pv := pvE) 1 rfl ?_
   have X := X.a hke
   refine Run.o1 V84 ?_
   have X := Fx.mk hke
   exact Run.pang [(911, 911)] 0 (p_fbit o) V164 V162 (by simp only [go_sem, X.h, Nat.sub_self, List.replicate_zero] <;> rfl) V79 (fun q x h => by by_cases e : q = 911 <;> simp [look, e] at h; subst e; subst h; exact ⟨911, _, rfl, by simp only [go_sem, X.h, Nat.sub_self, List.replicate_zero] <;> rfl, OLe.refl _, rfl⟩) V90 rfl
theorem p_fgamB (r : Bits) (o : Int) (ho : 0 ≤ o ∧ o ≤ 90000000) : Pan Tryz.prog pvE 127 [.leaf (.ptr 911 0)] [(911, .cells [.d (intsD (biI (List.replicate 17 false ++ r))), .d (.i o)])] := by
 obtain ⟨z, hz⟩ : ∃ z, z = 17 := ⟨_, rfl⟩
 rw [← hz]
 have h10 : ((1 : Int) == 0) = false := rfl
 have h00 : ((0 : Int) == 0) = true := rfl
 refine pan_of follows_mixed Tryz.func127 rfl V104 V169 rfl ?_
 refine Exec.reg ?_
 have X := (Fx.mk h00).a h10
 refine Run.o1 V84 ?_
 refine Run.nil (Exec.reg ?_)
 refine Run.o1 V84 ?_
 refine Run.nil (Exec.blk ?_)
 refine Exec.forA [0, 3] [911] (16) (fun k => [.slot 3 (.int k), .obj 911 (.cells [.d (intsD (biI (List.replicate (z - k) false ++ r))), .d (.i o)])]) (fun _ => True) (fun k => by simp only [go_sem] <;> rfl) V65 ?_ (fun k hk hX => ?_)
 ·trivial
 ·skip
  refine Exec.assocS ?_
  by_cases hk2 : k < 16
  ·skip
   have hk3 : k < z := by omega
   have hrs := rep_step hk3
   have hle : decide ((k : Int) + 1 ≤ 16) = true := decide_eq_true (by omega)
   refine Exec.reg ?_
   have X := X.a hle
   refine Run.o1 V84 ?_
   have X := Fx.mk hrs
   refine Run.lendG [(911, 911)] V162 (c_fbit false (List.replicate (z - (k + 1)) false ++ r) o (by omega)) V164 (.inl ⟨[], by simp only [go_sem] <;> rfl, rfl⟩) V133 V13 rfl (by decide) V46 V50 V44 V83 V133 ?_
   have X := ((Fx.mk h00).a h10).a hle
   refine Run.o1 V84 ?_
   refine Run.nil ?_
   refine Exec.cndS V84 (fun hb6 => ?_) (fun hb6 => ?_)
   ·skip
    refine Exec.skipS (Exec.blk1 (Exec.reg ?_))
    refine Run.o1 V84 ?_
    refine Run.o1 V33 ?_
    refine Run.o1 V84 ?_
    refine Run.nil (Exec.reg1 ?_)
    iterate 2 (refine Run.o1 V84 ?_)
    refine Run.c1 (c_need true rfl) V84 V84 ?_
    refine Run.nil (Blk1K.nrm ?_)
    refine ForK.nxt ?_ ?_ ?_
    ·omega
    ·exact Ghost.kp [0, 3] [911] V72
    ·trivial
   ·exact absurd hb6 (by simp)
  ·skip
   have hk3 : k < z := by omega
   have hrs := rep_step hk3
   have hle : decide ((k : Int) + 1 ≤ 16) = false := decide_eq_false (by omega)
   refine Exec.reg ?_
   have X := X.a hle
   refine Run.o1 V84 ?_
   have X := Fx.mk hrs
   refine Run.lendG [(911, 911)] V162 (c_fbit false (List.replicate (z - (k + 1)) false ++ r) o (by omega)) V164 (.inl ⟨[], by simp only [go_sem] <;> rfl, rfl⟩) V133 V13 rfl (by decide) V46 V50 V44 V83 V133 ?_
   have X := ((Fx.mk h00).a h10).a hle
   refine Run.o1 V84 ?_
   refine Run.nil ?_
   refine Exec.cndS V84 (fun hb6 => ?_) (fun hb6 => ?_)
   ·skip
    refine Exec.skipS (Exec.blk1 (Exec.reg ?_))
    refine Run.o1 V84 ?_
    refine Run.o1 V33 ?_
    refine Run.o1 V84 ?_
    refine Run.nil ?_
    refine Exec.pan1 (pv := pvE) 2 rfl ?_
    iterate 2 (refine Run.o1 V84 ?_)
    exact Run.panc (p_need false rfl) V164 V84 V74 rfl
   ·exact absurd hb6 (by simp)
theorem p_fgamC (z : Nat) (a : Bits) (o : Int) (hz : z ≤ 16) (ha : a.length < z) (ho : 0 ≤ o ∧ o ≤ 90000000) : Pan Tryz.prog pvE 127 [.leaf (.ptr 911 0)] [(911, .cells [.d (intsD (biI (List.replicate z false ++ true :: a))), .d (.i o)])] := by
 have h10 : ((1 : Int) == 0) = false := rfl
 have h00 : ((0 : Int) == 0) = true := rfl
 have hs1 := bI_shl1z hz
 refine pan_of follows_mixed Tryz.func127 rfl V104 V169 rfl ?_
 refine Exec.reg ?_
 have X := ((Fx.mk h00).a h10).a hs1
 refine Run.o1 V84 ?_
 refine Run.nil (Exec.reg ?_)
 refine Run.o1 V84 ?_
 refine Run.nil (Exec.blk ?_)
 refine Exec.forA [0, 3] [911] (z) (fun k => [.slot 3 (.int k), .obj 911 (.cells [.d (intsD (biI (List.replicate (z - k) false ++ true :: a))), .d (.i o)])]) (fun _ => True) (fun k => by simp only [go_sem] <;> rfl) V65 ?_ (fun k hk hX => ?_)
 ·trivial
 ·skip
  refine Exec.assocS ?_
  by_cases hk2 : k < z
  ·skip
   have hrs := rep_step hk2
   have hle : decide ((k : Int) + 1 ≤ 16) = true := decide_eq_true (by omega)
   refine Exec.reg ?_
   have X := X.a hle
   refine Run.o1 V84 ?_
   have X := Fx.mk hrs
   refine Run.lendG [(911, 911)] V162 (c_fbit false (List.replicate (z - (k + 1)) false ++ true :: a) o (by omega)) V164 (.inl ⟨[], by simp only [go_sem] <;> rfl, rfl⟩) V133 V13 rfl (by decide) V46 V50 V44 V83 V133 ?_
   have X := (((Fx.mk h00).a h10).a hs1).a hle
   refine Run.o1 V84 ?_
   refine Run.nil ?_
   refine Exec.cndS V84 (fun hb6 => ?_) (fun hb6 => ?_)
   ·skip
    refine Exec.skipS (Exec.blk1 (Exec.reg ?_))
    refine Run.o1 V84 ?_
    refine Run.o1 V33 ?_
    refine Run.o1 V84 ?_
    refine Run.nil (Exec.reg1 ?_)
    iterate 2 (refine Run.o1 V84 ?_)
    refine Run.c1 (c_need true rfl) V84 V84 ?_
    refine Run.nil (Blk1K.nrm ?_)
    refine ForK.nxt ?_ ?_ ?_
    ·omega
    ·exact Ghost.kp [0, 3] [911] V72
    ·trivial
   ·exact absurd hb6 (by simp)
  ·skip
   have hke : k = z := by omega
   refine Exec.reg ?_
   have X := X.a hke
   refine Run.o1 V84 ?_
   have X := Fx.mk hke
   refine Run.lendG [(911, 911)] V162 (c_fbit true a o (by omega)) V164 (.inl ⟨[], by simp only [go_sem] <;> rfl, rfl⟩) V93 V13 rfl (by decide) V46 V38 V44 V83 V93 ?_
   have X := (((Fx.mk h00).a h10).a hs1).a hke
   refine Run.o1 V84 ?_
   refine Run.nil ?_
   refine Exec.cndS V84 (fun hb6 => ?_) (fun hb6 => ?_)
   ·exact absurd hb6 (by simp)
   ·skip
    refine Exec.exitS (ForK.ext (BlkK.hit ?_))
    refine Exec.opp (pv := pvE) 9 4 [0, 1, 2, 3] rfl V166 ?_
    iterate 4 (refine OpenK.o1 V84 ?_)
    exact OpenK.pang [(911, 911)] 0 (p_fnum z a (o + 1) ha (by omega) (by omega)) V164 V162 V162 V34 (fun q x h => by by_cases e : q = 911 <;> simp [look, e] at h; subst e; subst h; exact ⟨911, _, rfl, by simp only [go_sem] <;> rfl, OLe.refl _, rfl⟩) V90 V166 V166 rfl
end Go.Mw
namespace Go.Mw
open Go.Proofs
open Go.Bk
attribute [-go_sem] binInt
attribute [local go_sem] bI_add bI_sub bI_mul bI_rem bI_eql bI_neq bI_lss bI_leq bI_gtr bI_geq
theorem ones_c {s : Bits} {n : Nat} (h : s.length = n) : ones s ≤ n := h ▸ ones_le s
theorem valB_c {s : Bits} {n m : Nat} (h : s.length = n) (hm : 2 ^ n = m) : valB s < m := by
 have := valB_lt s
 rw [h, hm] at this; exact this
theorem c_fplate (z : Nat) (a c d r : Bits) (e : Bool) (last o : Int) (hz : z ≤ 16) (ha : a.length = z) (hc : c.length = 3) (hd : d.length = 18) (hl : 0 ≤ last ∧ last ≤ 90000000) (hp : (1 + ones a + ones c + ones d + e.toNat) % 2 = 0) : Con Tryz.prog 75 [.leaf (.ptr 911 0), .int last] [(911, .cells [.d (intsD (biI (List.replicate z false ++ true :: (a ++ (c ++ (d ++ (e :: r))))))), .d (.i o)])] (.ret (.val true [.d (.i (last + ((2 ^ z + valB a : Nat) : Int))), .d (.i (valB c : Nat)), .d (.i (valB d : Nat))]) [(911, .cells [.d (intsD (biI r)), .d (.i (((1 + ones a + ones c + ones d + e.toNat) : Nat) : Int))])]) := by
 have h1 := ones_c ha
 have h2 := ones_c hc
 have h3 := ones_c hd
 have hb1 : e.toNat ≤ 1 := by cases e <;> decide
 have v1 := valB_lt a
 rw [ha] at v1
 have hpz : 2 ^ z ≤ 2 ^ 16 := Nat.pow_le_pow_right (by omega) hz
 have v2 := valB_c hc (m := 8) (by decide)
 have v3 := valB_c hd (m := 262144) (by decide)
 have hpz2 : 2 ^ z + valB a ≤ 131072 := by omega
 generalize hq : 2 ^ z + valB a = q at hpz2
 have hgam := c_fgam z a (c ++ (d ++ (e :: r))) 0 hz ha (by omega)
 rw [hq] at hgam
 have hto : ((0 + 1 + ((ones a : Nat) : Int) + ((ones c : Nat) : Int) + ((ones d : Nat) : Int) + ((e.toNat : Nat) : Int)) : Int) = ((((1 + ones a + ones c + ones d + e.toNat)) : Nat) : Int) := by omega
 have htm : (((((1 + ones a + ones c + ones d + e.toNat)) : Nat) : Int)).tmod 2 = ((((1 + ones a + ones c + ones d + e.toNat)) % 2 : Nat) : Int) := by rw [Int.tmod_eq_emod_of_nonneg (by omega)]; omega
 have hev : (((((1 + ones a + ones c + ones d + e.toNat)) : Nat) : Int).tmod 2 == 0) = true := by rw [htm, hp]; rfl
 refine con_of follows_mixed Tryz.func75 rfl V107 V169 rfl ?_
 refine Exec.reg ?_
 have X := (Fx.mk hto).a hev
 refine Run.o1 V158 ?_
 refine Run.nil (Exec.reg ?_)
 iterate 4 (refine Run.o1 V158 ?_)
 refine Run.nil (Exec.reg ?_)
 iterate 2 (refine Run.o1 V158 ?_)
 refine Run.lendG [(911, 911)] V162 (hgam) V164 (.inl ⟨[], by simp only [go_sem] <;> rfl, rfl⟩) V162 V13 rfl (by decide) V46 V60 V44 V83 V162 ?_
 refine Run.o1 V67 ?_
 refine Run.o1 V158 ?_
 refine Run.lendG [(911, 911)] V162 (c_fnum 3 c (d ++ (e :: r)) (0 + 1 + ((ones a : Nat) : Int)) hc (by omega) (by omega)) V164 (.inl ⟨[], by simp only [go_sem] <;> rfl, rfl⟩) V162 V8 rfl (by decide) V46 V60 V44 V83 V162 ?_
 refine Run.o1 V158 ?_
 refine Run.lendG [(911, 911)] V162 (c_fnum 18 d (e :: r) (0 + 1 + ((ones a : Nat) : Int) + ((ones c : Nat) : Int)) hd (by omega) (by omega)) V164 (.inl ⟨[], by simp only [go_sem] <;> rfl, rfl⟩) V162 V8 rfl (by decide) V46 V60 V44 V83 V162 ?_
 iterate 2 (refine Run.o1 V158 ?_)
 refine Run.nil (Exec.reg ?_)
 refine Run.o1 V158 ?_
 refine Run.lendG [(911, 911)] V162 (c_fbit e r (0 + 1 + ((ones a : Nat) : Int) + ((ones c : Nat) : Int) + ((ones d : Nat) : Int)) (by omega)) V164 (.inl ⟨[], by simp only [go_sem] <;> rfl, rfl⟩) V162 V13 rfl (by decide) V46 V60 V44 V83 V162 ?_
 refine Run.nil (Exec.reg ?_)
 iterate 4 (refine Run.o1 V158 ?_)
 refine Run.o1 V67 ?_
 refine Run.o1 V158 ?_
 refine Run.c1 (c_need true rfl) V158 V158 ?_
 refine Run.nil (Exec.reg ?_)
 iterate 2 (refine Run.o1 V158 ?_)
 refine Run.nil ?_
 exact Ends.fin [911] (rs := [.cell 4 70]) rfl V158 V129
theorem p_fplG (s : Bits) (last o : Int) (hl : 0 ≤ last ∧ last ≤ 90000000) (h : Pan Tryz.prog pvE 127 [.leaf (.ptr 911 0)] [(911, .cells [.d (intsD (biI s)), .d (.i 0)])]) : Pan Tryz.prog pvE 75 [.leaf (.ptr 911 0), .int last] [(911, .cells [.d (intsD (biI s)), .d (.i o)])] := by
 refine pan_of follows_mixed Tryz.func75 rfl V107 V169 rfl ?_
 refine Exec.reg ?_
 refine Run.o ?_
 refine Run.nil (Exec.reg ?_)
 iterate 4 (refine Run.o ?_)
 refine Run.nil ?_
 refine Exec.pan (pv := pvE) 2 rfl ?_
 iterate 2 (refine Run.o ?_)
 exact Run.pang [(911, 911)] 0 (h) V164 V162 V162 V79 (fun q x h => by by_cases e : q = 911 <;> simp [look, e] at h; subst e; subst h; exact ⟨911, _, rfl, by simp only [go_sem] <;> rfl, OLe.refl _, rfl⟩) V90 rfl
theorem p_fplC (z : Nat) (a c : Bits) (last o : Int) (hz : z ≤ 16) (ha : a.length = z) (hc : c.length < 3) (hl : 0 ≤ last ∧ last ≤ 90000000) : Pan Tryz.prog pvE 75 [.leaf (.ptr 911 0), .int last] [(911, .cells [.d (intsD (biI (List.replicate z false ++ true :: (a ++ c)))), .d (.i o)])] := by
 have h1 := ones_c ha
 have v1 := valB_lt a
 rw [ha] at v1
 have hpz : 2 ^ z ≤ 2 ^ 16 := Nat.pow_le_pow_right (by omega) hz
 have hpz2 : 2 ^ z + valB a ≤ 131072 := by omega
 have hgam := c_fgam z a c 0 hz ha (by omega)
 generalize hq : 2 ^ z + valB a = q at hpz2
 rw [hq] at hgam
 refine pan_of follows_mixed Tryz.func75 rfl V107 V169 rfl ?_
 refine Exec.reg ?_
 refine Run.o1 V146 ?_
 refine Run.nil (Exec.reg ?_)
 iterate 4 (refine Run.o1 V146 ?_)
 refine Run.nil ?_
 refine Exec.pan (pv := pvE) 5 rfl ?_
 iterate 2 (refine Run.o1 V146 ?_)
 refine Run.lendG [(911, 911)] V162 (hgam) V164 (.inl ⟨[], by simp only [go_sem] <;> rfl, rfl⟩) V162 V13 rfl (by decide) V46 V60 V44 V83 V162 ?_
 refine Run.o1 V63 ?_
 refine Run.o1 V146 ?_
 exact Run.pang [(911, 911)] 0 (p_fnum 3 c (0 + 1 + ((ones a : Nat) : Int)) hc (by omega) (by omega)) V164 V162 V162 V34 (fun q x h => by by_cases e : q = 911 <;> simp [look, e] at h; subst e; subst h; exact ⟨911, _, rfl, by simp only [go_sem] <;> rfl, OLe.refl _, rfl⟩) V90 rfl
theorem p_fplD (z : Nat) (a c d : Bits) (last o : Int) (hz : z ≤ 16) (ha : a.length = z) (hc : c.length = 3) (hd : d.length < 18) (hl : 0 ≤ last ∧ last ≤ 90000000) : Pan Tryz.prog pvE 75 [.leaf (.ptr 911 0), .int last] [(911, .cells [.d (intsD (biI (List.replicate z false ++ true :: (a ++ (c ++ d))))), .d (.i o)])] := by
 have h1 := ones_c ha
 have v1 := valB_lt a
 rw [ha] at v1
 have hpz : 2 ^ z ≤ 2 ^ 16 := Nat.pow_le_pow_right (by omega) hz
 have hpz2 : 2 ^ z + valB a ≤ 131072 := by omega
 have h2 := ones_c hc
 have v2 := valB_c hc (m := 8) (by decide)
 have hgam := c_fgam z a (c ++ d) 0 hz ha (by omega)
 generalize hq : 2 ^ z + valB a = q at hpz2
 rw [hq] at hgam
 refine pan_of follows_mixed Tryz.func75 rfl V107 V169 rfl ?_
 refine Exec.reg ?_
 refine Run.o1 V146 ?_
 refine Run.nil (Exec.reg ?_)
 iterate 4 (refine Run.o1 V146 ?_)
 refine Run.nil ?_
 refine Exec.pan (pv := pvE) 7 rfl ?_
 iterate 2 (refine Run.o1 V146 ?_)
 refine Run.lendG [(911, 911)] V162 (hgam) V164 (.inl ⟨[], by simp only [go_sem] <;> rfl, rfl⟩) V162 V13 rfl (by decide) V46 V60 V44 V83 V162 ?_
 refine Run.o1 V63 ?_
 refine Run.o1 V146 ?_
 refine Run.lendG [(911, 911)] V162 (c_fnum 3 c d (0 + 1 + ((ones a : Nat) : Int)) hc (by omega) (by omega)) V164 (.inl ⟨[], by simp only [go_sem] <;> rfl, rfl⟩) V162 V8 rfl (by decide) V46 V60 V44 V83 V162 ?_
 refine Run.o1 V146 ?_
 exact Run.pang [(911, 911)] 0 (p_fnum 18 d (0 + 1 + ((ones a : Nat) : Int) + ((ones c : Nat) : Int)) hd (by omega) (by omega)) V164 V162 V162 V34 (fun q x h => by by_cases e : q = 911 <;> simp [look, e] at h; subst e; subst h; exact ⟨911, _, rfl, by simp only [go_sem] <;> rfl, OLe.refl _, rfl⟩) V90 rfl
theorem p_fplE (z : Nat) (a c d : Bits) (last o : Int) (hz : z ≤ 16) (ha : a.length = z) (hc : c.length = 3) (hd : d.length = 18) (hl : 0 ≤ last ∧ last ≤ 90000000) : Pan Tryz.prog pvE 75 [.leaf (.ptr 911 0), .int last] [(911, .cells [.d (intsD (biI (List.replicate z false ++ true :: (a ++ (c ++ (d ++ [])))))), .d (.i o)])] := by
 have h1 := ones_c ha
 have v1 := valB_lt a
 rw [ha] at v1
 have hpz : 2 ^ z ≤ 2 ^ 16 := Nat.pow_le_pow_right (by omega) hz
 have hpz2 : 2 ^ z + valB a ≤ 131072 := by omega
 have h2 := ones_c hc
 have h3 := ones_c hd
 have v2 := valB_c hc (m := 8) (by decide)
 have v3 := valB_c hd (m := 262144) (by decide)
 have hgam := c_fgam z a (c ++ (d ++ [])) 0 hz ha (by omega)
 generalize hq : 2 ^ z + valB a = q at hpz2
 rw [hq] at hgam
 refine pan_of follows_mixed Tryz.func75 rfl V107 V169 rfl ?_
 refine Exec.reg ?_
 refine Run.o1 V146 ?_
 refine Run.nil (Exec.reg ?_)
 iterate 4 (refine Run.o1 V146 ?_)
 refine Run.nil (Exec.reg ?_)
 iterate 2 (refine Run.o1 V146 ?_)
 refine Run.lendG [(911, 911)] V162 (hgam) V164 (.inl ⟨[], by simp only [go_sem] <;> rfl, rfl⟩) V162 V13 rfl (by decide) V46 V60 V44 V83 V162 ?_
 refine Run.o1 V63 ?_
 refine Run.o1 V146 ?_
 refine Run.lendG [(911, 911)] V162 (c_fnum 3 c (d ++ []) (0 + 1 + ((ones a : Nat) : Int)) hc (by omega) (by omega)) V164 (.inl ⟨[], by simp only [go_sem] <;> rfl, rfl⟩) V162 V8 rfl (by decide) V46 V60 V44 V83 V162 ?_
 refine Run.o1 V146 ?_
 refine Run.lendG [(911, 911)] V162 (c_fnum 18 d [] (0 + 1 + ((ones a : Nat) : Int) + ((ones c : Nat) : Int)) hd (by omega) (by omega)) V164 (.inl ⟨[], by simp only [go_sem] <;> rfl, rfl⟩) V162 V8 rfl (by decide) V46 V60 V44 V83 V162 ?_
 iterate 2 (refine Run.o1 V146 ?_)
 refine Run.nil ?_
 refine Exec.pan (pv := pvE) 1 rfl ?_
 refine Run.o1 V146 ?_
 exact Run.pang [(911, 911)] 0 (p_fbit (0 + 1 + ((ones a : Nat) : Int) + ((ones c : Nat) : Int) + ((ones d : Nat) : Int))) V164 V162 V162 V79 (fun q x h => by by_cases e : q = 911 <;> simp [look, e] at h; subst e; subst h; exact ⟨911, _, rfl, by simp only [go_sem] <;> rfl, OLe.refl _, rfl⟩) V90 rfl
theorem p_fplP (z : Nat) (a c d r : Bits) (e : Bool) (last o : Int) (hz : z ≤ 16) (ha : a.length = z) (hc : c.length = 3) (hd : d.length = 18) (hl : 0 ≤ last ∧ last ≤ 90000000) (hp : (1 + ones a + ones c + ones d + e.toNat) % 2 ≠ 0) : Pan Tryz.prog pvE 75 [.leaf (.ptr 911 0), .int last] [(911, .cells [.d (intsD (biI (List.replicate z false ++ true :: (a ++ (c ++ (d ++ (e :: r))))))), .d (.i o)])] := by
 have h1 := ones_c ha
 have h2 := ones_c hc
 have h3 := ones_c hd
 have hb1 : e.toNat ≤ 1 := by cases e <;> decide
 have v1 := valB_lt a
 rw [ha] at v1
 have hpz : 2 ^ z ≤ 2 ^ 16 := Nat.pow_le_pow_right (by omega) hz
 have v2 := valB_c hc (m := 8) (by decide)
 have v3 := valB_c hd (m := 262144) (by decide)
 have hpz2 : 2 ^ z + valB a ≤ 131072 := by omega
 generalize hq : 2 ^ z + valB a = q at hpz2
 have hgam := c_fgam z a (c ++ (d ++ (e :: r))) 0 hz ha (by omega)
 rw [hq] at hgam
 have hto : ((0 + 1 + ((ones a : Nat) : Int) + ((ones c : Nat) : Int) + ((ones d : Nat) : Int) + ((e.toNat : Nat) : Int)) : Int) = ((((1 + ones a + ones c + ones d + e.toNat)) : Nat) : Int) := by omega
 have htm : (((((1 + ones a + ones c + ones d + e.toNat)) : Nat) : Int)).tmod 2 = ((((1 + ones a + ones c + ones d + e.toNat)) % 2 : Nat) : Int) := by rw [Int.tmod_eq_emod_of_nonneg (by omega)]; omega
 have hev : (((((1 + ones a + ones c + ones d + e.toNat)) : Nat) : Int).tmod 2 == 0) = false := by rw [htm]; simp; omega
 refine pan_of follows_mixed Tryz.func75 rfl V107 V169 rfl ?_
 refine Exec.reg ?_
 have X := (Fx.mk hto).a hev
 refine Run.o1 V158 ?_
 refine Run.nil (Exec.reg ?_)
 iterate 4 (refine Run.o1 V158 ?_)
 refine Run.nil (Exec.reg ?_)
 iterate 2 (refine Run.o1 V158 ?_)
 refine Run.lendG [(911, 911)] V162 (hgam) V164 (.inl ⟨[], by simp only [go_sem] <;> rfl, rfl⟩) V162 V13 rfl (by decide) V46 V60 V44 V83 V162 ?_
 refine Run.o1 V67 ?_
 refine Run.o1 V158 ?_
 refine Run.lendG [(911, 911)] V162 (c_fnum 3 c (d ++ (e :: r)) (0 + 1 + ((ones a : Nat) : Int)) hc (by omega) (by omega)) V164 (.inl ⟨[], by simp only [go_sem] <;> rfl, rfl⟩) V162 V8 rfl (by decide) V46 V60 V44 V83 V162 ?_
 refine Run.o1 V158 ?_
 refine Run.lendG [(911, 911)] V162 (c_fnum 18 d (e :: r) (0 + 1 + ((ones a : Nat) : Int) + ((ones c : Nat) : Int)) hd (by omega) (by omega)) V164 (.inl ⟨[], by simp only [go_sem] <;> rfl, rfl⟩) V162 V8 rfl (by decide) V46 V60 V44 V83 V162 ?_
 iterate 2 (refine Run.o1 V158 ?_)
 refine Run.nil (Exec.reg ?_)
 refine Run.o1 V158 ?_
 refine Run.lendG [(911, 911)] V162 (c_fbit e r (0 + 1 + ((ones a : Nat) : Int) + ((ones c : Nat) : Int) + ((ones d : Nat) : Int)) (by omega)) V164 (.inl ⟨[], by simp only [go_sem] <;> rfl, rfl⟩) V162 V13 rfl (by decide) V46 V60 V44 V83 V162 ?_
 refine Run.nil ?_
 refine Exec.pan (pv := pvE) 6 rfl ?_
 iterate 4 (refine Run.o1 V158 ?_)
 refine Run.o1 V67 ?_
 refine Run.o1 V158 ?_
 exact Run.panc (p_need false rfl) V164 V158 V74 rfl
end Go.Mw
namespace Go.Bk
def fitW (x : Pl) (last : Int) : Prop := (1 ≤ x.num - last ∧ x.num - last ≤ 131071) ∧ (0 ≤ x.cls ∧ x.cls ≤ 7) ∧ 0 ≤ x.day ∧ x.day ≤ 262143
theorem fitW_of {last : Int} {s r : Bits} {x : Pl} (h : plateS last s = some (x, r)) : fitW x last := by
 unfold plateS at h
 obtain ⟨⟨z, s1⟩, h1, h⟩ := Option.bind_eq_some_iff.1 h
 obtain ⟨⟨v, s2⟩, h2, h⟩ := Option.bind_eq_some_iff.1 h
 obtain ⟨⟨c, s3⟩, h3, h⟩ := Option.bind_eq_some_iff.1 h
 obtain ⟨⟨d, s4⟩, h4, h⟩ := Option.bind_eq_some_iff.1 h
 obtain ⟨⟨p, s5⟩, h5, h⟩ := Option.bind_eq_some_iff.1 h
 simp only at h2 h3 h4 h5 h
 split at h
 ·simp only [Option.some.injEq, Prod.mk.injEq] at h
  obtain ⟨rfl, _⟩ := h
  have k1 := (gz_of _ _ _ _ h1).2
  have k2 := (takeB_of h2).2
  have k3 := (takeB_of h3).2
  have k4 := (takeB_of h4).2
  have hp : 2 ^ z ≤ 2 ^ 16 := Nat.pow_le_pow_right (by omega) k1
  have hq := Nat.two_pow_pos z
  refine ⟨⟨?_, ?_⟩, ⟨?_, ?_⟩, ?_, ?_⟩ <;> simp only <;> omega
 ·cases h
theorem ones_true (t : Bits) : ones (true :: t) = 1 + ones t := by rw [ones, ones, List.count_cons_self]; omega
theorem plate_form {x : Pl} {last : Int} (h : fitW x last) (r : Bits) : ∃ (z : Nat) (a c d : Bits) (e : Bool), z ≤ 16 ∧ a.length = z ∧ c.length = 3 ∧ d.length = 18 ∧ plateB x last ++ r = List.replicate z false ++ true :: (a ++ (c ++ (d ++ (e :: r)))) ∧
  (1 + ones a + ones c + ones d + e.toNat) % 2 = 0 ∧ last + ((2 ^ z + valB a : Nat) : Int) = x.num ∧ ((valB c : Nat) : Int) = x.cls ∧ ((valB d : Nat) : Int) = x.day ∧ 1 + ones a + ones c + ones d + e.toNat = ones (plateB x last) := by
 obtain ⟨h1, h2, h3⟩ := h
 have hn : 1 ≤ (x.num - last).toNat := by omega
 obtain ⟨b1, b2, b3⟩ := bl_spec (x.num - last).toNat
 have bk := bl_le (n := (x.num - last).toNat) (k := 17) (by omega) (by omega)
 have hv : 2 ^ (bl (x.num - last).toNat - 1) + valB (numB (bl (x.num - last).toNat - 1) (x.num - last).toNat) = (x.num - last).toNat := by
  rw [← numB_mod, valB_numB _ _ (Nat.mod_lt _ (Nat.two_pow_pos _))]
  have hq : (x.num - last).toNat / 2 ^ (bl (x.num - last).toNat - 1) = 1 := by
   have := b3 hn
   have h4 : (x.num - last).toNat < 2 * 2 ^ (bl (x.num - last).toNat - 1) := by
    rw [Nat.mul_comm, ← Nat.pow_succ, show (bl (x.num - last).toNat - 1).succ = bl (x.num - last).toNat by omega]; exact b2
   exact Nat.div_eq_of_lt_le (by omega) (by omega)
  have := Nat.div_add_mod (x.num - last).toNat (2 ^ (bl (x.num - last).toNat - 1))
  rw [hq] at this; omega
 have ho : 1 + ones (numB (bl (x.num - last).toNat - 1) (x.num - last).toNat) + ones (numB 3 x.cls.toNat) + ones (numB 18 x.day.toNat) + (parB (bodyB x last)).toNat = ones (plateB x last) := by
  have hb : ones (bodyB x last) = 1 + ones (numB (bl (x.num - last).toNat - 1) (x.num - last).toNat) + ones (numB 3 x.cls.toNat) + ones (numB 18 x.day.toNat) := by
   unfold bodyB
   rw [ones_app, ones_app, gammaB_eq hn, ones_app, ones_rep, ones_true, Nat.zero_add, ← Nat.add_assoc]
  unfold plateB
  rw [ones_app, ones_one, hb]
 refine ⟨bl (x.num - last).toNat - 1, numB (bl (x.num - last).toNat - 1) (x.num - last).toNat, numB 3 x.cls.toNat, numB 18 x.day.toNat, parB (bodyB x last), by omega, numB_len _ _, numB_len _ _, numB_len _ _, ?_, ?_, ?_, ?_, ?_, ho⟩
 ·unfold plateB
  rw [show bodyB x last ++ [parB (bodyB x last)] ++ r = bodyB x last ++ (parB (bodyB x last) :: r) by simp]
  generalize parB (bodyB x last) :: r = q
  unfold bodyB
  rw [gammaB_eq hn]; simp
 ·rw [ho]; exact ones_par _
 ·rw [hv]; omega
 ·rw [valB_numB 3 _ (by omega)]; omega
 ·rw [valB_numB 18 _ (by omega)]; omega
attribute [local irreducible] numB gammaB
def chainW : Int → List Pl → Prop
 | _, [] => True
 | last, x :: l => fitW x last ∧ chainW x.num l
theorem platesS_W : ∀ (n : Nat) (last : Int) (s r : Bits) (l : List Pl), platesS n last s = some (l, r) → s = goB last l ++ r ∧ l.length = n ∧ chainW last l
 | 0, last, s, r, l, h => by cases h; exact ⟨rfl, rfl, trivial⟩
 | n + 1, last, s, r, l, h => by
  unfold platesS at h
  obtain ⟨⟨x, s1⟩, h1, h⟩ := Option.bind_eq_some_iff.1 h
  obtain ⟨⟨l1, r1⟩, h2, h⟩ := Option.bind_eq_some_iff.1 h
  simp only [Option.some.injEq, Prod.mk.injEq] at h
  obtain ⟨rfl, rfl⟩ := h
  obtain ⟨e, hl, hc⟩ := platesS_W n x.num s1 r1 l1 h2
  exact ⟨by rw [plateS_of h1, e, goB, List.append_assoc], by simp [hl], fitW_of h1, hc⟩
theorem platesS_none : ∀ (n : Nat) (last : Int) (s : Bits), platesS n last s = none → ∃ l s1, s = goB last l ++ s1 ∧ l.length < n ∧ chainW last l ∧ plateS (lastP last l) s1 = none
 | 0, last, s, h => by cases h
 | n + 1, last, s, h => by
  unfold platesS at h
  cases h1 : plateS last s with
  | none => exact ⟨[], s, rfl, by simp, trivial, h1⟩
  | some p =>
   obtain ⟨x, s1⟩ := p
   rw [h1] at h
   simp only [Option.bind_some] at h
   cases h2 : platesS n x.num s1 with
   | some q => rw [h2] at h; cases h
   | none =>
    obtain ⟨l, t, e, hl, hc, hp⟩ := platesS_none n x.num s1 h2
    exact ⟨x :: l, t, by rw [plateS_of h1, e, goB, List.append_assoc], by simp; omega, ⟨fitW_of h1, hc⟩, hp⟩
theorem gz_none : ∀ (f : Nat) (s : Bits), gz f s = none → (∃ z ≤ f, s = List.replicate z false) ∨ ∃ r, s = List.replicate (f + 1) false ++ r
 | f, [], _ => .inl ⟨0, Nat.zero_le _, rfl⟩
 | f, true :: s, h => by
  have : gz f (true :: s) = some (0, s) := by cases f <;> rfl
  rw [this] at h; cases h
 | 0, false :: s, _ => .inr ⟨s, rfl⟩
 | f + 1, false :: s, h => by
  rw [gz, Option.map_eq_none_iff] at h
  rcases gz_none f s h with ⟨z, hz, e⟩ | ⟨r, e⟩
  ·exact .inl ⟨z + 1, by omega, by rw [e]; rfl⟩
  ·exact .inr ⟨r, by rw [e]; rfl⟩
theorem takeB_none {k : Nat} {s : Bits} (h : takeB k s = none) : s.length < k := by
 unfold takeB at h
 split at h
 ·assumption
 ·cases h
theorem takeB_some {k n : Nat} {s r : Bits} (h : takeB k s = some (n, r)) : ∃ a, a.length = k ∧ s = a ++ r ∧ n = valB a := by
 unfold takeB at h
 split at h
 ·cases h
 ·next hl => cases h; exact ⟨s.take k, by rw [List.length_take]; omega, (List.take_append_drop k s).symm, rfl⟩
theorem chainW_at : ∀ (l : List Pl) (a : Int), chainW a l → 0 ≤ a → ∀ (k : Nat), k ≤ l.length → (0 ≤ lastP a (l.take k) ∧ lastP a (l.take k) ≤ a + 131071 * k) ∧ ∀ x, l[k]? = some x → fitW x (lastP a (l.take k)) ∧ goB (lastP a (l.take k)) (l.drop k) = plateB x (lastP a (l.take k)) ++ goB x.num (l.drop (k + 1)) ∧ lastP a (l.take (k + 1)) = x.num
 | [], a, _, ha, k, _ => by simp [lastP, ha]; omega
 | y :: l, a, hc, ha, 0, _ => by
  refine ⟨by simp [lastP, ha], fun x hx => ?_⟩
  simp at hx; subst hx
  exact ⟨hc.1, by simp [goB, lastP], by simp [lastP]⟩
 | y :: l, a, hc, ha, k + 1, hk => by
  obtain ⟨⟨f1, f2⟩, _, _⟩ := hc.1
  obtain ⟨h1, h2⟩ := chainW_at l y.num hc.2 (by omega) k (by simpa using hk)
  refine ⟨?_, fun x hx => ?_⟩
  ·rw [List.take_succ_cons, lastP]; omega
  ·obtain ⟨g1, g2, g3⟩ := h2 x (by simpa using hx)
   exact ⟨g1, g2, g3⟩
def oneP (a : Int) (l : List Pl) (o : Int) : Nat → Int
 | 0 => o
 | k + 1 => match l[k]? with
  | some x => ((ones (plateB x (lastP a (l.take k))) : Nat) : Int)
  | none => o
theorem oneP_bnd {a : Int} {l : List Pl} {o : Int} (ho : 0 ≤ o ∧ o ≤ 100000) (hb : ∀ k x, l[k]? = some x → fitW x (lastP a (l.take k))) : ∀ k, 0 ≤ oneP a l o k ∧ oneP a l o k ≤ 100000
 | 0 => ho
 | k + 1 => by
  rw [oneP]
  cases hx : l[k]? with
  | none => exact ho
  | some x =>
   obtain ⟨z, a', c, d, e, hz, ha, hc, hd, _, _, _, _, _, h⟩ := plate_form (hb k x hx) []
   have h1 := ones_le a'
   have h2 := ones_le c
   have h3 := ones_le d
   have h4 : e.toNat ≤ 1 := by cases e <;> decide
   show 0 ≤ ((ones (plateB x (lastP a (l.take k))) : Nat) : Int) ∧ ((ones (plateB x (lastP a (l.take k))) : Nat) : Int) ≤ 100000
   omega
end Go.Bk
namespace Go.Mw
open Go.Proofs
open Go.Bk
attribute [-go_sem] binInt
attribute [local go_sem] bI_add bI_sub bI_mul bI_rem bI_eql bI_neq bI_lss bI_leq bI_gtr bI_geq
theorem c_fplW {x : Pl} {last : Int} (r : Bits) (o : Int) (h : fitW x last) (hl : 0 ≤ last ∧ last ≤ 90000000) : Con Tryz.prog 75 [.leaf (.ptr 911 0), .int last] [(911, .cells [.d (intsD (biI (plateB x last ++ r))), .d (.i o)])] (.ret (plV x) [(911, .cells [.d (intsD (biI r)), .d (.i ((ones (plateB x last) : Nat) : Int))])]) := by
 obtain ⟨z, a, c, d, e, hz, ha, hc, hd, e1, hp, e2, e3, e4, e5⟩ := plate_form h r
 have := c_fplate z a c d r e last o hz ha hc hd hl hp
 rw [e2, e3, e4, e5] at this
 rw [e1]
 exact this
theorem p_fplW {s : Bits} {last : Int} (o : Int) (hl : 0 ≤ last ∧ last ≤ 90000000) (h : plateS last s = none) : Pan Tryz.prog pvE 75 [.leaf (.ptr 911 0), .int last] [(911, .cells [.d (intsD (biI s)), .d (.i o)])] := by
 unfold plateS at h
 cases h1 : gz 16 s with
 | none =>
  rcases gz_none 16 s h1 with ⟨z, hz, e⟩ | ⟨r, e⟩
  ·subst e; exact p_fplG _ last o hl (p_fgamA z 0 hz (by omega))
  ·subst e; exact p_fplG _ last o hl (p_fgamB r 0 (by omega))
 | some p =>
  obtain ⟨z, s1⟩ := p
  obtain ⟨e1, hz⟩ := gz_of _ _ _ _ h1
  rw [h1] at h
  simp only [Option.bind_some] at h
  cases h2 : takeB z s1 with
  | none => subst e1; exact p_fplG _ last o hl (p_fgamC z s1 0 hz (takeB_none h2) (by omega))
  | some q =>
   obtain ⟨v, s2⟩ := q
   obtain ⟨a, ha, e2, v1⟩ := takeB_some h2
   rw [h2] at h
   simp only [Option.bind_some] at h
   cases h3 : takeB 3 s2 with
   | none => subst e1 e2; exact p_fplC z a s2 last o hz ha (takeB_none h3) hl
   | some q =>
    obtain ⟨v', s3⟩ := q
    obtain ⟨c, hc, e3, v2⟩ := takeB_some h3
    rw [h3] at h
    simp only [Option.bind_some] at h
    cases h4 : takeB 18 s3 with
    | none => subst e1 e2 e3; exact p_fplD z a c s3 last o hz ha hc (takeB_none h4) hl
    | some q =>
     obtain ⟨v'', s4⟩ := q
     obtain ⟨d, hd, e4, v3⟩ := takeB_some h4
     rw [h4] at h
     simp only [Option.bind_some] at h
     cases h5 : takeB 1 s4 with
     | none =>
      have : s4 = [] := List.eq_nil_of_length_eq_zero (by have := takeB_none h5; omega)
      subst e1 e2 e3 e4 this
      exact p_fplE z a c d last o hz ha hc hd hl
     | some q =>
      obtain ⟨v4, r⟩ := q
      obtain ⟨u, hu, e5, v5⟩ := takeB_some h5
      obtain ⟨e, rfl⟩ : ∃ e, u = [e] := List.length_eq_one_iff.1 hu
      rw [h5] at h
      simp only [Option.bind_some] at h
      have hs : s.take (s.length - r.length) = List.replicate z false ++ true :: (a ++ (c ++ (d ++ [e]))) := by
       have : s = (List.replicate z false ++ true :: (a ++ (c ++ (d ++ [e])))) ++ r := by rw [e1, e2, e3, e4, e5]; simp
       rw [this, List.length_append, Nat.add_sub_cancel, List.take_left]
      have ho : ones (s.take (s.length - r.length)) = 1 + ones a + ones c + ones d + e.toNat := by
       rw [hs, ones_app, ones_rep, ones_true, ones_app, ones_app, ones_app, ones_one]; omega
      rw [ho] at h
      split at h
      ·cases h
      ·next hp =>
       subst e1 e2 e3 e4 e5
       exact p_fplP z a c d r e last o hz ha hc hd hl hp
theorem goB_nil (a : Int) : goB a [] = [] := by rw [goB]
theorem lastP_nil (a : Int) : lastP a [] = a := by rw [lastP]
theorem oneP_zero (a : Int) (l : List Pl) (o : Int) : oneP a l o 0 = o := by rw [oneP]
theorem c_rdP (b : Bs) (hb : b.length ≤ 1000000) (n : Nat) (l : List Pl) (r : Bits) (hu : unp b = numB 8 n ++ (goB 0 l ++ r)) (hn : n < 256) (hln : l.length = n) (hc : chainW 0 l) (h8 : r.length < 8) (hpe : platesE l = 0) (ho : ones r = 0) : Con Tryz.prog 72 [.leaf (.d (.pt [bysD b]))] [] (.ret (.leaf (.d (plsD l))) []) := by
 have hnf := c_newFeeler b hb
 rw [hu] at hnf
 have hv8 : valB (numB 8 n) = n := valB_numB 8 n (by omega)
 have hn8 := numB_len 8 n
 have ho8 := ones_le (numB 8 n)
 rw [hn8] at ho8
 have hca := chainW_at l 0 hc (by omega)
 have hob := oneP_bnd (a := 0) (l := l) (o := (0 + ((ones (numB 8 n) : Nat) : Int))) (by omega) (fun k x hx => ((hca k (Nat.le_of_lt (List.getElem?_eq_some_iff.1 hx).1)).2 x hx).1)
 refine con_of follows_mixed Tryz.func72 rfl V108 V169 rfl ?_
 refine Exec.reg ?_
 have X := Fx.mk hv8
 refine Run.o1 V158 ?_
 refine Run.nil (Exec.reg ?_)
 refine Run.o1 V158 ?_
 refine Run.cal (hnf) V164 V158 V74 (fr1 V162) V158 ?_
 refine Run.o1 V158 ?_
 refine Run.nil (Exec.reg ?_)
 refine Run.o1 V158 ?_
 refine Run.nil (Exec.assocS (Exec.reg ?_))
 refine Run.nilo 1 1000 70 3 V162 V162 (by omega) (by omega) V162 ?_
 refine Run.o1 V158 ?_
 refine Run.lendG [(911, 7006)] V162 (c_fnum 8 (numB 8 n) (goB 0 l ++ r) 0 hn8 (by omega) (by omega)) V164 (.inl ⟨[], by simp only [go_sem] <;> rfl, rfl⟩) V162 V8 rfl (by decide) V46 V60 V44 V83 V162 ?_
 refine Run.o1 V158 ?_
 refine Run.nil (Exec.blk ?_)
 refine Exec.forA [1, 2, 3, 8, 9] [7006, 1000] (l.length) (fun k => [.slot 3 (.int (lastP 0 (l.take k))), .slot 9 (.int k), .slot 1 (.leaf (.own 1000 0 k k)), .obj 7006 (.cells [.d (intsD (biI (goB (lastP 0 (l.take k)) (l.drop k) ++ r))), .d (.i (oneP 0 l (0 + ((ones (numB 8 n) : Nat) : Int)) k))]), .obj 1000 (.arr 70 3 ((l.take k).map encPl))]) (fun _ => True) (fun k => by simp only [go_sem] <;> rfl) V80 ?_ (fun k hk hX => ?_)
 ·trivial
 ·skip
  refine Exec.reg ?_
  refine Run.o1 V158 ?_
  refine Run.nil ?_
  refine Exec.cndS V158 (fun hb10 => ?_) (fun hb10 => ?_)
  ·skip
   have hlt := (show k < l.length by have := of_decide_eq_true hb10; omega)
   obtain ⟨x, hx⟩ : ∃ x, l[k]? = some x := ⟨_, List.getElem?_eq_getElem (by omega)⟩
   obtain ⟨hlp, hcx⟩ := hca k (by omega)
   obtain ⟨g1, g2, g3⟩ := hcx x hx
   have hok : oneP 0 l (0 + ((ones (numB 8 n) : Nat) : Int)) (k + 1) = ((ones (plateB x (lastP 0 (l.take k))) : Nat) : Int) := by rw [oneP, hx]
   have htl : (l.take k).length = k := by rw [List.length_take]; omega
   have hts := take_snoc hx
   have hkb := hob k
   refine Exec.skipS (Exec.blk (Exec.reg ?_))
   have X := ((X.a g3).a hok).a htl
   iterate 2 (refine Run.o1 V158 ?_)
   have X := Fx.mk g2
   refine Run.lendG [(911, 7006)] V162 (c_fplW (goB x.num (l.drop (k + 1)) ++ r) (oneP 0 l (0 + ((ones (numB 8 n) : Nat) : Int)) k) g1 (by omega)) V164 (.inl ⟨[], by simp only [go_sem] <;> rfl, rfl⟩) V132 V8 rfl (by decide) V46 V49 V44 V83 V132 ?_
   have X := (((Fx.mk hv8).a g3).a hok).a htl
   iterate 2 (refine Run.o1 V158 ?_)
   refine Run.nil ?_
   refine Exec.opk1 10 ?_
   iterate 3 (refine OpenK.o1 V158 ?_)
   refine OpenK.o1 V7 ?_
   iterate 4 (refine OpenK.o1 V158 ?_)
   refine OpenK.nil (OpenE.fin V166 V166 ?_)
   refine BlkK.nrm (Exec.reg1 ?_)
   refine Run.o1 V67 ?_
   refine Run.o1 V158 ?_
   refine Run.nil ?_
   refine ForK.nxt ?_ ?_ ?_
   ·omega
   ·exact Ghost.kp [1, 2, 3, 8, 9] [7006, 1000] V18
   ·trivial
  ·skip
   have hke : k = l.length := by have := of_decide_eq_false hb10; omega
   subst hke
   have htk : l.take l.length = l := List.take_of_length_le (by omega)
   have hdk : l.drop l.length = [] := List.drop_eq_nil_of_le (by omega)
   have hta : List.take l.length (List.map encPl l) = List.map encPl l := List.take_of_length_le (by simp)
   have hir := biI_len r
   have gn := goB_nil
   have hl8 : decide ((r.length : Int) < 8) = true := decide_eq_true (by omega)
   have h00 : ((0 : Int) == 0) = true := rfl
   refine Exec.exitS (ForK.ext (BlkK.hit (Exec.reg ?_)))
   have X := Fx.mk hta
   refine Run.frz 1000 V158 ?_
   have X := (((((((Fx.mk htk).a hdk).a gn).a hta).a hir).a hl8).a hpe).a h00
   iterate 7 (refine Run.o1 V116 ?_)
   refine Run.y1 V116 ?_
   refine Run.calw V162 (c_platesError l (by omega)) V164 V116 V116 V74 (fr0) V116 ?_
   refine Run.y1 V116 ?_
   refine Run.o1 V116 ?_
   refine Run.c1 (c_need true rfl) V116 V116 ?_
   refine Run.nil (Exec.reg ?_)
   iterate 4 (refine Run.o1 V116 ?_)
   refine Run.nil (Exec.blk ?_)
   refine Exec.forA [1, 2] [7006] (r.length) (fun j => [.obj 7006 (.cells [.d (intsD (biI (r.drop j))), .d (.i ((ones (r.take j) : Nat) : Int))])]) (fun _ => True) (fun j => by simp only [go_sem] <;> rfl) V77 ?_ (fun j hj Xj => ?_)
   ·trivial
   ·skip
    refine Exec.assocS (Exec.reg ?_)
    iterate 6 (refine Run.o1 V116 ?_)
    refine Run.nil ?_
    refine Exec.cndS V116 (fun hb41 => ?_) (fun hb41 => ?_)
    ·skip
     have hbl := biI_len (r.drop j)
     rw [List.length_drop] at hbl
     have hjl : j < r.length := by have := of_decide_eq_true hb41; omega
     obtain ⟨e, he⟩ : ∃ e, r[j]? = some e := ⟨_, List.getElem?_eq_getElem (by omega)⟩
     have hdk : r.drop j = e :: r.drop (j + 1) := drop_get he
     have htk2 : ones (r.take (j + 1)) = ones (r.take j) + e.toNat := by rw [take_snoc he, ones_app, ones_one]
     have hoj := ones_take r j
     refine Exec.skipS (Exec.blk1 (Exec.reg1 ?_))
     refine Run.o1 V116 ?_
     have X := Fx.mk hdk
     refine Run.lendG [(911, 7006)] V162 (c_fbit e (r.drop (j + 1)) ((ones (r.take j) : Nat) : Int) (by omega)) V164 (.inl ⟨[], by simp only [go_sem] <;> rfl, rfl⟩) V158 V13 rfl (by decide) V46 V56 V44 V83 V158 ?_
     refine Run.nil (Blk1K.nrm ?_)
     refine ForK.nxt ?_ ?_ ?_
     ·omega
     ·exact Ghost.kp [1, 2] [7006] (by simp only [go_sem, htk, hdk, gn, List.nil_append, hta, hir, hl8, hpe, h00, List.length_map] <;> first | ((repeat' (first | with_reducible_and_instances rfl | refine st_eq ?_ ?_ ?_ | refine ret_eq ?_ | refine tup_eq ?_ | refine tm_eq ?_ ?_ | refine arr_eq ?_ | refine cells_eq ?_ | refine val_eq ?_ | refine ls_eq ?_ ?_ | refine own_eq ?_ ?_ | refine sl_eq ?_ | refine b_eq ?_ | (refine i_eq ?_; omega))); all_goals (first | omega | (rw [htk2]; omega))) | rfl)
     ·trivial
    ·skip
     have hbl := biI_len (r.drop j)
     rw [List.length_drop] at hbl
     have hje : j = r.length := by have := of_decide_eq_false hb41; omega
     have hrt : r.take j = r := List.take_of_length_le (by omega)
     refine Exec.exitS (ForK.ext (BlkK.hit (Exec.reg ?_)))
     have X := (X.a hrt).a ho
     iterate 5 (refine Run.o1 V94 ?_)
     refine Run.c1 (c_need true rfl) V94 V94 ?_
     refine Run.nil (Exec.reg ?_)
     iterate 2 (refine Run.o1 V94 ?_)
     refine Run.nil ?_
     exact Ends.fin [] (rs := [.tmp 1]) rfl V94 (by simp only [go_sem, X.h, List.nil_append, List.length_map, Int.natCast_zero] <;> first | rfl | exact eqz)
theorem p_rd0 (b : Bs) (hb : b.length ≤ 1000000) (hu : (unp b).length < 8) : Pan Tryz.prog pvE 72 [.leaf (.d (.pt [bysD b]))] [] := by
 refine pan_of follows_mixed Tryz.func72 rfl V108 V169 rfl ?_
 refine Exec.reg ?_
 refine Run.o ?_
 refine Run.nil (Exec.reg ?_)
 refine Run.o ?_
 refine Run.cal (c_newFeeler b hb) V164 V162 V74 (fr1 V162) V162 ?_
 refine Run.o ?_
 refine Run.nil (Exec.reg ?_)
 refine Run.o ?_
 refine Run.nil (Exec.assocS ?_)
 refine Exec.pan (pv := pvE) 1 rfl ?_
 refine Run.o ?_
 exact Run.pang [(911, 7006)] 0 (p_fnum 8 (unp b) 0 hu (by omega) (by omega)) V164 V162 V162 V34 (fun q x h => by by_cases e : q = 911 <;> simp [look, e] at h; subst e; subst h; exact ⟨7006, _, rfl, by simp only [go_sem] <;> rfl, OLe.refl _, rfl⟩) V90 rfl
theorem p_rd1 (b : Bs) (hb : b.length ≤ 1000000) (n : Nat) (l : List Pl) (r : Bits) (hu : unp b = numB 8 n ++ (goB 0 l ++ r)) (hn : n < 256) (hln : l.length < n) (hc : chainW 0 l) (hp : plateS (lastP 0 l) r = none) : Pan Tryz.prog pvE 72 [.leaf (.d (.pt [bysD b]))] [] := by
 have hnf := c_newFeeler b hb
 rw [hu] at hnf
 have hv8 : valB (numB 8 n) = n := valB_numB 8 n (by omega)
 have hn8 := numB_len 8 n
 have ho8 := ones_le (numB 8 n)
 rw [hn8] at ho8
 have hca := chainW_at l 0 hc (by omega)
 have hob := oneP_bnd (a := 0) (l := l) (o := (0 + ((ones (numB 8 n) : Nat) : Int))) (by omega) (fun k x hx => ((hca k (Nat.le_of_lt (List.getElem?_eq_some_iff.1 hx).1)).2 x hx).1)
 refine pan_of follows_mixed Tryz.func72 rfl V108 V169 rfl ?_
 refine Exec.reg ?_
 have X := Fx.mk hv8
 refine Run.o1 V158 ?_
 refine Run.nil (Exec.reg ?_)
 refine Run.o1 V158 ?_
 refine Run.cal (hnf) V164 V158 V74 (fr1 V162) V158 ?_
 refine Run.o1 V158 ?_
 refine Run.nil (Exec.reg ?_)
 refine Run.o1 V158 ?_
 refine Run.nil (Exec.assocS (Exec.reg ?_))
 refine Run.nilo 1 1000 70 3 V162 V162 (by omega) (by omega) V162 ?_
 refine Run.o1 V158 ?_
 refine Run.lendG [(911, 7006)] V162 (c_fnum 8 (numB 8 n) (goB 0 l ++ r) 0 hn8 (by omega) (by omega)) V164 (.inl ⟨[], by simp only [go_sem] <;> rfl, rfl⟩) V162 V8 rfl (by decide) V46 V60 V44 V83 V162 ?_
 refine Run.o1 V158 ?_
 refine Run.nil (Exec.blk ?_)
 refine Exec.forA [1, 2, 3, 8, 9] [7006, 1000] (l.length) (fun k => [.slot 3 (.int (lastP 0 (l.take k))), .slot 9 (.int k), .slot 1 (.leaf (.own 1000 0 k k)), .obj 7006 (.cells [.d (intsD (biI (goB (lastP 0 (l.take k)) (l.drop k) ++ r))), .d (.i (oneP 0 l (0 + ((ones (numB 8 n) : Nat) : Int)) k))]), .obj 1000 (.arr 70 3 ((l.take k).map encPl))]) (fun _ => True) (fun k => by simp only [go_sem] <;> rfl) V80 ?_ (fun k hk hX => ?_)
 ·trivial
 ·skip
  refine Exec.reg ?_
  refine Run.o1 V158 ?_
  refine Run.nil ?_
  refine Exec.cndS V158 (fun hb10 => ?_) (fun hb10 => ?_)
  ·skip
   have hkn : k < n := by have := of_decide_eq_true hb10; omega
   refine Exec.skipS (Exec.blk ?_)
   by_cases hk2 : k < l.length
   ·skip
    have hlt := hk2
    obtain ⟨x, hx⟩ : ∃ x, l[k]? = some x := ⟨_, List.getElem?_eq_getElem (by omega)⟩
    obtain ⟨hlp, hcx⟩ := hca k (by omega)
    obtain ⟨g1, g2, g3⟩ := hcx x hx
    have hok : oneP 0 l (0 + ((ones (numB 8 n) : Nat) : Int)) (k + 1) = ((ones (plateB x (lastP 0 (l.take k))) : Nat) : Int) := by rw [oneP, hx]
    have htl : (l.take k).length = k := by rw [List.length_take]; omega
    have hts := take_snoc hx
    have hkb := hob k
    refine Exec.reg ?_
    have X := ((X.a g3).a hok).a htl
    iterate 2 (refine Run.o1 V158 ?_)
    have X := Fx.mk g2
    refine Run.lendG [(911, 7006)] V162 (c_fplW (goB x.num (l.drop (k + 1)) ++ r) (oneP 0 l (0 + ((ones (numB 8 n) : Nat) : Int)) k) g1 (by omega)) V164 (.inl ⟨[], by simp only [go_sem] <;> rfl, rfl⟩) V132 V8 rfl (by decide) V46 V49 V44 V83 V132 ?_
    have X := (((Fx.mk hv8).a g3).a hok).a htl
    iterate 2 (refine Run.o1 V158 ?_)
    refine Run.nil ?_
    refine Exec.opk1 10 ?_
    iterate 3 (refine OpenK.o1 V158 ?_)
    refine OpenK.o1 V7 ?_
    iterate 4 (refine OpenK.o1 V158 ?_)
    refine OpenK.nil (OpenE.fin V166 V166 ?_)
    refine BlkK.nrm (Exec.reg1 ?_)
    refine Run.o1 V67 ?_
    refine Run.o1 V158 ?_
    refine Run.nil ?_
    refine ForK.nxt ?_ ?_ ?_
    ·omega
    ·exact Ghost.kp [1, 2, 3, 8, 9] [7006, 1000] V18
    ·trivial
   ·skip
    have hke : k = l.length := by omega
    subst hke
    have htk : l.take l.length = l := List.take_of_length_le (by omega)
    have hdk : l.drop l.length = [] := List.drop_eq_nil_of_le (by omega)
    have gn := goB_nil
    obtain ⟨hlp, _⟩ := hca l.length (by omega)
    rw [htk] at hlp
    refine Exec.pan (pv := pvE) 2 rfl ?_
    have X := ((Fx.mk htk).a hdk).a gn
    iterate 2 (refine Run.o1 (by simp only [go_sem, X.h, List.nil_append] <;> rfl) ?_)
    have X := ((Fx.mk hdk).a gn).a htk
    exact Run.pang [(911, 7006)] 0 (p_fplW (oneP 0 l (0 + ((ones (numB 8 n) : Nat) : Int)) l.length) (by omega) hp) V164 V162 (by simp only [go_sem, X.h, List.nil_append, Int.zero_add] <;> rfl) V34 (fun q x h => by by_cases e : q = 911 <;> simp [look, e] at h; subst e; subst h; exact ⟨7006, _, rfl, by simp only [go_sem, X.h, List.nil_append, Int.zero_add] <;> rfl, OLe.refl _, rfl⟩) V90 rfl
  ·skip
   exact absurd (of_decide_eq_false hb10) (by omega)
theorem p_rd2 (b : Bs) (hb : b.length ≤ 1000000) (n : Nat) (l : List Pl) (r : Bits) (hu : unp b = numB 8 n ++ (goB 0 l ++ r)) (hn : n < 256) (hln : l.length = n) (hc : chainW 0 l) (h8 : 8 ≤ r.length) : Pan Tryz.prog pvE 72 [.leaf (.d (.pt [bysD b]))] [] := by
 have hnf := c_newFeeler b hb
 rw [hu] at hnf
 have hv8 : valB (numB 8 n) = n := valB_numB 8 n (by omega)
 have hn8 := numB_len 8 n
 have ho8 := ones_le (numB 8 n)
 rw [hn8] at ho8
 have hca := chainW_at l 0 hc (by omega)
 have hob := oneP_bnd (a := 0) (l := l) (o := (0 + ((ones (numB 8 n) : Nat) : Int))) (by omega) (fun k x hx => ((hca k (Nat.le_of_lt (List.getElem?_eq_some_iff.1 hx).1)).2 x hx).1)
 refine pan_of follows_mixed Tryz.func72 rfl V108 V169 rfl ?_
 refine Exec.reg ?_
 have X := Fx.mk hv8
 refine Run.o1 V158 ?_
 refine Run.nil (Exec.reg ?_)
 refine Run.o1 V158 ?_
 refine Run.cal (hnf) V164 V158 V74 (fr1 V162) V158 ?_
 refine Run.o1 V158 ?_
 refine Run.nil (Exec.reg ?_)
 refine Run.o1 V158 ?_
 refine Run.nil (Exec.assocS (Exec.reg ?_))
 refine Run.nilo 1 1000 70 3 V162 V162 (by omega) (by omega) V162 ?_
 refine Run.o1 V158 ?_
 refine Run.lendG [(911, 7006)] V162 (c_fnum 8 (numB 8 n) (goB 0 l ++ r) 0 hn8 (by omega) (by omega)) V164 (.inl ⟨[], by simp only [go_sem] <;> rfl, rfl⟩) V162 V8 rfl (by decide) V46 V60 V44 V83 V162 ?_
 refine Run.o1 V158 ?_
 refine Run.nil (Exec.blk ?_)
 refine Exec.forA [1, 2, 3, 8, 9] [7006, 1000] (l.length) (fun k => [.slot 3 (.int (lastP 0 (l.take k))), .slot 9 (.int k), .slot 1 (.leaf (.own 1000 0 k k)), .obj 7006 (.cells [.d (intsD (biI (goB (lastP 0 (l.take k)) (l.drop k) ++ r))), .d (.i (oneP 0 l (0 + ((ones (numB 8 n) : Nat) : Int)) k))]), .obj 1000 (.arr 70 3 ((l.take k).map encPl))]) (fun _ => True) (fun k => by simp only [go_sem] <;> rfl) V80 ?_ (fun k hk hX => ?_)
 ·trivial
 ·skip
  refine Exec.reg ?_
  refine Run.o1 V158 ?_
  refine Run.nil ?_
  refine Exec.cndS V158 (fun hb10 => ?_) (fun hb10 => ?_)
  ·skip
   have hlt := (show k < l.length by have := of_decide_eq_true hb10; omega)
   obtain ⟨x, hx⟩ : ∃ x, l[k]? = some x := ⟨_, List.getElem?_eq_getElem (by omega)⟩
   obtain ⟨hlp, hcx⟩ := hca k (by omega)
   obtain ⟨g1, g2, g3⟩ := hcx x hx
   have hok : oneP 0 l (0 + ((ones (numB 8 n) : Nat) : Int)) (k + 1) = ((ones (plateB x (lastP 0 (l.take k))) : Nat) : Int) := by rw [oneP, hx]
   have htl : (l.take k).length = k := by rw [List.length_take]; omega
   have hts := take_snoc hx
   have hkb := hob k
   refine Exec.skipS (Exec.blk (Exec.reg ?_))
   have X := ((X.a g3).a hok).a htl
   iterate 2 (refine Run.o1 V158 ?_)
   have X := Fx.mk g2
   refine Run.lendG [(911, 7006)] V162 (c_fplW (goB x.num (l.drop (k + 1)) ++ r) (oneP 0 l (0 + ((ones (numB 8 n) : Nat) : Int)) k) g1 (by omega)) V164 (.inl ⟨[], by simp only [go_sem] <;> rfl, rfl⟩) V132 V8 rfl (by decide) V46 V49 V44 V83 V132 ?_
   have X := (((Fx.mk hv8).a g3).a hok).a htl
   iterate 2 (refine Run.o1 V158 ?_)
   refine Run.nil ?_
   refine Exec.opk1 10 ?_
   iterate 3 (refine OpenK.o1 V158 ?_)
   refine OpenK.o1 V7 ?_
   iterate 4 (refine OpenK.o1 V158 ?_)
   refine OpenK.nil (OpenE.fin V166 V166 ?_)
   refine BlkK.nrm (Exec.reg1 ?_)
   refine Run.o1 V67 ?_
   refine Run.o1 V158 ?_
   refine Run.nil ?_
   refine ForK.nxt ?_ ?_ ?_
   ·omega
   ·exact Ghost.kp [1, 2, 3, 8, 9] [7006, 1000] V18
   ·trivial
  ·skip
   have hke : k = l.length := by have := of_decide_eq_false hb10; omega
   subst hke
   have htk : l.take l.length = l := List.take_of_length_le (by omega)
   have hdk : l.drop l.length = [] := List.drop_eq_nil_of_le (by omega)
   have hta : List.take l.length (List.map encPl l) = List.map encPl l := List.take_of_length_le (by simp)
   have hir := biI_len r
   have gn := goB_nil
   have h00 : ((0 : Int) == 0) = true := rfl
   have hl8 : decide ((r.length : Int) < 8) = false := decide_eq_false (by omega)
   refine Exec.exitS (ForK.ext (BlkK.hit ?_))
   refine Exec.pan (pv := pvE) 11 rfl ?_
   have X := Fx.mk hta
   refine Run.frz 1000 V158 ?_
   have X := ((((((Fx.mk htk).a hdk).a gn).a hta).a hir).a h00).a hl8
   iterate 7 (refine Run.o1 V116 ?_)
   iterate 3 (refine Run.s ?_)
   refine Run.o1 V116 ?_
   exact Run.panc (p_need false rfl) V164 V116 V74 rfl
theorem p_rd3 (b : Bs) (hb : b.length ≤ 1000000) (n : Nat) (l : List Pl) (r : Bits) (hu : unp b = numB 8 n ++ (goB 0 l ++ r)) (hn : n < 256) (hln : l.length = n) (hc : chainW 0 l) (h8 : r.length < 8) (hpe : platesE l ≠ 0) : Pan Tryz.prog pvE 72 [.leaf (.d (.pt [bysD b]))] [] := by
 have hnf := c_newFeeler b hb
 rw [hu] at hnf
 have hv8 : valB (numB 8 n) = n := valB_numB 8 n (by omega)
 have hn8 := numB_len 8 n
 have ho8 := ones_le (numB 8 n)
 rw [hn8] at ho8
 have hca := chainW_at l 0 hc (by omega)
 have hob := oneP_bnd (a := 0) (l := l) (o := (0 + ((ones (numB 8 n) : Nat) : Int))) (by omega) (fun k x hx => ((hca k (Nat.le_of_lt (List.getElem?_eq_some_iff.1 hx).1)).2 x hx).1)
 refine pan_of follows_mixed Tryz.func72 rfl V108 V169 rfl ?_
 refine Exec.reg ?_
 have X := Fx.mk hv8
 refine Run.o1 V158 ?_
 refine Run.nil (Exec.reg ?_)
 refine Run.o1 V158 ?_
 refine Run.cal (hnf) V164 V158 V74 (fr1 V162) V158 ?_
 refine Run.o1 V158 ?_
 refine Run.nil (Exec.reg ?_)
 refine Run.o1 V158 ?_
 refine Run.nil (Exec.assocS (Exec.reg ?_))
 refine Run.nilo 1 1000 70 3 V162 V162 (by omega) (by omega) V162 ?_
 refine Run.o1 V158 ?_
 refine Run.lendG [(911, 7006)] V162 (c_fnum 8 (numB 8 n) (goB 0 l ++ r) 0 hn8 (by omega) (by omega)) V164 (.inl ⟨[], by simp only [go_sem] <;> rfl, rfl⟩) V162 V8 rfl (by decide) V46 V60 V44 V83 V162 ?_
 refine Run.o1 V158 ?_
 refine Run.nil (Exec.blk ?_)
 refine Exec.forA [1, 2, 3, 8, 9] [7006, 1000] (l.length) (fun k => [.slot 3 (.int (lastP 0 (l.take k))), .slot 9 (.int k), .slot 1 (.leaf (.own 1000 0 k k)), .obj 7006 (.cells [.d (intsD (biI (goB (lastP 0 (l.take k)) (l.drop k) ++ r))), .d (.i (oneP 0 l (0 + ((ones (numB 8 n) : Nat) : Int)) k))]), .obj 1000 (.arr 70 3 ((l.take k).map encPl))]) (fun _ => True) (fun k => by simp only [go_sem] <;> rfl) V80 ?_ (fun k hk hX => ?_)
 ·trivial
 ·skip
  refine Exec.reg ?_
  refine Run.o1 V158 ?_
  refine Run.nil ?_
  refine Exec.cndS V158 (fun hb10 => ?_) (fun hb10 => ?_)
  ·skip
   have hlt := (show k < l.length by have := of_decide_eq_true hb10; omega)
   obtain ⟨x, hx⟩ : ∃ x, l[k]? = some x := ⟨_, List.getElem?_eq_getElem (by omega)⟩
   obtain ⟨hlp, hcx⟩ := hca k (by omega)
   obtain ⟨g1, g2, g3⟩ := hcx x hx
   have hok : oneP 0 l (0 + ((ones (numB 8 n) : Nat) : Int)) (k + 1) = ((ones (plateB x (lastP 0 (l.take k))) : Nat) : Int) := by rw [oneP, hx]
   have htl : (l.take k).length = k := by rw [List.length_take]; omega
   have hts := take_snoc hx
   have hkb := hob k
   refine Exec.skipS (Exec.blk (Exec.reg ?_))
   have X := ((X.a g3).a hok).a htl
   iterate 2 (refine Run.o1 V158 ?_)
   have X := Fx.mk g2
   refine Run.lendG [(911, 7006)] V162 (c_fplW (goB x.num (l.drop (k + 1)) ++ r) (oneP 0 l (0 + ((ones (numB 8 n) : Nat) : Int)) k) g1 (by omega)) V164 (.inl ⟨[], by simp only [go_sem] <;> rfl, rfl⟩) V132 V8 rfl (by decide) V46 V49 V44 V83 V132 ?_
   have X := (((Fx.mk hv8).a g3).a hok).a htl
   iterate 2 (refine Run.o1 V158 ?_)
   refine Run.nil ?_
   refine Exec.opk1 10 ?_
   iterate 3 (refine OpenK.o1 V158 ?_)
   refine OpenK.o1 V7 ?_
   iterate 4 (refine OpenK.o1 V158 ?_)
   refine OpenK.nil (OpenE.fin V166 V166 ?_)
   refine BlkK.nrm (Exec.reg1 ?_)
   refine Run.o1 V67 ?_
   refine Run.o1 V158 ?_
   refine Run.nil ?_
   refine ForK.nxt ?_ ?_ ?_
   ·omega
   ·exact Ghost.kp [1, 2, 3, 8, 9] [7006, 1000] V18
   ·trivial
  ·skip
   have hke : k = l.length := by have := of_decide_eq_false hb10; omega
   subst hke
   have htk : l.take l.length = l := List.take_of_length_le (by omega)
   have hdk : l.drop l.length = [] := List.drop_eq_nil_of_le (by omega)
   have hta : List.take l.length (List.map encPl l) = List.map encPl l := List.take_of_length_le (by simp)
   have hir := biI_len r
   have gn := goB_nil
   have h00 : ((0 : Int) == 0) = true := rfl
   have hl8 : decide ((r.length : Int) < 8) = true := decide_eq_true (by omega)
   have hpf : (platesE l == 0) = false := by simpa using hpe
   refine Exec.exitS (ForK.ext (BlkK.hit ?_))
   refine Exec.pan (pv := pvE) 11 rfl ?_
   have X := Fx.mk hta
   refine Run.frz 1000 V158 ?_
   have X := (((((((Fx.mk htk).a hdk).a gn).a hta).a hir).a h00).a hl8).a hpf
   iterate 7 (refine Run.o1 V116 ?_)
   refine Run.y1 V116 ?_
   refine Run.calw V162 (c_platesError l (by omega)) V164 V116 V116 V74 (fr0) V116 ?_
   refine Run.y1 V116 ?_
   refine Run.o1 V116 ?_
   exact Run.panc (p_need false rfl) V164 V116 V74 rfl
theorem p_rd4 (b : Bs) (hb : b.length ≤ 1000000) (n : Nat) (l : List Pl) (r : Bits) (hu : unp b = numB 8 n ++ (goB 0 l ++ r)) (hn : n < 256) (hln : l.length = n) (hc : chainW 0 l) (h8 : r.length < 8) (hpe : platesE l = 0) (ho : ones r ≠ 0) : Pan Tryz.prog pvE 72 [.leaf (.d (.pt [bysD b]))] [] := by
 have hnf := c_newFeeler b hb
 rw [hu] at hnf
 have hv8 : valB (numB 8 n) = n := valB_numB 8 n (by omega)
 have hn8 := numB_len 8 n
 have ho8 := ones_le (numB 8 n)
 rw [hn8] at ho8
 have hca := chainW_at l 0 hc (by omega)
 have hob := oneP_bnd (a := 0) (l := l) (o := (0 + ((ones (numB 8 n) : Nat) : Int))) (by omega) (fun k x hx => ((hca k (Nat.le_of_lt (List.getElem?_eq_some_iff.1 hx).1)).2 x hx).1)
 refine pan_of follows_mixed Tryz.func72 rfl V108 V169 rfl ?_
 refine Exec.reg ?_
 have X := Fx.mk hv8
 refine Run.o1 V158 ?_
 refine Run.nil (Exec.reg ?_)
 refine Run.o1 V158 ?_
 refine Run.cal (hnf) V164 V158 V74 (fr1 V162) V158 ?_
 refine Run.o1 V158 ?_
 refine Run.nil (Exec.reg ?_)
 refine Run.o1 V158 ?_
 refine Run.nil (Exec.assocS (Exec.reg ?_))
 refine Run.nilo 1 1000 70 3 V162 V162 (by omega) (by omega) V162 ?_
 refine Run.o1 V158 ?_
 refine Run.lendG [(911, 7006)] V162 (c_fnum 8 (numB 8 n) (goB 0 l ++ r) 0 hn8 (by omega) (by omega)) V164 (.inl ⟨[], by simp only [go_sem] <;> rfl, rfl⟩) V162 V8 rfl (by decide) V46 V60 V44 V83 V162 ?_
 refine Run.o1 V158 ?_
 refine Run.nil (Exec.blk ?_)
 refine Exec.forA [1, 2, 3, 8, 9] [7006, 1000] (l.length) (fun k => [.slot 3 (.int (lastP 0 (l.take k))), .slot 9 (.int k), .slot 1 (.leaf (.own 1000 0 k k)), .obj 7006 (.cells [.d (intsD (biI (goB (lastP 0 (l.take k)) (l.drop k) ++ r))), .d (.i (oneP 0 l (0 + ((ones (numB 8 n) : Nat) : Int)) k))]), .obj 1000 (.arr 70 3 ((l.take k).map encPl))]) (fun _ => True) (fun k => by simp only [go_sem] <;> rfl) V80 ?_ (fun k hk hX => ?_)
 ·trivial
 ·skip
  refine Exec.reg ?_
  refine Run.o1 V158 ?_
  refine Run.nil ?_
  refine Exec.cndS V158 (fun hb10 => ?_) (fun hb10 => ?_)
  ·skip
   have hlt := (show k < l.length by have := of_decide_eq_true hb10; omega)
   obtain ⟨x, hx⟩ : ∃ x, l[k]? = some x := ⟨_, List.getElem?_eq_getElem (by omega)⟩
   obtain ⟨hlp, hcx⟩ := hca k (by omega)
   obtain ⟨g1, g2, g3⟩ := hcx x hx
   have hok : oneP 0 l (0 + ((ones (numB 8 n) : Nat) : Int)) (k + 1) = ((ones (plateB x (lastP 0 (l.take k))) : Nat) : Int) := by rw [oneP, hx]
   have htl : (l.take k).length = k := by rw [List.length_take]; omega
   have hts := take_snoc hx
   have hkb := hob k
   refine Exec.skipS (Exec.blk (Exec.reg ?_))
   have X := ((X.a g3).a hok).a htl
   iterate 2 (refine Run.o1 V158 ?_)
   have X := Fx.mk g2
   refine Run.lendG [(911, 7006)] V162 (c_fplW (goB x.num (l.drop (k + 1)) ++ r) (oneP 0 l (0 + ((ones (numB 8 n) : Nat) : Int)) k) g1 (by omega)) V164 (.inl ⟨[], by simp only [go_sem] <;> rfl, rfl⟩) V132 V8 rfl (by decide) V46 V49 V44 V83 V132 ?_
   have X := (((Fx.mk hv8).a g3).a hok).a htl
   iterate 2 (refine Run.o1 V158 ?_)
   refine Run.nil ?_
   refine Exec.opk1 10 ?_
   iterate 3 (refine OpenK.o1 V158 ?_)
   refine OpenK.o1 V7 ?_
   iterate 4 (refine OpenK.o1 V158 ?_)
   refine OpenK.nil (OpenE.fin V166 V166 ?_)
   refine BlkK.nrm (Exec.reg1 ?_)
   refine Run.o1 V67 ?_
   refine Run.o1 V158 ?_
   refine Run.nil ?_
   refine ForK.nxt ?_ ?_ ?_
   ·omega
   ·exact Ghost.kp [1, 2, 3, 8, 9] [7006, 1000] V18
   ·trivial
  ·skip
   have hke : k = l.length := by have := of_decide_eq_false hb10; omega
   subst hke
   have htk : l.take l.length = l := List.take_of_length_le (by omega)
   have hdk : l.drop l.length = [] := List.drop_eq_nil_of_le (by omega)
   have hta : List.take l.length (List.map encPl l) = List.map encPl l := List.take_of_length_le (by simp)
   have hir := biI_len r
   have gn := goB_nil
   have h00 : ((0 : Int) == 0) = true := rfl
   have hl8 : decide ((r.length : Int) < 8) = true := decide_eq_true (by omega)
   refine Exec.exitS (ForK.ext (BlkK.hit (Exec.reg ?_)))
   have X := Fx.mk hta
   refine Run.frz 1000 V158 ?_
   have X := (((((((Fx.mk htk).a hdk).a gn).a hta).a hir).a h00).a hl8).a hpe
   iterate 7 (refine Run.o1 V116 ?_)
   refine Run.y1 V116 ?_
   refine Run.calw V162 (c_platesError l (by omega)) V164 V116 V116 V74 (fr0) V116 ?_
   refine Run.y1 V116 ?_
   refine Run.o1 V116 ?_
   refine Run.c1 (c_need true rfl) V116 V116 ?_
   refine Run.nil (Exec.reg ?_)
   iterate 4 (refine Run.o1 V116 ?_)
   refine Run.nil (Exec.blk ?_)
   refine Exec.forA [1, 2] [7006] (r.length) (fun j => [.obj 7006 (.cells [.d (intsD (biI (r.drop j))), .d (.i ((ones (r.take j) : Nat) : Int))])]) (fun _ => True) (fun j => by simp only [go_sem] <;> rfl) V77 ?_ (fun j hj Xj => ?_)
   ·trivial
   ·skip
    refine Exec.assocS (Exec.reg ?_)
    iterate 6 (refine Run.o1 V116 ?_)
    refine Run.nil ?_
    refine Exec.cndS V116 (fun hb41 => ?_) (fun hb41 => ?_)
    ·skip
     have hbl := biI_len (r.drop j)
     rw [List.length_drop] at hbl
     have hjl : j < r.length := by have := of_decide_eq_true hb41; omega
     obtain ⟨e, he⟩ : ∃ e, r[j]? = some e := ⟨_, List.getElem?_eq_getElem (by omega)⟩
     have hdk : r.drop j = e :: r.drop (j + 1) := drop_get he
     have htk2 : ones (r.take (j + 1)) = ones (r.take j) + e.toNat := by rw [take_snoc he, ones_app, ones_one]
     have hoj := ones_take r j
     refine Exec.skipS (Exec.blk1 (Exec.reg1 ?_))
     refine Run.o1 V116 ?_
     have X := Fx.mk hdk
     refine Run.lendG [(911, 7006)] V162 (c_fbit e (r.drop (j + 1)) ((ones (r.take j) : Nat) : Int) (by omega)) V164 (.inl ⟨[], by simp only [go_sem] <;> rfl, rfl⟩) V158 V13 rfl (by decide) V46 V56 V44 V83 V158 ?_
     refine Run.nil (Blk1K.nrm ?_)
     refine ForK.nxt ?_ ?_ ?_
     ·omega
     ·exact Ghost.kp [1, 2] [7006] (by simp only [go_sem, htk, hdk, gn, List.nil_append, hta, hir, h00, List.length_map, hl8, hpe] <;> first | ((repeat' (first | with_reducible_and_instances rfl | refine st_eq ?_ ?_ ?_ | refine ret_eq ?_ | refine tup_eq ?_ | refine tm_eq ?_ ?_ | refine arr_eq ?_ | refine cells_eq ?_ | refine val_eq ?_ | refine ls_eq ?_ ?_ | refine own_eq ?_ ?_ | refine sl_eq ?_ | refine b_eq ?_ | (refine i_eq ?_; omega))); all_goals (first | omega | (rw [htk2]; omega))) | rfl)
     ·trivial
    ·skip
     have hbl := biI_len (r.drop j)
     rw [List.length_drop] at hbl
     have hje : j = r.length := by have := of_decide_eq_false hb41; omega
     have hrt : r.take j = r := List.take_of_length_le (by omega)
     have hof : (((ones r : Nat) : Int) == 0) = false := by simp; omega
     refine Exec.exitS (ForK.ext (BlkK.hit ?_))
     refine Exec.pan (pv := pvE) 5 rfl ?_
     have X := (X.a hrt).a hof
     iterate 5 (refine Run.o1 V116 ?_)
     exact Run.panc (p_need false rfl) V164 V116 V74 rfl
end Go.Mw
namespace Go.Mw
open Go.Proofs Go.Bk
theorem c_rd {b : Bs} {l : List Pl} (hb : b.length ≤ 1000000) (h : parseP b = some l) : Con Tryz.prog 72 [.leaf (.d (.pt [bysD b]))] [] (.ret (.leaf (.d (plsD l))) []) := by
 unfold parseP at h
 obtain ⟨⟨n, s⟩, h1, h⟩ := Option.bind_eq_some_iff.1 h
 obtain ⟨⟨l', r⟩, h2, h⟩ := Option.bind_eq_some_iff.1 h
 simp only at h2 h
 split at h
 ·next hc =>
  cases h
  obtain ⟨e1, hn⟩ := takeB_of h1
  obtain ⟨e2, hl, hw⟩ := platesS_W _ _ _ _ _ h2
  exact c_rdP b hb n l r (by rw [e1, e2]) hn hl hw hc.1 hc.2.1 hc.2.2
 ·cases h
theorem p_rd {b : Bs} (hb : b.length ≤ 1000000) (h : parseP b = none) : Pan Tryz.prog pvE 72 [.leaf (.d (.pt [bysD b]))] [] := by
 unfold parseP at h
 cases h1 : takeB 8 (unp b) with
 | none => exact p_rd0 b hb (takeB_none h1)
 | some p =>
  obtain ⟨n, s⟩ := p
  obtain ⟨e1, hn⟩ := takeB_of h1
  rw [h1] at h
  simp only [Option.bind_some] at h
  cases h2 : platesS n 0 s with
  | none =>
   obtain ⟨l, r, e2, hl, hw, hp⟩ := platesS_none _ _ _ h2
   exact p_rd1 b hb n l r (by rw [e1, e2]) hn hl hw hp
  | some q =>
   obtain ⟨l, r⟩ := q
   obtain ⟨e2, hl, hw⟩ := platesS_W _ _ _ _ _ h2
   rw [h2] at h
   simp only [Option.bind_some] at h
   have hu : unp b = numB 8 n ++ (goB 0 l ++ r) := by rw [e1, e2]
   by_cases g1 : r.length < 8
   ·by_cases g2 : platesE l = 0
    ·by_cases g3 : ones r = 0
     ·rw [if_pos ⟨g1, g2, g3⟩] at h; cases h
     ·exact p_rd4 b hb n l r hu hn hl hw g1 g2 g3
    ·exact p_rd3 b hb n l r hu hn hl hw g1 g2
   ·exact p_rd2 b hb n l r hu hn hl hw (by omega)
end Go.Mw
namespace Go.Mw
open Go.Proofs Go.RowKit
theorem tmps18 (a b v : Value) : #[a, b] ++ (((Array.replicate 16 undef).setIfInBounds 3 v).setIfInBounds 0 v) = #[a, b, v, undef, undef, v, undef, undef, undef, undef, undef, undef, undef, undef, undef, undef, undef, undef] := by kernel_rfl
theorem idle125 (p q : Addr) (w : World) : CallsD Tryz.prog 125 #[.pointer (some p), .pointer (some q)] .returning w fun e u' w' => e = .returned (.tuple #[]) ∧ u' = .returning ∧ w' = w := by
 refine callsD_of_wpS Tryz.func125 rfl fun c₀ cs hu => ?_
 apply wpS_seq
 apply wpS_region
 simp [wpOpsS, go_sem, recoverD, hu, Tryz.ntmps125, Exit.thenS]
 rw [tmps18]
 refine wpS_of_wp ?_
 have hnil : ∀ w : World, (binOp BinOp.neq 20 .nilIface .nilIface).run Tryz.prog w = .ok (.bool false) w := fun _ => by kernel_rfl
 have heg : ∀ w : World, (eqGuard BinOp.neq 20 (Operand.tmp 6) (Operand.const .nilIface) .nilIface .nilIface).run Tryz.prog w = .ok () w := fun _ => by kernel_rfl
 go_wp2
 cases c₀
 simp_all [bodyPostS, results, Tryz.results125, Exit.thenS]
theorem wrong125 (p q : Nat) (w : World) {cp cq : Value} {tp tq : TypeId} (hp : w.heap[p]? = some (.cells #[cp] tp (0, 0))) (hq : w.heap[q]? = some (.cells #[cq] tq (0, 0))) (hpq : p ≠ q) :
  CallsD Tryz.prog 125 #[.pointer (some ⟨p, 0, none⟩), .pointer (some ⟨q, 0, none⟩)] (.panicking [{ v := pvE, recovered := false }]) w fun e u' w' => e = .returned (.tuple #[]) ∧ u' = .panicking [{ v := pvE, recovered := true }] ∧
   w' = (((w.setCell ⟨p, 0, none⟩ (.slice none 0 0)).setCell ⟨q, 0, none⟩ (.int .i64 8)).alloc (.cells #[.int .i64 8] 172)).drew := by
 have mixed := mixedT
 refine callsD_of_wpS Tryz.func125 rfl fun c₀ cs hu => ?_
 apply wpS_seq
 apply wpS_region
 simp [wpOpsS, go_sem, recoverD, hu, Tryz.ntmps125, Exit.thenS]
 rw [tmps18]
 refine wpS_of_wp ?_
 have hnil : ∀ w : World, (binOp BinOp.neq 20 pvE .nilIface).run Tryz.prog w = .ok (.bool true) w := fun _ => by kernel_rfl
 have hta : ∀ w : World, (Instr.typeAssert pvE 20 172 true).run Tryz.prog w = .ok (.tuple #[.agg #[.int .i64 8], .bool true]) w := fun _ => by kernel_rfl
 have heg : ∀ w : World, (eqGuard BinOp.neq 20 (Operand.tmp 6) (Operand.const .nilIface) pvE .nilIface).run Tryz.prog w = .ok () w := fun _ => by kernel_rfl
 generalize hv : pvE = v at hnil hta heg ⊢
 have hlp := (Array.getElem?_eq_some_iff.1 hp).1
 have hlq := (Array.getElem?_eq_some_iff.1 hq).1
 have hpa : ∀ o, (w.alloc o).drew.heap[p]? = some (.cells #[cp] tp (0, 0)) := fun o => (Below.heap_alloc w o p hlp).trans hp
 have hqa : ∀ o, (w.alloc o).drew.heap[q]? = some (.cells #[cq] tq (0, 0)) := fun o => (Below.heap_alloc w o q hlq).trans hq
 have hna : ∀ o, (w.alloc o).drew.heap[w.heap.size]? = some o := fun o => heap_alloc_new w o
 have cpa : ∀ o, (w.alloc o).drew.cell? ⟨p, 0, none⟩ = some cp := fun o => by rw [Lib.cell_of_heap (hpa o)]; rfl
 have cqa : ∀ o, (w.alloc o).drew.cell? ⟨q, 0, none⟩ = some cq := fun o => by rw [Lib.cell_of_heap (hqa o)]; rfl
 have cna : (w.alloc (.cells #[.int .i64 8] 172)).drew.cell? ⟨w.heap.size, 0, none⟩ = some (.int .i64 8) := by rw [Lib.cell_of_heap (hna _)]; rfl
 have fpa : ∀ o, (w.alloc o).drew.frozen? ⟨p, 0, none⟩ = false := fun o => Lib.frozen_of_heap (hpa o) _
 have fqa : ∀ o, (w.alloc o).drew.frozen? ⟨q, 0, none⟩ = false := fun o => Lib.frozen_of_heap (hqa o) _
 have cp0 : w.cell? ⟨p, 0, none⟩ = some cp := by rw [Lib.cell_of_heap hp]; rfl
 have cq0 : w.cell? ⟨q, 0, none⟩ = some cq := by rw [Lib.cell_of_heap hq]; rfl
 have fp0 : w.frozen? ⟨p, 0, none⟩ = false := Lib.frozen_of_heap hp _
 have fq0 : w.frozen? ⟨q, 0, none⟩ = false := Lib.frozen_of_heap hq _
 have hqp : q ≠ p := fun h => hpq h.symm
 go_wp2
 go_region
 exact ⟨rfl, _, rfl, _, results_none rfl _ _ _, rfl, rfl, rfl⟩
theorem read71_ok (x : Value) (w : World) (G : Value → World → Prop)
  (hf : Calls Tryz.prog 72 #[x] ((w.alloc (.cells #[.slice none 0 0] 52)).alloc (.cells #[.int .i64 0] 35)) fun e w' => ∃ p n c, e = .returned (.slice p n c) ∧ G (.slice p n c) w' ∧
   w'.heap[w.heap.size]? = some (.cells #[.slice none 0 0] 52 (0, 0)) ∧ w'.heap[w.heap.size + 1]? = some (.cells #[.int .i64 0] 35 (0, 0))) :
  Calls Tryz.prog 71 #[.func (.func 72) #[] #[x]] w fun e w' => ∃ r w2, G r w2 ∧ e = .returned (.tuple #[r, .int .i64 0]) ∧ w' = (w2.setCell ⟨w.heap.size, 0, none⟩ r).setCell ⟨w.heap.size + 1, 0, none⟩ (.int .i64 0) := by
 have hmf : ∀ (fn : Fn) (first cap : Array Value) (w : World), (Instr.makeFunc fn first cap).run Tryz.prog w = .ok (.func fn first cap) w := fun _ _ _ _ => rfl
 go_enter_defers Tryz.func71, Tryz.ntmps71
 go_wp2_with (go_at_call 72; refine hf.mono ?_)
 rintro e w2 ⟨p, n, c, rfl, hG, h1, h2⟩
 have c1 : w2.cell? ⟨w.heap.size, 0, none⟩ = some (.slice none 0 0) := by rw [Lib.cell_of_heap h1]; rfl
 have c2 : w2.cell? ⟨w.heap.size + 1, 0, none⟩ = some (.int .i64 0) := by rw [Lib.cell_of_heap h2]; rfl
 have f1 : w2.frozen? ⟨w.heap.size, 0, none⟩ = false := Lib.frozen_of_heap h1 _
 have f2 : w2.frozen? ⟨w.heap.size + 1, 0, none⟩ = false := Lib.frozen_of_heap h2 _
 go_wp2
 have hne : w.heap.size ≠ w.heap.size + 1 := by omega
 have g1 : ((w2.setCell ⟨w.heap.size, 0, none⟩ (.slice p n c)).setCell ⟨w.heap.size + 1, 0, none⟩ (.int .i64 0)).heap[w.heap.size]? = some (.cells #[.slice p n c] 52 (0, 0)) :=
  (Below.heap_setCell _ ⟨w.heap.size + 1, 0, none⟩ _ _ hne).trans ((Lib.heap_setCell_same (i := 0) h1 (.slice p n c)).trans rfl)
 have g2 : ((w2.setCell ⟨w.heap.size, 0, none⟩ (.slice p n c)).setCell ⟨w.heap.size + 1, 0, none⟩ (.int .i64 0)).heap[w.heap.size + 1]? = some (.cells #[.int .i64 0] 35 (0, 0)) :=
  (Lib.heap_setCell_same (i := 0) ((Below.heap_setCell w2 ⟨w.heap.size, 0, none⟩ _ _ (fun h => hne h.symm)).trans h2) (.int .i64 0)).trans rfl
 have d1 : ((w2.setCell ⟨w.heap.size, 0, none⟩ (.slice p n c)).setCell ⟨w.heap.size + 1, 0, none⟩ (.int .i64 0)).cell? ⟨w.heap.size, 0, none⟩ = some (.slice p n c) := by rw [Lib.cell_of_heap g1]; rfl
 have d2 : ((w2.setCell ⟨w.heap.size, 0, none⟩ (.slice p n c)).setCell ⟨w.heap.size + 1, 0, none⟩ (.int .i64 0)).cell? ⟨w.heap.size + 1, 0, none⟩ = some (.int .i64 0) := by rw [Lib.cell_of_heap g2]; rfl
 refine leaves_cons (f := 125) (args := #[.pointer (some ⟨w.heap.size, 0, none⟩), .pointer (some ⟨w.heap.size + 1, 0, none⟩)]) (by simp) (by simp [go_sem]) ?_
 refine (idle125 ⟨w.heap.size, 0, none⟩ ⟨w.heap.size + 1, 0, none⟩ _).mono ?_
 rintro e u' w'' ⟨rfl, rfl, rfl⟩
 generalize hW : (w2.setCell ⟨w.heap.size, 0, none⟩ (.slice p n c)).setCell ⟨w.heap.size + 1, 0, none⟩ (.int .i64 0) = W at d1 d2 ⊢
 simp [Leaves, settle, results, Tryz.results71, go_sem, d1, d2]
 exact ⟨_, w2, hG, rfl, hW.symm⟩
theorem read71_pan (x : Value) (w : World) (G : World → Prop)
  (hf : Calls Tryz.prog 72 #[x] ((w.alloc (.cells #[.slice none 0 0] 52)).alloc (.cells #[.int .i64 0] 35)) fun e w' => e = .panicked (chain0 pvE) ∧ G w' ∧
   w'.heap[w.heap.size]? = some (.cells #[.slice none 0 0] 52 (0, 0)) ∧ w'.heap[w.heap.size + 1]? = some (.cells #[.int .i64 0] 35 (0, 0))) :
  Calls Tryz.prog 71 #[.func (.func 72) #[] #[x]] w fun e w' => ∃ w2, G w2 ∧ e = .returned (.tuple #[.slice none 0 0, .int .i64 8]) ∧ w' = (((w2.setCell ⟨w.heap.size, 0, none⟩ (.slice none 0 0)).setCell ⟨w.heap.size + 1, 0, none⟩ (.int .i64 8)).alloc (.cells #[.int .i64 8] 172)).drew := by
 have hmf : ∀ (fn : Fn) (first cap : Array Value) (w : World), (Instr.makeFunc fn first cap).run Tryz.prog w = .ok (.func fn first cap) w := fun _ _ _ _ => rfl
 go_enter_defers Tryz.func71, Tryz.ntmps71
 go_wp2_with (go_at_call 72; refine hf.mono ?_)
 rintro e w2 ⟨rfl, hG, h1, h2⟩
 go_wp2
 have hne : w.heap.size ≠ w.heap.size + 1 := by omega
 have hl2 := (Array.getElem?_eq_some_iff.1 h2).1
 have g1 : ((w2.setCell ⟨w.heap.size, 0, none⟩ (.slice none 0 0)).setCell ⟨w.heap.size + 1, 0, none⟩ (.int .i64 8)).heap[w.heap.size]? = some (.cells #[.slice none 0 0] 52 (0, 0)) :=
  (Below.heap_setCell _ ⟨w.heap.size + 1, 0, none⟩ _ _ hne).trans ((Lib.heap_setCell_same (i := 0) h1 (.slice none 0 0)).trans rfl)
 have g2 : ((w2.setCell ⟨w.heap.size, 0, none⟩ (.slice none 0 0)).setCell ⟨w.heap.size + 1, 0, none⟩ (.int .i64 8)).heap[w.heap.size + 1]? = some (.cells #[.int .i64 8] 35 (0, 0)) :=
  (Lib.heap_setCell_same (i := 0) ((Below.heap_setCell w2 ⟨w.heap.size, 0, none⟩ _ _ (fun h => hne h.symm)).trans h2) (.int .i64 8)).trans rfl
 have hs : ((w2.setCell ⟨w.heap.size, 0, none⟩ (.slice none 0 0)).setCell ⟨w.heap.size + 1, 0, none⟩ (.int .i64 8)).heap.size = w2.heap.size := by rw [sz_set, sz_set]
 refine leaves_cons (f := 125) (args := #[.pointer (some ⟨w.heap.size, 0, none⟩), .pointer (some ⟨w.heap.size + 1, 0, none⟩)]) (by simp) (by simp [go_sem]) ?_
 refine (wrong125 w.heap.size (w.heap.size + 1) w2 h1 h2 hne).mono ?_
 rintro e u' w'' ⟨rfl, rfl, rfl⟩
 generalize hW : (w2.setCell ⟨w.heap.size, 0, none⟩ (.slice none 0 0)).setCell ⟨w.heap.size + 1, 0, none⟩ (.int .i64 8) = W at g1 g2 hs ⊢
 have k1 : (W.alloc (.cells #[.int .i64 8] 172)).drew.heap[w.heap.size]? = some (.cells #[.slice none 0 0] 52 (0, 0)) := (Below.heap_alloc W _ _ (by omega)).trans g1
 have k2 : (W.alloc (.cells #[.int .i64 8] 172)).drew.heap[w.heap.size + 1]? = some (.cells #[.int .i64 8] 35 (0, 0)) := (Below.heap_alloc W _ _ (by omega)).trans g2
 have d1 : (W.alloc (.cells #[.int .i64 8] 172)).drew.cell? ⟨w.heap.size, 0, none⟩ = some (.slice none 0 0) := by rw [Lib.cell_of_heap k1]; rfl
 have d2 : (W.alloc (.cells #[.int .i64 8] 172)).drew.cell? ⟨w.heap.size + 1, 0, none⟩ = some (.int .i64 8) := by rw [Lib.cell_of_heap k2]; rfl
 generalize hV : (W.alloc (.cells #[.int .i64 8] 172)).drew = V at d1 d2 ⊢
 simp [Leaves, settle, results, Tryz.results71, go_sem, d1, d2]
 trace_state
 exact ⟨w2, hG, by rw [hW, hV]⟩
end Go.Mw
namespace Go.Mw
open Go.Proofs
open Go.Bk
theorem readOk71 : ReadOk Tryz.prog 71 72 52 35 := fun x w G h => read71_ok x w G h
theorem readPan71 : ReadPan Tryz.prog 71 72 pvE 52 35 172 := fun x w G h => read71_pan x w G h
def rdE (r : Option (List Pl)) : AV := match r with
 | some l => .tup [(false, [.d (plsD l)]), (false, [.d (.i 0)])]
 | none => .tup [(false, [.d (plsD [])]), (false, [.d (.i 8)])]
theorem c_read71 (b : Bs) (hb : b.length ≤ 1000000) : Contract Tryz.prog 71 [.leaf (.d (.fn 72 [.pt [bysD b]]))] (rdE (parseP b)) [] := by
 cases h : parseP b with
 | some l => exact con_readOk readOk71 (fun _ _ _ h => sl_slice h) (c_rd hb h)
 | none => exact con_readPan readPan71 (fun _ _ => RepD.nil _ _ _) (p_rd hb h)
theorem c_ReadPlates (b : Bs) (hb : b.length ≤ 1000000) : Contract Tryz.prog 27 [.leaf (.d (bysD b))] (rdE (parseP b)) [] := by
 have hcr := c_read71 b hb
 generalize parseP b = q at hcr ⊢
 rcases q with _ | l
 ·skip
  dsimp only [rdE] at hcr ⊢
  refine con_of follows_mixed Tryz.func27 rfl (by simp only [List.length_cons, List.length_nil, Tryz.ntmps27]; omega) V169 rfl ?_
  refine Exec.reg ?_
  iterate 3 (refine Run.o ?_)
  refine Run.nil (Exec.reg ?_)
  refine Run.frz 1 V162 ?_
  refine Run.o ?_
  refine Run.frz 4 V162 ?_
  refine Run.c1 (hcr) V162 V162 ?_
  iterate 4 (refine Run.o ?_)
  refine Run.nil ?_
  exact Ends.fin [] (rs := [.tmp 2, .tmp 3]) rfl V162 V137
 ·skip
  dsimp only [rdE] at hcr ⊢
  refine con_of follows_mixed Tryz.func27 rfl (by simp only [List.length_cons, List.length_nil, Tryz.ntmps27]; omega) V169 rfl ?_
  refine Exec.reg ?_
  iterate 3 (refine Run.o ?_)
  refine Run.nil (Exec.reg ?_)
  refine Run.frz 1 V162 ?_
  refine Run.o ?_
  refine Run.frz 4 V162 ?_
  refine Run.c1 (hcr) V162 V162 ?_
  iterate 4 (refine Run.o ?_)
  refine Run.nil ?_
  exact Ends.fin [] (rs := [.tmp 2, .tmp 3]) rfl V162 V137
end Go.Mw
namespace Go.Bk
theorem same_step {α : Type} {a b : List α} {k : Nat} {x : α} (hx : a[k]? = some x) (hy : b[k]? = some x) (h : a.take k = b.take k) : a.take (k + 1) = b.take (k + 1) := by
 rw [List.take_add_one, List.take_add_one, hx, hy, h]
theorem same_end {α : Type} {a b : List α} {k : Nat} (hl : a.length = b.length) (hk : a.length ≤ k) (h : a.take k = b.take k) : a = b := by
 rwa [List.take_of_length_le hk, List.take_of_length_le (by omega)] at h
end Go.Bk
namespace Go.Mw
open Go.Proofs
open Go.Bk
attribute [local go_sem] decide_true beq_self_eq_true bne_self_eq_false
def exS : List Sh := [⟨42, [⟨100, 500, 495⟩, ⟨1000, 2000, 2010⟩]⟩]
def exP : List Pl := [⟨5, 2, 9⟩, ⟨6, 2, 9⟩]
def exG : List Pg := [⟨7, [100, 110, 120, 130, 135]⟩, ⟨8, [5]⟩, ⟨9, []⟩]
def exSB : Bs := [35, 48, 48, 48, 48, 52, 50, 32, 54, 10, 32, 32, 32, 49, 48, 48, 32, 32, 32, 32, 32, 53, 48, 48, 32, 32, 32, 32, 32, 52, 57, 53, 32, 52, 10, 32, 32, 49, 48, 48, 48, 32, 32, 32, 32, 50, 48, 48, 48, 32, 32, 32, 32, 50, 48, 49, 48, 32, 54, 10]
def exPB : Bs := [2, 42, 0, 2, 116, 0, 4, 128]
def exGB : Bs := [55, 32, 49, 48, 48, 32, 51, 120, 49, 48, 32, 53, 10, 56, 32, 53, 10, 57, 10]
theorem exS_e : sheetsE exS = 0 := by decide +kernel
theorem exS_w : wSheets exS = exSB := by decide +kernel
theorem exP_e : platesE exP = 0 := by decide +kernel
theorem exP_w : wPlates exP = exPB := by decide +kernel
theorem exP_r : parseP exPB = some exP := by decide +kernel
theorem exG_e : pagesE exG = 0 := by decide +kernel
theorem exG_w : wPages exG = exGB := by decide +kernel
theorem c_exS : Contract Tryz.prog 62 [] (.leaf (.d (shsD exS))) [] := by
 refine con_of follows_mixed Tryz.func62 rfl (by simp only [List.length_cons, List.length_nil, Tryz.ntmps62]; omega) V169 rfl ?_
 refine Exec.reg ?_
 refine Run.o ?_
 refine Run.nil (Exec.reg ?_)
 iterate 3 (refine Run.o ?_)
 refine Run.frz 3 V162 ?_
 iterate 2 (refine Run.o ?_)
 refine Run.frz 5 V162 ?_
 refine Run.o ?_
 refine Run.nil ?_
 exact Ends.fin [] (rs := [.tmp 0]) rfl V162 V137
theorem c_exP : Contract Tryz.prog 63 [] (.leaf (.d (plsD exP))) [] := by
 refine con_of follows_mixed Tryz.func63 rfl (by simp only [List.length_cons, List.length_nil, Tryz.ntmps63]; omega) V169 rfl ?_
 refine Exec.reg ?_
 refine Run.o ?_
 refine Run.nil (Exec.reg ?_)
 iterate 3 (refine Run.o ?_)
 refine Run.frz 3 V162 ?_
 refine Run.o ?_
 refine Run.nil ?_
 exact Ends.fin [] (rs := [.tmp 0]) rfl V162 V137
theorem c_exG : Contract Tryz.prog 33 [] (.leaf (.d (pgsD exG))) [] := by
 refine con_of follows_mixed Tryz.func33 rfl (by simp only [List.length_cons, List.length_nil, Tryz.ntmps33]; omega) V169 rfl ?_
 refine Exec.reg ?_
 refine Run.o ?_
 refine Run.nil (Exec.reg ?_)
 refine Run.o ?_
 refine Run.frz 1 V162 ?_
 iterate 2 (refine Run.o ?_)
 refine Run.frz 3 V162 ?_
 iterate 2 (refine Run.o ?_)
 refine Run.nildA 5 1 1 V162 rfl V162 ?_
 refine Run.o ?_
 refine Run.frz 6 V162 ?_
 refine Run.o ?_
 refine Run.nil ?_
 exact Ends.fin [] (rs := [.tmp 0]) rfl V162 V137
end Go.Mw
namespace Go.Mw
open Go.Proofs
open Go.Bk
attribute [local go_sem] decide_true beq_self_eq_true bne_self_eq_false
theorem c_SamePlates (a b : List Pl) (ha : a.length ≤ 1000000) (hb : b.length ≤ 1000000) : Contract Tryz.prog 29 [.leaf (.d (plsD a)), .leaf (.d (plsD b))] (.bool (decide (a = b))) [] := by
 refine con_of follows_mixed Tryz.func29 rfl (by simp only [List.length_cons, List.length_nil, Tryz.ntmps29]; omega) V169 rfl ?_
 refine Exec.reg ?_
 refine Run.o ?_
 refine Run.nil (Exec.assocS (Exec.reg ?_))
 iterate 5 (refine Run.o ?_)
 refine Run.nil ?_
 refine Exec.cndS V162 (fun hb10 => ?_) (fun hb10 => ?_)
 ·skip
  have hne : ¬ a = b := fun h => by subst h; simp at hb10
  have hr : decide (a = b) = false := decide_eq_false hne
  refine Exec.assocS (Exec.reg ?_)
  have X := Fx.mk hr
  refine Run.o1 V158 ?_
  refine Run.nil (Exec.retS ?_)
  exact Ends.fin [] (rs := [.tmp 4]) rfl V158 V129
 ·skip
  have hll : a.length = b.length := by simp at hb10; omega
  refine Exec.skipS (Exec.assocS (Exec.reg ?_))
  refine Run.o ?_
  refine Run.nil (Exec.blk ?_)
  refine Exec.forA [0, 1, 5] [] (a.length) (fun k => [.slot 5 (.int k)]) (fun k => a.take k = b.take k) (fun k => by simp only [go_sem] <;> rfl) (by simp only [go_sem, Int.natCast_zero] <;> rfl) ?_ (fun k hk hX => ?_)
  ·rfl
  ·skip
   refine Exec.assocS (Exec.reg ?_)
   iterate 4 (refine Run.o ?_)
   refine Run.nil ?_
   refine Exec.cndS V162 (fun hb14 => ?_) (fun hb14 => ?_)
   ·skip
    have hlt := lt_of_dec hb14
    obtain ⟨x, hx⟩ := elem_of hb14
    obtain ⟨y, hy⟩ : ∃ y, b[k]? = some y := ⟨_, List.getElem?_eq_getElem (by omega)⟩
    refine Exec.skipS (Exec.blk ?_)
    refine Exec.opk 11 ?_
    have X := (Fx.mk hx).a hy
    iterate 2 (refine OpenK.o1 V158 ?_)
    refine OpenK.o1 V88 ?_
    iterate 3 (refine OpenK.o1 V158 ?_)
    refine OpenK.o1 V88 ?_
    iterate 2 (refine OpenK.o1 V158 ?_)
    refine OpenK.nil (OpenE.fin V166 V166 ?_)
    refine Exec.cnd V158 (fun hb25 => ?_) (fun hb25 => ?_)
    ·skip
     have hne : ¬ a = b := fun h => by subst h; rw [hx] at hy; cases hy; simp at hb25
     have hr : decide (a = b) = false := decide_eq_false hne
     refine Exec.reg ?_
     have X := X.a hr
     refine Run.o1 V158 ?_
     refine Run.nil (BlkK.ret (ForK.ret (BlkK.ret ?_)))
     exact Ends.fin [] (rs := [.tmp 4]) rfl V158 V129
    ·skip
     have hxy : x = y := by
      obtain ⟨x1, x2, x3⟩ := x
      obtain ⟨y1, y2, y3⟩ := y
      simp at hb25
      obtain ⟨e1, e2, e3⟩ := hb25
      subst e1 e2 e3; rfl
     subst hxy
     refine BlkK.nrm (Exec.reg1 ?_)
     refine Run.o1 V158 ?_
     refine Run.o1 V67 ?_
     refine Run.o1 V158 ?_
     refine Run.nil ?_
     refine ForK.nxt ?_ ?_ ?_
     ·omega
     ·exact Ghost.kp [0, 1, 5] [] V130
     ·exact same_step hx hy hX
   ·skip
    have heq := same_end hll (ge_of_dec hb14) hX
    have hr : decide (a = b) = true := decide_eq_true heq
    refine Exec.exitS (ForK.ext (BlkK.hit (Exec.reg ?_)))
    have X := Fx.mk hr
    refine Run.o1 V158 ?_
    refine Run.nil ?_
    exact Ends.fin [] (rs := [.tmp 4]) rfl V158 V129
theorem c_alive : Contract Tryz.prog 24 [] (.bool true) [] := by
 have k1 := c_WriteSheets exS (by decide) (by decide)
 rw [exS_w, exS_e] at k1
 have k2 := c_WritePlates exP (by decide)
 rw [exP_w, exP_e] at k2
 have k3 := c_WritePages exG (by decide) (by decide)
 rw [exG_w, exG_e] at k3
 have k4 := c_ReadPlates exPB (by decide)
 rw [exP_r] at k4
 have k5 := c_SamePlates exP exP (by decide) (by decide)
 rw [decide_eq_true (show exP = exP from rfl)] at k5
 have z0 : ((0 : Int) == 0) = true := rfl
 refine con_of follows_mixed Tryz.func24 rfl (by simp only [List.length_cons, List.length_nil, Tryz.ntmps24]; omega) V169 rfl ?_
 refine Exec.reg ?_
 have X := Fx.mk z0
 refine Run.o1 V158 ?_
 refine Run.nil (Exec.reg ?_)
 refine Run.c1 (c_exS) V158 V158 ?_
 refine Run.c1 (k1) V158 V158 ?_
 iterate 5 (refine Run.o1 V158 ?_)
 refine Run.nil (Exec.reg ?_)
 refine Run.c1 (c_exP) V158 V158 ?_
 refine Run.c1 (k2) V158 V158 ?_
 iterate 5 (refine Run.o1 V158 ?_)
 refine Run.nil (Exec.reg ?_)
 refine Run.c1 (c_exG) V158 V158 ?_
 refine Run.c1 (k3) V158 V158 ?_
 iterate 5 (refine Run.o1 V158 ?_)
 refine Run.nil (Exec.reg ?_)
 refine Run.o1 V158 ?_
 refine Run.c1 (k4) V158 V158 ?_
 iterate 5 (refine Run.o1 V158 ?_)
 refine Run.nil (Exec.reg ?_)
 iterate 3 (refine Run.o1 V158 ?_)
 iterate 2 (refine Run.y1 V158 ?_)
 iterate 2 (refine Run.o1 V158 ?_)
 refine Run.y1 V158 ?_
 refine Run.val (semV_btos Tryz.underlying53 Tryz.underlying5 Tryz.underlying9 (l := exPB) (.inl V162)) V162 V162 ?_
 refine Run.y1 V158 ?_
 iterate 2 (refine Run.o1 V158 ?_)
 iterate 2 (refine Run.y1 V158 ?_)
 iterate 2 (refine Run.o1 V158 ?_)
 iterate 2 (refine Run.y1 V158 ?_)
 iterate 2 (refine Run.o1 V158 ?_)
 iterate 2 (refine Run.y1 V158 ?_)
 iterate 2 (refine Run.o1 V158 ?_)
 refine Run.y1 V158 ?_
 refine Run.calw V162 (c_exP) V164 V158 V158 (by exact trivial) (fr0) V158 ?_
 refine Run.calw V162 (k5) V164 V158 V158 V32 (fr0) V158 ?_
 iterate 2 (refine Run.o1 V158 ?_)
 iterate 2 (refine Run.y1 V158 ?_)
 iterate 2 (refine Run.o1 V158 ?_)
 refine Run.nil ?_
 exact Ends.fin [] (rs := [.tmp 0]) rfl V158 V129
end Go.Mw

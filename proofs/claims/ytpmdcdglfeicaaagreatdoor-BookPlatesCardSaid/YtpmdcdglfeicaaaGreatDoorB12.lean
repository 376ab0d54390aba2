/- Bits as text of digits; plain laws, no program in sight. -/
import Derived.Test.YtpmdcdglfeicaaaGreatDoorPD
import Derived.Test.YtpmdcdglfeicaaaGreatDoorB10
import Derived.Test.YtpmdcdglfeicaaaGreatDoorB9
import Derived.Test.YtpmdcdglfeicaaaGreatDoorB11
set_option linter.unusedSimpArgs false
set_option linter.unusedVariables false
set_option linter.unusedSectionVars false
set_option linter.deprecated false
namespace Go.Bk
def bch (b : Bool) : UInt8 := bif b then 49 else 48
def bitS (s : Bits) : Bs := s.map bch
theorem bitS_len (s : Bits) : (bitS s).length = s.length := by simp [bitS]
theorem bitS_app (a b : Bits) : bitS (a ++ b) = bitS a ++ bitS b := by simp [bitS]
theorem bitS_rep (n : Nat) : bitS (List.replicate n false) = List.replicate n 48 := by simp [bitS, bch]
theorem bitS_get {s : Bits} {k : Nat} {b : Bool} (h : s[k]? = some b) : (bitS s)[k]? = some (bch b) := by
  unfold bitS; rw [List.getElem?_map, h]; rfl
theorem bch_nat (b : Bool) : (bch b).toNat = 48 + b.toNat := by cases b <;> rfl
def binB (n : Nat) : Bits := numB (bl n) n
theorem txt_bit {n : Nat} (h : n < 2) : txt n = bitS [n == 1] := by
  rcases (show n = 0 ∨ n = 1 by omega) with rfl | rfl
  · rw [txt_zero]; rfl
  · rw [txt_small (by omega)]; rfl
theorem binB_small {n : Nat} (h : n < 2) : binB n = [n == 1] := by
  unfold binB
  rw [bl_small h]
  show [] ++ [n % 2 == 1] = _
  rw [Nat.mod_eq_of_lt h]; rfl
theorem binB_big {n : Nat} (h : ¬ n < 2) : binB n = binB (n / 2) ++ [n % 2 == 1] := by
  unfold binB
  rw [bl_big h]; rfl
theorem binB_len (n : Nat) : (binB n).length = bl n := numB_len _ _
theorem pad_bin {n w : Nat} (h : n < 2 ^ w) (hw : 1 ≤ w) : pad 48 w (bitS (binB n)) = bitS (numB w n) := by
  have hl := bl_le h hw
  unfold pad
  rw [bitS_len, binB_len, ← bitS_rep, ← bitS_app]
  unfold binB
  rw [← numB_add (bl n) (w - bl n) n (bl_spec n).2.1, show w - bl n + bl n = w by omega]
theorem pad_gam {n : Nat} : pad 48 (2 * bl n - 1) (bitS (binB n)) = bitS (gammaB n) := by
  have h1 := (bl_spec n).1
  have h2 := (bl_spec n).2.1
  refine pad_bin (Nat.lt_of_lt_of_le h2 (Nat.pow_le_pow_right (by omega) (by omega))) (by omega)
theorem txt_mod (n : Nat) : txt (n % 2) = bitS [n % 2 == 1] := txt_bit (Nat.mod_lt _ (by omega))
end Go.Bk
namespace Go.Mw
open Go.Proofs
open Go.Bk
attribute [local go_sem] decide_true beq_self_eq_true bne_self_eq_false
set_option maxRecDepth 20000 in
/-- meterworks/meterworksref14.Binary -/
theorem c_Binary (n : Nat) : n < 9223372036854775808 → Contract Tryz.prog 78 [.int n] (.str (bitS (binB n))) [] := by
  induction n using Nat.strongRecOn
  rename_i n ih
  intro hn
  have htd : Int.tdiv (n : Int) 2 = ((n / 2 : Nat) : Int) := rfl
  have htm : Int.tmod (n : Int) 2 = ((n % 2 : Nat) : Int) := rfl
  refine con_of follows_mixed Tryz.func78 rfl (by simp only [List.length_cons, List.length_nil, Tryz.ntmps78]; omega) V221 rfl ?_
  refine Exec.reg ?_
  refine Run.o1 (by simp only [go_sem, htd, htm] <;> rfl) ?_
  refine Run.nil ?_
  refine Exec.assocS ?_
  refine Exec.reg ?_
  iterate 2 (refine Run.o1 (by simp only [go_sem, htd, htm] <;> rfl) ?_)
  refine Run.nil ?_
  refine Exec.cndS (by simp only [go_sem, htd, htm] <;> rfl) (fun hb4 => ?_) (fun hb4 => ?_)
  · skip
    have h2 : n < 2 := by have := of_decide_eq_true hb4; omega
    have ht := txt_bit h2
    have hb := binB_small h2
    refine Exec.assocS ?_
    refine Exec.reg ?_
    refine Run.o1 V163 ?_
    refine Run.c1 (c_Text n (by omega)) V163 V163 ?_
    refine Run.o1 V163 ?_
    refine Run.nil ?_
    refine Exec.retS ?_
    exact Ends.fin [] (rs := [.tmp 2]) rfl V163 (by simp only [go_sem, htd, htm, ht, hb] <;> first | rfl | exact eqz)
  · skip
    have h2 : ¬ n < 2 := by have := of_decide_eq_false hb4; omega
    have hb := binB_big h2
    have hm := txt_mod n
    have ha := bitS_app
    have hL1 := bitS_len (binB (n / 2))
    rw [binB_len] at hL1
    have hb63 := bl_le (n := n / 2) (k := 63) (by omega) (by omega)
    have hL2 := bitS_len [n % 2 == 1]
    rw [List.length_singleton] at hL2
    refine Exec.skipS ?_
    refine Exec.reg ?_
    refine Run.o1 V151 ?_
    refine Run.o1 V46 ?_
    refine Run.c1 (ih (n / 2) (by omega) (by omega)) V151 V151 ?_
    refine Run.o1 V151 ?_
    refine Run.o1 V46 ?_
    refine Run.c1 (c_Text (n % 2) (by omega)) V151 V151 ?_
    refine Run.o1 V46 ?_
    refine Run.o1 V151 ?_
    refine Run.nil ?_
    exact Ends.fin [] (rs := [.tmp 2]) rfl V151 (by simp only [go_sem, htd, htm, hb, hm, ha] <;> first | rfl | exact eqz)

set_option maxRecDepth 20000 in
/-- meterworks/meterworksref14.Gamma -/
theorem c_Gamma (n : Nat) (h1 : 1 ≤ n) (hn : n ≤ 65535) : Contract Tryz.prog 123 [.int n] (.str (bitS (gammaB n))) [] := by
  have hL := bitS_len (binB n)
  rw [binB_len] at hL
  have hb1 := (bl_spec n).1
  have hb2 := bl_le (n := n) (k := 16) (by omega) (by omega)
  have hp := pad_gam (n := n)
  have hcr := c_ref_wide (bitS (binB n)) 48 (2 * bl n - 1) (by omega) (by omega)
  rw [hp] at hcr
  refine con_of follows_mixed Tryz.func123 rfl (by simp only [List.length_cons, List.length_nil, Tryz.ntmps123]; omega) V221 rfl ?_
  refine Exec.reg ?_
  refine Run.o1 V211 ?_
  refine Run.nil ?_
  refine Exec.reg ?_
  refine Run.o1 V211 ?_
  refine Run.c1 (c_Binary n (by omega)) V211 V211 ?_
  refine Run.o1 V211 ?_
  refine Run.nil ?_
  refine Exec.reg ?_
  iterate 3 (refine Run.o1 V211 ?_)
  iterate 2 (refine Run.o1 (by simp only [go_sem, hL]; (try simp (disch := omega) only [IntWalk.i64_in, IntWalk.u64_in, IntWalk.i32_in, IntWalk.u8_in, if_neg, if_pos])<;> rfl) ?_)
  refine Run.c1 (hcr) V211 V211 ?_
  refine Run.o1 V211 ?_
  refine Run.nil ?_
  exact Ends.fin [] (rs := [.tmp 2]) rfl V211 (by simp only [go_sem, hL] <;> first | rfl | exact eqz)

set_option maxRecDepth 20000 in
/-- meterworks/meterworksref14.parity -/
theorem c_parity (s : Bits) (hs : s.length ≤ 100000) : Contract Tryz.prog 124 [.str (bitS s)] (.str (bitS [parB s])) [] := by
  have hsl := bitS_len s
  have h00 : s.take 0 = [] := rfl
  have hob := ones_le s
  have htm : Int.tmod ((ones s : Nat) : Int) 2 = ((ones s % 2 : Nat) : Int) := rfl
  refine con_of follows_mixed Tryz.func124 rfl (by simp only [List.length_cons, List.length_nil, Tryz.ntmps124]; omega) V221 rfl ?_
  refine Exec.reg ?_
  refine Run.o1 V202 ?_
  refine Run.nil ?_
  refine Exec.reg ?_
  refine Run.o1 V202 ?_
  refine Run.nil ?_
  refine Exec.assocS ?_
  refine Exec.reg ?_
  refine Run.o1 V202 ?_
  refine Run.nil ?_
  refine Exec.blk ?_
  refine Exec.forA [0, 3, 4] [] (s.length) (fun k => [.slot 3 (.int (ones (s.take k) : Nat)), .slot 4 (.int k)]) (fun _ => True) (fun k => by simp only [go_sem] <;> rfl) (by simp only [go_sem, hsl, Int.natCast_zero, h00, ones_nil] <;> rfl) ?_ (fun k hk hX => ?_)
  · trivial
  · skip
    refine Exec.assocS ?_
    refine Exec.reg ?_
    iterate 4 (refine Run.o1 V202 ?_)
    refine Run.nil ?_
    refine Exec.cndS V202 (fun hb8 => ?_) (fun hb8 => ?_)
    · skip
      have hlt : k < s.length := by have := of_decide_eq_true hb8; omega
      obtain ⟨b, hx⟩ : ∃ b, s[k]? = some b := ⟨_, List.getElem?_eq_getElem hlt⟩
      have hg := bitS_get hx
      have hbn : ((bch b).toNat : Int) - 48 = (b.toNat : Int) := by rw [bch_nat]; omega
      have hb1 : b.toNat ≤ 1 := by cases b <;> decide
      have hot := ones_take s k
      have hon : ones (s.take (k + 1)) = ones (s.take k) + b.toNat := by rw [take_snoc hx, ones_app, ones_one]
      have hw8 : IntKind.u8.wrap ((b.toNat : Nat) : Int) = ((b.toNat : Nat) : Int) := IntWalk.u8_in _ (by omega)
      refine Exec.skipS ?_
      refine Exec.blk ?_
      refine Exec.reg1 ?_
      iterate 4 (refine Run.o1 V159 ?_)
      iterate 3 (refine Run.o1 V50 ?_)
      refine Run.o1 V159 ?_
      refine Run.nil ?_
      refine BlkK.nrm ?_
      refine Exec.reg1 ?_
      refine Run.o1 V159 ?_
      refine Run.o1 V50 ?_
      refine Run.o1 V159 ?_
      refine Run.nil ?_
      refine ForK.nxt ?_ ?_ ?_
      · omega
      · exact Ghost.kp [0, 3, 4] [] (by simp only [go_sem, hsl, hg, hbn, hw8] <;> first | ((repeat' (first | with_reducible_and_instances rfl | refine st_eq ?_ ?_ ?_ | refine ret_eq ?_ | refine tup_eq ?_ | refine tm_eq ?_ ?_ | refine arr_eq ?_ | refine cells_eq ?_ | refine val_eq ?_ | refine ls_eq ?_ ?_ | refine own_eq ?_ ?_ | refine sl_eq ?_ | refine b_eq ?_ | (refine i_eq ?_; omega))); all_goals (first | omega | (rw [hon]; omega))) | rfl)
      · trivial
    · skip
      have hke : k = s.length := by have := of_decide_eq_false hb8; omega
      have htk : s.take k = s := List.take_of_length_le (by omega)
      have hpt : txt (ones s % 2) = bitS [parB s] := txt_mod (ones s)
      refine Exec.exitS ?_
      refine ForK.ext ?_
      refine BlkK.hit ?_
      refine Exec.reg ?_
      refine Run.o1 V155 ?_
      refine Run.o1 (by simp only [go_sem, hsl, htk, htm, hpt]; (try simp (disch := omega) only [IntWalk.i64_in, IntWalk.u64_in, IntWalk.i32_in, IntWalk.u8_in, if_neg, if_pos])<;> rfl) ?_
      refine Run.c1 (c_Text (ones s % 2) (by omega)) V155 V155 ?_
      refine Run.o1 V155 ?_
      refine Run.nil ?_
      exact Ends.fin [] (rs := [.tmp 2]) rfl V155 (by simp only [go_sem, hsl, htk, htm, hpt] <;> first | rfl | exact eqz)

attribute [local irreducible] numB gammaB binB parB
set_option maxRecDepth 20000 in
set_option maxHeartbeats 16000000 in
/-- meterworks/meterworksref14.bits -/
theorem c_bits (l : List Pl) (hch : chain 0 l) (hl : l.length ≤ 60) (hx65 : ∀ x ∈ l, x.num ≤ 65535) : Contract Tryz.prog 70 [.leaf (.d (plsD l))] (.str (bitS (bitsB l))) [] := by
  have hca0 := chain_at l 0 hch ⟨by omega, by omega⟩ hx65
  have hw8 := c_ref_wide (bitS (binB l.length)) 48 8 (by rw [bitS_len, binB_len]; have := bl_le (n := l.length) (k := 8) (by omega) (by omega); omega) (by omega)
  rw [pad_bin (n := l.length) (w := 8) (by omega) (by omega)] at hw8
  refine con_of follows_mixed Tryz.func70 rfl (by simp only [List.length_cons, List.length_nil, Tryz.ntmps70]; omega) V221 rfl ?_
  refine Exec.reg ?_
  refine Run.o ?_
  refine Run.nil ?_
  refine Exec.reg ?_
  iterate 2 (refine Run.o ?_)
  refine Run.c1 (c_Binary l.length (by omega)) V215 V215 ?_
  refine Run.c1 (hw8) V215 V215 ?_
  refine Run.o ?_
  refine Run.nil ?_
  refine Exec.reg ?_
  refine Run.o ?_
  refine Run.nil ?_
  refine Exec.assocS ?_
  refine Exec.reg ?_
  refine Run.o ?_
  refine Run.nil ?_
  refine Exec.blk ?_
  refine Exec.forA [0, 3, 4, 5] [] (l.length) (fun k => [.slot 3 (.str (bitS (numB 8 l.length ++ goB 0 (l.take k)))), .slot 4 (.int (lastP 0 (l.take k))), .slot 5 (.int k)]) (fun _ => True) (fun k => by simp only [go_sem] <;> rfl) (by simp only [go_sem, Int.natCast_zero, List.take_zero, lastP_nil, goB_nil, List.append_nil] <;> rfl) ?_ (fun k hk hX => ?_)
  · trivial
  · skip
    refine Exec.assocS ?_
    refine Exec.reg ?_
    iterate 4 (refine Run.o ?_)
    refine Run.nil ?_
    refine Exec.cndS V215 (fun hb14 => ?_) (fun hb14 => ?_)
    · skip
      have hlt := lt_of_dec hb14
      obtain ⟨x, hx⟩ := elem_of hb14
      obtain ⟨hgl, hlp, _, hfx⟩ := hca0 k
      have hf := hfx x hx
      have hpl := plateB_len hf
      obtain ⟨⟨f1, f2⟩, ⟨f3, f4⟩, f5, f6⟩ := hf
      have hwc := c_ref_wide (bitS (binB x.cls.toNat)) 48 3 (by rw [bitS_len, binB_len]; have := bl_le (n := x.cls.toNat) (k := 3) (by omega) (by omega); omega) (by omega)
      rw [pad_bin (n := x.cls.toNat) (w := 3) (by omega) (by omega)] at hwc
      have hwd := c_ref_wide (bitS (binB x.day.toNat)) 48 18 (by rw [bitS_len, binB_len]; have := bl_le (n := x.day.toNat) (k := 18) (by omega) (by omega); omega) (by omega)
      rw [pad_bin (n := x.day.toNat) (w := 18) (by omega) (by omega)] at hwd
      have hbd : bitS (gammaB (x.num - (lastP 0 (l.take k))).toNat) ++ bitS (numB 3 x.cls.toNat) ++ bitS (numB 18 x.day.toNat) = bitS (bodyB x (lastP 0 (l.take k))) := by unfold bodyB; rw [bitS_app, bitS_app, List.append_assoc]
      have n8 := numB_len 8 l.length
      have L0 := bitS_len (numB 8 l.length ++ goB 0 (l.take k))
      rw [List.length_append, n8] at L0
      have L1 := bitS_len (gammaB (x.num - (lastP 0 (l.take k))).toNat)
      have L1b := gammaB_len (x.num - (lastP 0 (l.take k))).toNat
      have bk := bl_le (n := (x.num - (lastP 0 (l.take k))).toNat) (k := 16) (by omega) (by omega)
      have L2 := bitS_len (numB 3 x.cls.toNat)
      rw [numB_len] at L2
      have L3 := bitS_len (numB 18 x.day.toNat)
      rw [numB_len] at L3
      have L4 := bitS_len (bodyB x (lastP 0 (l.take k)))
      have L4b : (bodyB x (lastP 0 (l.take k))).length = (gammaB (x.num - (lastP 0 (l.take k))).toNat).length + (3 + 18) := by unfold bodyB; rw [List.length_append, List.length_append, numB_len, numB_len]
      have L5 := bitS_len [parB (bodyB x (lastP 0 (l.take k)))]
      rw [List.length_singleton] at L5
      have hts := take_snoc hx
      have hg : bitS (numB 8 l.length ++ goB 0 (l.take (k + 1))) = bitS (numB 8 l.length ++ goB 0 (l.take k)) ++ bitS (bodyB x (lastP 0 (l.take k))) ++ bitS [parB (bodyB x (lastP 0 (l.take k)))] := by rw [hts, goB_snoc, ← List.append_assoc, bitS_app, show plateB x (lastP 0 (l.take k)) = bodyB x (lastP 0 (l.take k)) ++ [parB (bodyB x (lastP 0 (l.take k)))] by rw [plateB], bitS_app (bodyB _ _)]; simp only [List.append_assoc]
      have hp : lastP 0 (l.take (k + 1)) = x.num := by rw [hts, lastP_snoc]
      refine Exec.skipS ?_
      refine Exec.blk ?_
      refine Exec.opk 27 ?_
      iterate 2 (refine OpenK.o1 V165 ?_)
      refine OpenK.o1 V73 ?_
      iterate 3 (refine OpenK.o1 V165 ?_)
      refine OpenK.o1 V51 ?_
      refine OpenK.cal (c_Gamma (x.num - (lastP 0 (l.take k))).toNat (by omega) (by omega)) V217 V165 V69 (fr0) V165 V215 V215 ?_
      iterate 2 (refine OpenK.o1 V165 ?_)
      refine OpenK.o1 V73 ?_
      iterate 2 (refine OpenK.o1 V165 ?_)
      refine OpenK.cal (c_Binary x.cls.toNat (by omega)) V217 V165 V69 (fr0) V165 V215 V215 ?_
      refine OpenK.cal (hwc) V217 V165 V10 (fr0) V165 V215 V215 ?_
      refine OpenK.o1 V51 ?_
      iterate 2 (refine OpenK.o1 V165 ?_)
      refine OpenK.o1 V73 ?_
      iterate 2 (refine OpenK.o1 V165 ?_)
      refine OpenK.cal (c_Binary x.day.toNat (by omega)) V217 V165 V69 (fr0) V165 V215 V215 ?_
      refine OpenK.cal (hwd) V217 V165 V10 (fr0) V165 V215 V215 ?_
      refine OpenK.o1 V51 ?_
      refine OpenK.o1 V165 ?_
      refine OpenK.nil (OpenE.finT V221 V221 V221 ?_)
      refine Exec.reg ?_
      iterate 2 (refine Run.o1 V165 ?_)
      refine Run.o1 V51 ?_
      refine Run.o1 V165 ?_
      refine Run.c1 (c_parity (bodyB x (lastP 0 (l.take k))) (by omega)) V165 V165 ?_
      refine Run.o1 V51 ?_
      refine Run.o1 V165 ?_
      refine Run.nil ?_
      refine Exec.reg1 ?_
      iterate 2 (refine Run.o1 V165 ?_)
      refine Run.o1 V73 ?_
      iterate 3 (refine Run.o1 V165 ?_)
      refine Run.nil ?_
      refine BlkK.nrm ?_
      refine Exec.reg1 ?_
      refine Run.o1 V165 ?_
      refine Run.o1 V51 ?_
      refine Run.o1 V165 ?_
      refine Run.nil ?_
      refine ForK.nxt ?_ ?_ ?_
      · omega
      · exact Ghost.kp [0, 3, 4, 5] [] (by simp only [go_sem, hx, hbd, hg, hp] <;> first | exact eqz | rfl)
      · trivial
    · skip
      have hke := ge_of_dec hb14
      have htk : l.take k = l := List.take_of_length_le hke
      have hbb : bitS (numB 8 l.length ++ goB 0 l) = bitS (bitsB l) := rfl
      refine Exec.exitS ?_
      refine ForK.ext ?_
      refine BlkK.hit ?_
      refine Exec.reg ?_
      iterate 2 (refine Run.o1 (by simp only [go_sem, htk, hbb] <;> rfl) ?_)
      refine Run.nil ?_
      exact Ends.fin [] (rs := [.tmp 2]) rfl (by simp only [go_sem, htk, hbb] <;> rfl) (by simp only [go_sem, htk, hbb] <;> first | rfl | exact eqz)

end Go.Mw
namespace Go.Mw
open Go.Proofs
open Go.Bk
attribute [local go_sem] decide_true beq_self_eq_true bne_self_eq_false
set_option maxRecDepth 20000 in
/-- meterworks/meterworksref14.number -/
theorem c_rnum (many : Nat) (a r : Bits) (ha : a.length = many) (hm : many ≤ 62) (hr : r.length ≤ 100000000) : Contract Tryz.prog 79 [.str (bitS (a ++ r)), .int many] (.tup [(false, [.d (.i (valB a : Nat))]), (false, [.d (.raw (.string (bs (bitS r))))]), (false, [.d (.raw (.bool true))])]) [] := by
  have hsl := bitS_len (a ++ r)
  rw [List.length_append] at hsl
  have h00 : a.take 0 = [] := rfl
  have hge : decide (((a.length + r.length : Nat) : Int) < (many : Int)) = false := decide_eq_false (by omega)
  have hge2 : decide ((a.length : Int) + (r.length : Int) < (many : Int)) = false := decide_eq_false (by omega)
  have hdr : (bitS (a ++ r)).drop many = bitS r := by rw [bitS_app, List.drop_left' (by rw [bitS_len]; exact ha)]
  refine con_of follows_mixed Tryz.func79 rfl (by simp only [List.length_cons, List.length_nil, Tryz.ntmps79]; omega) V221 rfl ?_
  refine Exec.reg ?_
  iterate 3 (refine Run.o1 V168 ?_)
  refine Run.nil ?_
  refine Exec.assocS ?_
  refine Exec.reg ?_
  iterate 4 (refine Run.o1 V168 ?_)
  refine Run.nil ?_
  refine Exec.cndS V168 (fun hb12 => ?_) (fun hb12 => ?_)
  · exact absurd hb12 (by simp)
  · skip
    refine Exec.skipS ?_
    refine Exec.reg ?_
    refine Run.o1 V168 ?_
    refine Run.nil ?_
    refine Exec.assocS ?_
    refine Exec.reg ?_
    refine Run.o1 V168 ?_
    refine Run.nil ?_
    refine Exec.blk ?_
    refine Exec.forA [0, 1, 7, 8] [] (many) (fun k => [.slot 7 (.int (valB (a.take k) : Nat)), .slot 8 (.int k)]) (fun _ => True) (fun k => by simp only [go_sem] <;> rfl) (by simp only [go_sem, hsl, hge, hge2, Int.natCast_zero, h00, valB_nil] <;> rfl) ?_ (fun k hk hX => ?_)
    · trivial
    · skip
      refine Exec.assocS ?_
      refine Exec.reg ?_
      iterate 3 (refine Run.o1 V168 ?_)
      refine Run.nil ?_
      refine Exec.cndS V168 (fun hb15 => ?_) (fun hb15 => ?_)
      · skip
        have hlt : k < many := by have := of_decide_eq_true hb15; omega
        obtain ⟨b, hx⟩ : ∃ b, a[k]? = some b := ⟨_, List.getElem?_eq_getElem (by omega)⟩
        have hg := bitS_get (s := a ++ r) (k := k) (b := b) (by rw [List.getElem?_append_left (by omega)]; exact hx)
        have hbn : ((bch b).toNat : Int) - 48 = (b.toNat : Int) := by rw [bch_nat]; omega
        have hb1 : b.toNat ≤ 1 := by cases b <;> decide
        have hvb := valB_63 ha (by omega) hm (k := k)
        have hvn : valB (a.take (k + 1)) = 2 * valB (a.take k) + b.toNat := by rw [take_snoc hx, valB_snoc]
        have hw8 : IntKind.u8.wrap ((b.toNat : Nat) : Int) = ((b.toNat : Nat) : Int) := IntWalk.u8_in _ (by omega)
        refine Exec.skipS ?_
        refine Exec.blk ?_
        refine Exec.reg1 ?_
        refine Run.o1 V134 ?_
        refine Run.o1 V39 ?_
        iterate 3 (refine Run.o1 V134 ?_)
        iterate 3 (refine Run.o1 V39 ?_)
        refine Run.o1 V134 ?_
        refine Run.nil ?_
        refine BlkK.nrm ?_
        refine Exec.reg1 ?_
        refine Run.o1 V134 ?_
        refine Run.o1 V39 ?_
        refine Run.o1 V134 ?_
        refine Run.nil ?_
        refine ForK.nxt ?_ ?_ ?_
        · omega
        · exact Ghost.kp [0, 1, 7, 8] [] (by simp only [go_sem, hsl, hge, hge2, hg, hbn, hw8] <;> first | ((repeat' (first | with_reducible_and_instances rfl | refine st_eq ?_ ?_ ?_ | refine ret_eq ?_ | refine tup_eq ?_ | refine tm_eq ?_ ?_ | refine arr_eq ?_ | refine cells_eq ?_ | refine val_eq ?_ | refine ls_eq ?_ ?_ | refine own_eq ?_ ?_ | refine sl_eq ?_ | refine b_eq ?_ | (refine i_eq ?_; omega))); all_goals (first | omega | (rw [hvn]; omega))) | rfl)
        · trivial
      · skip
        have hke : k = many := by have := of_decide_eq_false hb15; omega
        have htk : a.take k = a := List.take_of_length_le (by omega)
        have htl : (bitS (a ++ r)).take (a.length + r.length) = bitS (a ++ r) := List.take_of_length_le (by omega)
        refine Exec.exitS ?_
        refine ForK.ext ?_
        refine BlkK.hit ?_
        refine Exec.opk 9 ?_
        iterate 3 (refine OpenK.o1 V132 ?_)
        refine OpenK.o1 (by simp only [go_sem, hsl, hge, hge2, htk, htl, hdr]; (try simp (disch := omega) only [if_pos]); (try simp only [go_sem, hsl, hge, hge2, htk, htl, hdr])<;> rfl) ?_
        iterate 3 (refine OpenK.o1 V132 ?_)
        refine OpenK.nil (OpenE.fin V219 V219 ?_)
        exact Ends.fin [] (rs := [.tmp 4, .tmp 5, .tmp 6]) rfl V132 (by simp only [go_sem, hsl, hge, hge2, htk, htl, hdr] <;> first | rfl | exact eqz)

set_option maxRecDepth 20000 in
/-- meterworks/meterworksref14.number -/
theorem c_rnum0 (many : Nat) (s : Bits) (hs : s.length < many) (hm : many ≤ 62) : Contract Tryz.prog 79 [.str (bitS s), .int many] (.tup [(false, [.d (.i 0)]), (false, [.d (.raw (.string (bs [])))]), (false, [.d (.raw (.bool false))])]) [] := by
  have hsl := bitS_len s
  have hlt : decide ((s.length : Int) < (many : Int)) = true := decide_eq_true (by omega)
  refine con_of follows_mixed Tryz.func79 rfl (by simp only [List.length_cons, List.length_nil, Tryz.ntmps79]; omega) V221 rfl ?_
  refine Exec.reg ?_
  iterate 3 (refine Run.o1 V186 ?_)
  refine Run.nil ?_
  refine Exec.assocS ?_
  refine Exec.reg ?_
  iterate 4 (refine Run.o1 V186 ?_)
  refine Run.nil ?_
  refine Exec.cndS V186 (fun hb12 => ?_) (fun hb12 => ?_)
  · skip
    refine Exec.assocS ?_
    refine Exec.reg ?_
    iterate 3 (refine Run.o1 V186 ?_)
    refine Run.nil ?_
    refine Exec.retS ?_
    exact Ends.fin [] (rs := [.tmp 4, .tmp 5, .tmp 6]) rfl V186 (by simp only [go_sem, hsl, hlt] <;> first | rfl | exact eqz)
  · exact absurd hb12 (by simp)

set_option maxRecDepth 20000 in
set_option maxHeartbeats 8000000 in
/-- meterworks/meterworksref14.Plates -/
theorem c_ref_Plates (l : List Pl) (hl : l.length ≤ 1000) : Contract Tryz.prog 39 [.leaf (.d (plsD l))] (.int (platesE l)) [] := by
  have hpe : platesE l = errB l.length 60 (l.all plateOK) (rises (l.map Pl.num)) := rfl
  refine con_of follows_mixed Tryz.func39 rfl (by simp only [List.length_cons, List.length_nil, Tryz.ntmps39]; omega) V221 rfl ?_
  refine Exec.reg ?_
  refine Run.o ?_
  refine Run.nil ?_
  refine Exec.assocS ?_
  refine Exec.reg ?_
  iterate 3 (refine Run.o ?_)
  refine Run.nil ?_
  refine Exec.cndS V215 (fun hb7 => ?_) (fun hb7 => ?_)
  · skip
    have h1 : 60 < l.length := by have := of_decide_eq_true hb7; omega
    have hr := err3 (l.all plateOK) (rises (l.map Pl.num)) h1
    refine Exec.assocS ?_
    refine Exec.reg ?_
    refine Run.o1 (by simp only [go_sem, hpe, hr] <;> rfl) ?_
    refine Run.nil ?_
    refine Exec.retS ?_
    exact Ends.fin [] (rs := [.tmp 2]) rfl (by simp only [go_sem, hpe, hr] <;> rfl) (by simp only [go_sem, hpe, hr] <;> first | rfl | exact eqz)
  · skip
    have hle : l.length ≤ 60 := by have := of_decide_eq_false hb7; omega
    refine Exec.skipS ?_
    refine Exec.assocS ?_
    refine Exec.reg ?_
    refine Run.o ?_
    refine Run.nil ?_
    refine Exec.blk ?_
    refine Exec.forA [0, 3] [] (l.length) (fun k => [.slot 3 (.int k)]) (fun k => (l.take k).all plateOK = true) (fun k => by simp only [go_sem] <;> rfl) V162 ?_ (fun k hk hX => ?_)
    · rfl
    · skip
      refine Exec.assocS ?_
      refine Exec.reg ?_
      iterate 4 (refine Run.o ?_)
      refine Run.nil ?_
      refine Exec.cndS V215 (fun hb11 => ?_) (fun hb11 => ?_)
      · skip
        have hlt := lt_of_dec hb11
        obtain ⟨x, hx⟩ := elem_of hb11
        refine Exec.skipS ?_
        refine Exec.blk ?_
        by_cases g1 : inD x.num 1 65535 = true
        · skip
          by_cases g2 : inD x.cls 0 7 = true
          · skip
            by_cases g3 : inD x.day 0 131072 = true
            · skip
              refine Exec.reg ?_
              iterate 2 (refine Run.o1 V96 ?_)
              refine Run.o1 V20 ?_
              iterate 2 (refine Run.o1 V96 ?_)
              refine Run.c1 (c_ref_in x.num 1 65535) V96 V96 ?_
              iterate 2 (refine Run.o1 V96 ?_)
              iterate 2 (refine Run.y1 V96 ?_)
              refine Run.y1 V20 ?_
              iterate 2 (refine Run.y1 V96 ?_)
              refine Run.calw V215 (c_ref_in x.cls 0 7) V217 V96 V96 V10 (fr0) V96 ?_
              refine Run.y1 V96 ?_
              iterate 2 (refine Run.o1 V96 ?_)
              iterate 2 (refine Run.y1 V96 ?_)
              refine Run.y1 V20 ?_
              iterate 2 (refine Run.y1 V96 ?_)
              refine Run.calw V215 (c_ref_in x.day 0 131072) V217 V96 V96 V10 (fr0) V96 ?_
              refine Run.y1 V96 ?_
              refine Run.o1 V96 ?_
              refine Run.nil ?_
              refine Exec.cnd V96 (fun hb38 => ?_) (fun hb38 => ?_)
              · exact absurd hb38 (by simp)
              · skip
                have hok : plateOK x = true := by unfold plateOK; rw [g1, g2, g3]; rfl
                refine BlkK.nrm ?_
                refine Exec.reg1 ?_
                refine Run.o1 V96 ?_
                refine Run.o1 (by simp only [go_sem, hx, g1, Bool.not_true, g2, Bool.not_true, g3, Bool.not_true]; (try simp (disch := omega) only [IntWalk.i64_in, IntWalk.u64_in, IntWalk.i32_in, IntWalk.u8_in, if_neg, if_pos])<;> rfl) ?_
                refine Run.o1 V96 ?_
                refine Run.nil ?_
                refine ForK.nxt ?_ ?_ ?_
                · omega
                · exact Ghost.kp [0, 3] [] (by simp only [go_sem, hx, g1, Bool.not_true, g2, Bool.not_true, g3, Bool.not_true] <;> first | exact eqz | rfl)
                · exact by rw [take_snoc hx, List.all_append, hX]; simp [hok]
            · skip
              have g3 : inD x.day 0 131072 = false := by simpa using g3
              refine Exec.reg ?_
              iterate 2 (refine Run.o1 V95 ?_)
              refine Run.o1 V18 ?_
              iterate 2 (refine Run.o1 V95 ?_)
              refine Run.c1 (c_ref_in x.num 1 65535) V95 V95 ?_
              iterate 2 (refine Run.o1 V95 ?_)
              iterate 2 (refine Run.y1 V95 ?_)
              refine Run.y1 V18 ?_
              iterate 2 (refine Run.y1 V95 ?_)
              refine Run.calw V215 (c_ref_in x.cls 0 7) V217 V95 V95 V10 (fr0) V95 ?_
              refine Run.y1 V95 ?_
              iterate 2 (refine Run.o1 V95 ?_)
              iterate 2 (refine Run.y1 V95 ?_)
              refine Run.y1 V18 ?_
              iterate 2 (refine Run.y1 V95 ?_)
              refine Run.calw V215 (c_ref_in x.day 0 131072) V217 V95 V95 V10 (fr0) V95 ?_
              refine Run.y1 V95 ?_
              refine Run.o1 V95 ?_
              refine Run.nil ?_
              refine Exec.cnd V95 (fun hb38 => ?_) (fun hb38 => ?_)
              · skip
                have hbad : plateOK x = false := by unfold plateOK; simp [g1, g2, g3]
                have hna : l.all plateOK = false := by
                  cases h : l.all plateOK with
                  | false => rfl
                  | true => have := all_at h hx; rw [hbad] at this; cases this
                have hr := err1 (rises (l.map Pl.num)) hle
                refine Exec.reg ?_
                refine Run.o1 (by simp only [go_sem, hx, g1, Bool.not_true, g2, Bool.not_true, g3, Bool.not_false, hpe, hna, hr] <;> rfl) ?_
                refine Run.nil ?_
                refine BlkK.ret ?_
                refine ForK.ret ?_
                refine BlkK.ret ?_
                exact Ends.fin [] (rs := [.tmp 2]) rfl (by simp only [go_sem, hx, g1, Bool.not_true, g2, Bool.not_true, g3, Bool.not_false, hpe, hna, hr] <;> rfl) (by simp only [go_sem, hx, g1, Bool.not_true, g2, Bool.not_true, g3, Bool.not_false, hpe, hna, hr] <;> first | rfl | exact eqz)
              · exact absurd hb38 (by simp)
          · skip
            have g2 : inD x.cls 0 7 = false := by simpa using g2
            refine Exec.reg ?_
            iterate 2 (refine Run.o1 V111 ?_)
            refine Run.o1 V34 ?_
            iterate 2 (refine Run.o1 V111 ?_)
            refine Run.c1 (c_ref_in x.num 1 65535) V111 V111 ?_
            iterate 2 (refine Run.o1 V111 ?_)
            iterate 2 (refine Run.y1 V111 ?_)
            refine Run.y1 V34 ?_
            iterate 2 (refine Run.y1 V111 ?_)
            refine Run.calw V215 (c_ref_in x.cls 0 7) V217 V111 V111 V10 (fr0) V111 ?_
            refine Run.y1 V111 ?_
            iterate 2 (refine Run.o1 V111 ?_)
            iterate 7 (refine Run.s ?_)
            refine Run.o1 V111 ?_
            refine Run.nil ?_
            refine Exec.cnd V111 (fun hb38 => ?_) (fun hb38 => ?_)
            · skip
              have hbad : plateOK x = false := by unfold plateOK; simp [g1, g2]
              have hna : l.all plateOK = false := by
                cases h : l.all plateOK with
                | false => rfl
                | true => have := all_at h hx; rw [hbad] at this; cases this
              have hr := err1 (rises (l.map Pl.num)) hle
              refine Exec.reg ?_
              refine Run.o1 (by simp only [go_sem, hx, g1, Bool.not_true, g2, Bool.not_false, hpe, hna, hr] <;> rfl) ?_
              refine Run.nil ?_
              refine BlkK.ret ?_
              refine ForK.ret ?_
              refine BlkK.ret ?_
              exact Ends.fin [] (rs := [.tmp 2]) rfl (by simp only [go_sem, hx, g1, Bool.not_true, g2, Bool.not_false, hpe, hna, hr] <;> rfl) (by simp only [go_sem, hx, g1, Bool.not_true, g2, Bool.not_false, hpe, hna, hr] <;> first | rfl | exact eqz)
            · exact absurd hb38 (by simp)
        · skip
          have g1 : inD x.num 1 65535 = false := by simpa using g1
          refine Exec.reg ?_
          iterate 2 (refine Run.o1 V144 ?_)
          refine Run.o1 (by simp only [go_sem, hx, g1, Bool.not_false]; (try simp (disch := omega) only [if_pos]); (try simp only [go_sem, hx, g1, Bool.not_false])<;> rfl) ?_
          iterate 2 (refine Run.o1 V144 ?_)
          refine Run.c1 (c_ref_in x.num 1 65535) V144 V144 ?_
          iterate 2 (refine Run.o1 V144 ?_)
          iterate 7 (refine Run.s ?_)
          iterate 2 (refine Run.o1 V144 ?_)
          iterate 7 (refine Run.s ?_)
          refine Run.o1 V144 ?_
          refine Run.nil ?_
          refine Exec.cnd V144 (fun hb38 => ?_) (fun hb38 => ?_)
          · skip
            have hbad : plateOK x = false := by unfold plateOK; simp [g1]
            have hna : l.all plateOK = false := by
              cases h : l.all plateOK with
              | false => rfl
              | true => have := all_at h hx; rw [hbad] at this; cases this
            have hr := err1 (rises (l.map Pl.num)) hle
            refine Exec.reg ?_
            refine Run.o1 (by simp only [go_sem, hx, g1, Bool.not_false, hpe, hna, hr] <;> rfl) ?_
            refine Run.nil ?_
            refine BlkK.ret ?_
            refine ForK.ret ?_
            refine BlkK.ret ?_
            exact Ends.fin [] (rs := [.tmp 2]) rfl (by simp only [go_sem, hx, g1, Bool.not_false, hpe, hna, hr] <;> rfl) (by simp only [go_sem, hx, g1, Bool.not_false, hpe, hna, hr] <;> first | rfl | exact eqz)
          · exact absurd hb38 (by simp)
      · skip
        have hall : l.all plateOK = true := by have := ge_of_dec hb11; rw [List.take_of_length_le this] at hX; exact hX
        refine Exec.exitS ?_
        refine ForK.ext ?_
        refine BlkK.hit ?_
        refine Exec.assocS ?_
        refine Exec.reg ?_
        refine Run.o ?_
        refine Run.nil ?_
        refine Exec.blk ?_
        refine Exec.forA [0, 4] [] (l.length) (fun j => [.slot 4 (.int (1 + (j : Int)))]) (fun j => riseT (l.map Pl.num) (1 + j)) (fun j => by simp only [go_sem] <;> rfl) (by simp only [go_sem, Int.natCast_zero, Int.add_zero] <;> rfl) ?_ (fun j hj Xj => ?_)
        · exact rise_one _
        · skip
          refine Exec.assocS ?_
          refine Exec.reg ?_
          iterate 4 (refine Run.o ?_)
          refine Run.nil ?_
          refine Exec.cndS V215 (fun hb42 => ?_) (fun hb42 => ?_)
          · skip
            have hjl : 1 + j < l.length := by have := of_decide_eq_true hb42; omega
            obtain ⟨x, hx⟩ : ∃ x, l[1 + j]? = some x := ⟨_, List.getElem?_eq_getElem hjl⟩
            obtain ⟨y, hy⟩ : ∃ y, l[1 + j - 1]? = some y := ⟨_, List.getElem?_eq_getElem (by omega)⟩
            have hy2 : l[j]? = some y := by rw [← hy]; congr 1; omega
            have t1 : ((1 : Int) + (j : Int) - 1).toNat = j := by omega
            have t2 : ((1 : Int) + (j : Int)).toNat = 1 + j := by omega
            refine Exec.skipS ?_
            refine Exec.blk ?_
            refine Exec.opk 14 ?_
            iterate 2 (refine OpenK.o1 V166 ?_)
            refine OpenK.o1 V74 ?_
            iterate 4 (refine OpenK.o1 V166 ?_)
            refine OpenK.o1 V52 ?_
            refine OpenK.o1 V74 ?_
            iterate 3 (refine OpenK.o1 V166 ?_)
            refine OpenK.nil (OpenE.fin V219 V219 ?_)
            refine Exec.cnd V166 (fun hb56 => ?_) (fun hb56 => ?_)
            · skip
              have hno := rise_no (f := Pl.num) (k := 1 + j) (by omega) hx hy (by have := of_decide_eq_true hb56; omega)
              have hr := err7 hle
              refine Exec.reg ?_
              refine Run.o1 (by simp only [go_sem, hx, hy2, t1, t2, hpe, hall, hno, hr] <;> rfl) ?_
              refine Run.nil ?_
              refine BlkK.ret ?_
              refine ForK.ret ?_
              refine BlkK.ret ?_
              exact Ends.fin [] (rs := [.tmp 2]) rfl (by simp only [go_sem, hx, hy2, t1, t2, hpe, hall, hno, hr] <;> rfl) (by simp only [go_sem, hx, hy2, t1, t2, hpe, hall, hno, hr] <;> first | rfl | exact eqz)
            · skip
              refine BlkK.nrm ?_
              refine Exec.reg1 ?_
              refine Run.o1 V166 ?_
              refine Run.o1 V52 ?_
              refine Run.o1 V166 ?_
              refine Run.nil ?_
              refine ForK.nxt ?_ ?_ ?_
              · omega
              · exact Ghost.kp [0, 4] [] (by simp only [go_sem, hx, hy2, t1, t2] <;> first | exact eqz | rfl)
              · exact rise_step Xj hx hy (by have := of_decide_eq_false hb56; omega)
          · skip
            have hno := rise_done Xj (by have := of_decide_eq_false hb42; omega)
            have hr := err0 hle
            refine Exec.exitS ?_
            refine ForK.ext ?_
            refine BlkK.hit ?_
            refine Exec.reg ?_
            refine Run.o1 (by simp only [go_sem, hpe, hall, hno, hr] <;> rfl) ?_
            refine Run.nil ?_
            exact Ends.fin [] (rs := [.tmp 2]) rfl (by simp only [go_sem, hpe, hall, hno, hr] <;> rfl) (by simp only [go_sem, hpe, hall, hno, hr] <;> first | rfl | exact eqz)

end Go.Mw
namespace Go.Mw
open Go.Proofs
open Go.Bk
attribute [local go_sem] decide_true beq_self_eq_true bne_self_eq_false
theorem packN_get : ∀ (n k : Nat) (s : Bits), k < n → (packN n s)[k]? = some (byteB ((s.drop (8 * k)).take 8))
  | 0, k, s, h => by omega
  | n + 1, 0, s, h => by rw [packN]; rfl
  | n + 1, k + 1, s, h => by
    rw [packN, List.getElem?_cons_succ, packN_get n k _ (by omega), List.drop_drop, show 8 + 8 * k = 8 * (k + 1) by omega]
theorem byteB_nat {s : Bits} (h : s.length ≤ 8) : (byteB s).toNat = valB s := by
  have h1 := valB_lt s
  have h2 : 2 ^ s.length ≤ 2 ^ 8 := Nat.pow_le_pow_right (by omega) h
  exact ofNat_toNat (by omega)
attribute [local irreducible] numB gammaB binB parB pack
set_option maxRecDepth 20000 in
set_option maxHeartbeats 16000000 in
/-- meterworks/meterworksref14.WritePlates -/
theorem c_ref_WritePlates (l : List Pl) (hl : l.length ≤ 1000) : Contract Tryz.prog 26 [.leaf (.d (plsD l))] (bysE (wPlates l) (platesE l)) [] := by
  refine con_of follows_mixed Tryz.func26 rfl (by simp only [List.length_cons, List.length_nil, Tryz.ntmps26]; omega) V221 rfl ?_
  refine Exec.reg ?_
  iterate 2 (refine Run.o ?_)
  refine Run.nil ?_
  refine Exec.reg ?_
  refine Run.o ?_
  refine Run.c1 (c_ref_Plates l hl) V215 V215 ?_
  refine Run.o ?_
  refine Run.nil ?_
  refine Exec.assocS ?_
  refine Exec.reg ?_
  iterate 2 (refine Run.o ?_)
  refine Run.nil ?_
  refine Exec.cndS V215 (fun hb13 => ?_) (fun hb13 => ?_)
  · skip
    have hne : platesE l ≠ 0 := by simpa using hb13
    have hr : wPlates l = [] := if_neg hne
    refine Exec.assocS ?_
    refine Exec.reg ?_
    iterate 3 (refine Run.o1 V178 ?_)
    refine Run.nild 2 1 V215 V215 ?_
    refine Run.nil ?_
    refine Exec.retS ?_
    exact Ends.fin [] (rs := [.tmp 2, .tmp 3]) rfl V178 V9
  · skip
    have he0 : platesE l = 0 := by simpa using hb13
    have hr : wPlates l = pack (padB (bitsB l)) := if_pos he0
    obtain ⟨hch, hl60⟩ := chain_ok he0
    have hx65 : ∀ x ∈ l, x.num ≤ 65535 := fun x hx => by
      have h := List.all_eq_true.1 (errB_ok he0).2.1 x hx
      unfold plateOK at h
      simp only [Bool.and_eq_true, inD_iff] at h
      omega
    have hca := (chain_at l 0 hch ⟨by omega, by omega⟩ hx65 l.length).1
    rw [List.take_length] at hca
    have hbl : (bitsB l).length = 8 + (goB 0 l).length := by unfold bitsB; rw [List.length_append, numB_len]
    have hpl : (padB (bitsB l)).length = (bitsB l).length + ((8 - (bitsB l).length % 8) % 8) := by unfold padB; rw [List.length_append, List.length_replicate]
    obtain ⟨q, hq⟩ := pad_len8 (bitsB l)
    have hpk := pack_len (padB (bitsB l))
    have hbs := bitS_len (padB (bitsB l))
    refine Exec.skipS ?_
    refine Exec.reg ?_
    refine Run.o1 V189 ?_
    refine Run.c1 (c_bits l hch hl60 hx65) V189 V189 ?_
    refine Run.o1 V189 ?_
    refine Run.nil ?_
    refine Exec.blk ?_
    refine Exec.forA [5] [] (((8 - (bitsB l).length % 8) % 8)) (fun k => [.slot 5 (.str (bitS (bitsB l ++ List.replicate k false)))]) (fun _ => True) (fun k => by simp only [go_sem] <;> rfl) (by simp only [go_sem, hr, he0, List.replicate_zero, List.append_nil] <;> rfl) ?_ (fun k hk hX => ?_)
    · trivial
    · skip
      have hsk := bitS_len (bitsB l ++ List.replicate k false)
      rw [List.length_append, List.length_replicate] at hsk
      have htm1 : (((bitsB l).length + k : Nat) : Int).tmod 8 = ((((bitsB l).length + k) % 8 : Nat) : Int) := by rw [Int.tmod_eq_emod_of_nonneg (by omega)]; simp
      refine Exec.assocS ?_
      refine Exec.reg ?_
      iterate 2 (refine Run.o1 (by simp only [go_sem, hr, he0, hsk, htm1] <;> rfl) ?_)
      refine Run.o1 (by simp only [go_sem, hr, he0, hsk, htm1]; (try simp (disch := omega) only [IntWalk.i64_in, IntWalk.u64_in, IntWalk.i32_in, IntWalk.u8_in, if_neg, if_pos])<;> rfl) ?_
      refine Run.o1 (by simp only [go_sem, hr, he0, hsk, htm1] <;> rfl) ?_
      refine Run.nil ?_
      refine Exec.cndS (by simp only [go_sem, hr, he0, hsk, htm1] <;> rfl) (fun hb20 => ?_) (fun hb20 => ?_)
      · skip
        have hk : k < ((8 - (bitsB l).length % 8) % 8) := by have := hb20; simp at this; omega
        have hst : bitS (bitsB l ++ List.replicate (k + 1) false) = bitS (bitsB l ++ List.replicate k false) ++ [48] := by rw [List.replicate_succ', ← List.append_assoc, bitS_app]; rfl
        have hLk := bitS_len (bitsB l ++ List.replicate k false)
        rw [List.length_append, List.length_replicate] at hLk
        refine Exec.skipS ?_
        refine Exec.blk1 ?_
        refine Exec.reg1 ?_
        refine Run.o1 (by simp only [go_sem, hr, he0, hsk, htm1, hst] <;> rfl) ?_
        refine Run.o1 (by simp only [go_sem, hr, he0, hsk, htm1, hst]; (try simp (disch := omega) only [IntWalk.i64_in, IntWalk.u64_in, IntWalk.i32_in, IntWalk.u8_in, if_neg, if_pos])<;> rfl) ?_
        refine Run.o1 (by simp only [go_sem, hr, he0, hsk, htm1, hst] <;> rfl) ?_
        refine Run.nil ?_
        refine Blk1K.nrm ?_
        refine ForK.nxt ?_ ?_ ?_
        · omega
        · exact Ghost.kp [5] [] (by simp only [go_sem, hr, he0, hsk, htm1, hst] <;> first | exact eqz | rfl)
        · trivial
      · skip
        have hk : k = ((8 - (bitsB l).length % 8) % 8) := by have := hb20; simp at this; omega
        have hje : bitsB l ++ List.replicate k false = padB (bitsB l) := by rw [hk]; rfl
        have hb0 := byD_len (pack (padB (bitsB l)))
        refine Exec.exitS ?_
        refine ForK.ext ?_
        refine BlkK.hit ?_
        refine Exec.reg ?_
        refine Run.o1 V135 ?_
        refine Run.nil ?_
        refine Exec.assocS ?_
        refine Exec.reg ?_
        refine Run.nilo 6 1000 5 1 V215 V215 (by omega) (by omega) V215 ?_
        refine Run.o1 V135 ?_
        refine Run.nil ?_
        refine Exec.blk ?_
        refine Exec.forA [5, 6, 7] [1000] ((pack (padB (bitsB l))).length) (fun i => [.slot 7 (.int (8 * (i : Int))), .slot 6 (.leaf (.own 1000 0 i i)), .obj 1000 (.arr 5 1 (byD ((pack (padB (bitsB l))).take i)))]) (fun _ => True) (fun i => by simp only [go_sem] <;> rfl) (by simp only [go_sem, hr, he0, hsk, htm1, hje, hbs, Int.natCast_zero, Int.mul_zero, List.take_zero, byD_nil] <;> rfl) ?_ (fun i hi Xi => ?_)
        · trivial
        · skip
          refine Exec.assocS ?_
          refine Exec.reg ?_
          iterate 4 (refine Run.o1 V135 ?_)
          refine Run.nil ?_
          refine Exec.cndS V135 (fun hb26 => ?_) (fun hb26 => ?_)
          · skip
            have hi8 : 8 * i < (padB (bitsB l)).length := by have := of_decide_eq_true hb26; omega
            have hgi := packN_get ((padB (bitsB l)).length / 8) i (padB (bitsB l)) (by omega)
            have hgp : (pack (padB (bitsB l)))[i]? = some (byteB (((padB (bitsB l)).drop (8 * i)).take 8)) := by rw [pack]; exact hgi
            have htl : ((pack (padB (bitsB l))).take i).length = i := by rw [List.length_take]; omega
            have hts := take_snoc hgp
            have hlen8 : (((padB (bitsB l)).drop (8 * i)).take 8).length = 8 := by rw [List.length_take, List.length_drop]; omega
            have hbn := byteB_nat (s := ((padB (bitsB l)).drop (8 * i)).take 8) (by omega)
            have hbL := byD_len ((pack (padB (bitsB l))).take i)
            rw [htl] at hbL
            have hv0 : valB (((padB (bitsB l)).drop (8 * i)).take 0) = 0 := rfl
            refine Exec.skipS ?_
            refine Exec.blk ?_
            refine Exec.reg ?_
            refine Run.o1 V124 ?_
            refine Run.nil ?_
            refine Exec.assocS ?_
            refine Exec.reg ?_
            refine Run.o1 V124 ?_
            refine Run.nil ?_
            refine Exec.blk ?_
            refine Exec.forA [5, 6, 7, 8, 9] [1000] (8) (fun j => [.slot 8 (.int (valB (((padB (bitsB l)).drop (8 * i)).take j) : Nat)), .slot 9 (.int j)]) (fun _ => True) (fun j => by simp only [go_sem] <;> rfl) (by simp only [go_sem, hr, he0, hsk, htm1, hje, hbs, hbL, Int.natCast_zero, hv0] <;> rfl) ?_ (fun j hj Xj => ?_)
            · trivial
            · skip
              refine Exec.assocS ?_
              refine Exec.reg ?_
              iterate 2 (refine Run.o1 V124 ?_)
              refine Run.nil ?_
              refine Exec.cndS V124 (fun hb30 => ?_) (fun hb30 => ?_)
              · skip
                have hj8 : j < 8 := by have := of_decide_eq_true hb30; omega
                obtain ⟨b, hx⟩ : ∃ b, ((padB (bitsB l)).drop (8 * i))[j]? = some b := ⟨_, List.getElem?_eq_getElem (by rw [List.length_drop]; omega)⟩
                have hg := bitS_get (s := (padB (bitsB l))) (k := 8 * i + j) (b := b) (by rw [← hx, List.getElem?_drop])
                have hbn2 : ((bch b).toNat : Int) - 48 = (b.toNat : Int) := by rw [bch_nat]; omega
                have hb1 : b.toNat ≤ 1 := by cases b <;> decide
                have hw8 : IntKind.u8.wrap ((b.toNat : Nat) : Int) = ((b.toNat : Nat) : Int) := IntWalk.u8_in _ (by omega)
                have hvn : valB (((padB (bitsB l)).drop (8 * i)).take (j + 1)) = 2 * valB (((padB (bitsB l)).drop (8 * i)).take j) + b.toNat := by rw [take_snoc hx, valB_snoc]
                have hvl := valB_63 (s := ((padB (bitsB l)).drop (8 * i)).take 8) hlen8 (Nat.le_of_lt hj8) (by omega)
                rw [List.take_take, Nat.min_eq_left (by omega)] at hvl
                have tij : ((8 : Int) * (i : Int) + (j : Int)).toNat = 8 * i + j := by omega
                refine Exec.skipS ?_
                refine Exec.blk ?_
                refine Exec.reg1 ?_
                refine Run.o1 V101 ?_
                refine Run.o1 V27 ?_
                iterate 3 (refine Run.o1 V101 ?_)
                refine Run.o1 V27 ?_
                refine Run.o1 V101 ?_
                iterate 3 (refine Run.o1 V27 ?_)
                refine Run.o1 V101 ?_
                refine Run.nil ?_
                refine BlkK.nrm ?_
                refine Exec.reg1 ?_
                refine Run.o1 V101 ?_
                refine Run.o1 V27 ?_
                refine Run.o1 V101 ?_
                refine Run.nil ?_
                refine ForK.nxt ?_ ?_ ?_
                · omega
                · exact Ghost.kp [5, 6, 7, 8, 9] [1000] (by simp only [go_sem, hr, he0, hsk, htm1, hje, hbs, hbL, hg, hbn2, hw8, tij] <;> first | ((repeat' (first | with_reducible_and_instances rfl | refine st_eq ?_ ?_ ?_ | refine ret_eq ?_ | refine tup_eq ?_ | refine tm_eq ?_ ?_ | refine arr_eq ?_ | refine cells_eq ?_ | refine val_eq ?_ | refine ls_eq ?_ ?_ | refine own_eq ?_ ?_ | refine sl_eq ?_ | refine b_eq ?_ | (refine i_eq ?_; omega))); all_goals (first | omega | (rw [hvn]; omega))) | rfl)
                · trivial
              · skip
                have hj8 : j = 8 := by have := of_decide_eq_false hb30; omega
                subst hj8
                have hv256 : valB (((padB (bitsB l)).drop (8 * i)).take 8) < 256 := valB_c hlen8 (by decide)
                have hw8 : IntKind.u8.wrap ((valB (((padB (bitsB l)).drop (8 * i)).take 8) : Nat) : Int) = ((valB (((padB (bitsB l)).drop (8 * i)).take 8) : Nat) : Int) := IntWalk.u8_in _ (by omega)
                refine Exec.exitS ?_
                refine ForK.ext ?_
                refine BlkK.hit ?_
                refine Exec.reg1 ?_
                iterate 2 (refine Run.o1 V117 ?_)
                refine Run.o1 V35 ?_
                refine Run.o1 V117 ?_
                refine Run.o1 (by simp only [go_sem, hr, he0, hsk, htm1, hje, hbs, hbL, hw8]; (try simp (disch := omega) only [if_pos]); (try simp only [go_sem, hr, he0, hsk, htm1, hje, hbs, hbL, hw8]) <;> first | (refine ite_run ⟨by (try simp only [List.length_append, List.length_drop, List.length_take, List.length_map, List.length_cons, List.length_nil, List.length_replicate, List.length_set, List.length_range, Nat.zero_add]); omega, by (try simp only [List.length_append, List.length_drop, List.length_take, List.length_map, List.length_cons, List.length_nil, List.length_replicate, List.length_set, List.length_range, Nat.zero_add]); omega, by repeat (first | exact al_nil | assumption | refine al_app ?_ ?_ | refine al_drop ?_ | refine al_take ?_ | exact al_map (fun _ => rfl) | exact al_rep rfl | refine al_cons rfl ?_)⟩ ?_; simp only [go_sem, hr, he0, hsk, htm1, hje, hbs, hbL, hw8] <;> rfl) | (refine ite_run ⟨by (try simp only [List.length_append, List.length_drop, List.length_take, List.length_map, List.length_cons, List.length_nil, List.length_replicate, List.length_set, List.length_range, Nat.zero_add]); omega, by repeat (first | exact al_nil | assumption | refine al_app ?_ ?_ | refine al_drop ?_ | refine al_take ?_ | exact al_map (fun _ => rfl) | exact al_rep rfl | refine al_cons rfl ?_)⟩ ?_; simp only [go_sem, hr, he0, hsk, htm1, hje, hbs, hbL, hw8] <;> rfl) | rfl) ?_
                refine Run.o1 V117 ?_
                refine Run.nil ?_
                refine BlkK.nrm ?_
                refine Exec.reg1 ?_
                refine Run.o1 V117 ?_
                refine Run.o1 V35 ?_
                refine Run.o1 V117 ?_
                refine Run.nil ?_
                refine ForK.nxt ?_ ?_ ?_
                · omega
                · exact Ghost.kp [5, 6, 7] [1000] (by simp only [go_sem, hr, he0, hsk, htm1, hje, hbs, hbL, hw8] <;> first | ((repeat' (first | with_reducible_and_instances rfl | refine st_eq ?_ ?_ ?_ | refine ret_eq ?_ | refine tup_eq ?_ | refine tm_eq ?_ ?_ | refine arr_eq ?_ | refine cells_eq ?_ | refine val_eq ?_ | refine ls_eq ?_ ?_ | refine own_eq ?_ ?_ | refine sl_eq ?_ | refine b_eq ?_ | (refine i_eq ?_; omega))); all_goals (first | omega | (rw [hts, byD_app]; simp [byD, hbn]; done))) | rfl)
                · trivial
          · skip
            have hie : i = (pack (padB (bitsB l))).length := by have := of_decide_eq_false hb26; omega
            subst hie
            have hit : (pack (padB (bitsB l))).take (pack (padB (bitsB l))).length = pack (padB (bitsB l)) := List.take_of_length_le (Nat.le_refl _)
            have htk0 : (byD (pack (padB (bitsB l)))).take (pack (padB (bitsB l))).length = byD (pack (padB (bitsB l))) := List.take_of_length_le (by omega)
            refine Exec.exitS ?_
            refine ForK.ext ?_
            refine BlkK.hit ?_
            refine Exec.reg ?_
            refine Run.frz 1000 (by simp only [go_sem, hit, hb0, htk0] <;> rfl) ?_
            iterate 3 (refine Run.o1 (by simp only [go_sem, hr, he0, hsk, htm1, hje, hbs, hit] <;> rfl) ?_)
            refine Run.nil ?_
            exact Ends.fin [] (rs := [.tmp 2, .tmp 3]) rfl (by simp only [go_sem, hr, he0, hsk, htm1, hje, hbs, hit] <;> rfl) (by simp only [go_sem, hr, he0, hsk, htm1, hje, hbs, hit] <;> first | rfl | exact eqz)

end Go.Mw
namespace Go.Bk
theorem lz_le : ∀ (f : Nat) (s : Bits), lz f s ≤ f ∧ lz f s ≤ s.length
  | 0, s => by simp [lz]
  | f + 1, [] => by simp [lz]
  | f + 1, true :: s => by simp [lz]
  | f + 1, false :: s => by
    have := lz_le f s
    rw [lz, List.length_cons]; omega
theorem lz_at : ∀ (f : Nat) (s : Bits) (k : Nat), k < lz f s → s[k]? = some false
  | 0, s, k, h => by simp [lz] at h
  | f + 1, [], k, h => by simp [lz] at h
  | f + 1, true :: s, k, h => by simp [lz] at h
  | f + 1, false :: s, 0, h => rfl
  | f + 1, false :: s, k + 1, h => by
    rw [lz] at h
    simpa using lz_at f s k (by omega)
theorem lz_end : ∀ (f : Nat) (s : Bits), lz f s < f → lz f s < s.length → s[lz f s]? = some true
  | 0, s, h, _ => by omega
  | f + 1, [], _, h => by simp at h
  | f + 1, true :: s, _, _ => rfl
  | f + 1, false :: s, h, h2 => by
    rw [lz] at h h2 ⊢
    rw [List.length_cons] at h2
    simpa using lz_end f s (by omega) (by omega)
/-- How many bits the numbers of a plate have. -/
def wid (z : Nat) : Nat → Nat
  | 0 => 2 * z + 1
  | 1 => 3
  | 2 => 18
  | _ => 1
def rdN (z : Nat) : Nat → Bits → Option (List Nat × Bits)
  | 0, s => some ([], s)
  | k + 1, s => (rdN z k s).bind fun p => (takeB (wid z k) p.2).map fun q => (p.1 ++ [q.1], q.2)
theorem takeB_len {k n : Nat} {s r : Bits} (h : takeB k s = some (n, r)) : r.length ≤ s.length ∧ n < 2 ^ k ∧ ∃ a, s = a ++ r ∧ a.length = k ∧ valB a = n := by
  unfold takeB at h
  split at h
  · cases h
  · next hk =>
    cases h
    have hl : (s.take k).length = k := by rw [List.length_take]; omega
    refine ⟨by rw [List.length_drop]; omega, ?_, s.take k, (List.take_append_drop k s).symm, hl, rfl⟩
    have := valB_lt (s.take k)
    rwa [hl] at this
theorem wid_le {z k : Nat} (hz : z ≤ 20) : wid z k ≤ 41 ∧ 1 ≤ wid z k := by
  unfold wid; split <;> omega
/-- What may stand behind some numbers of a plate. -/
def rdX (z : Nat) (s : Bits) (p : List Nat × Bits) : Prop := rdN z p.1.length s = some p ∧ p.1.length ≤ 4 ∧ p.2.length ≤ s.length ∧ ∀ v ∈ p.1, v < 2199023255552
theorem rdX_zero (z : Nat) (s : Bits) : rdX z s ([], s) := ⟨rfl, by simp, Nat.le_refl _, by simp⟩
theorem rdX_step {z : Nat} {s : Bits} {p : List Nat × Bits} {n : Nat} {t : Bits} (hz : z ≤ 20) (h : rdX z s p) (h4 : p.1.length < 4) (ht : takeB (wid z p.1.length) p.2 = some (n, t)) : rdX z s (p.1 ++ [n], t) := by
  obtain ⟨h1, _, h3, h5⟩ := h
  obtain ⟨g1, g2, _⟩ := takeB_len ht
  refine ⟨?_, by simp; omega, by simp only; omega, fun v hv => ?_⟩
  · show rdN z (p.1 ++ [n]).length s = _
    rw [List.length_append, List.length_singleton, rdN, h1, Option.bind_some, ht]; rfl
  · rcases List.mem_append.1 hv with hv | hv
    · exact h5 v hv
    · have : v = n := by simpa using hv
      subst this
      exact Nat.lt_of_lt_of_le g2 (Nat.le_trans (Nat.pow_le_pow_right (by omega) (wid_le hz).1) (by decide))
theorem plateL_four {last : Int} {s t : Bits} {a c d e : Nat} (h : rdN (lz 20 s) 4 s = some ([a, c, d, e], t)) : plateL last s = some (⟨last + (a : Int), c, d⟩, t) := by
  simp only [rdN, wid, Option.bind_some, List.nil_append] at h
  unfold plateL
  cases h1 : takeB (2 * lz 20 s + 1) s with
  | none => rw [h1] at h; cases h
  | some q1 =>
    rw [h1] at h
    simp only [Option.map_some, Option.bind_some] at h ⊢
    cases h2 : takeB 3 q1.2 with
    | none => rw [h2] at h; cases h
    | some q2 =>
      rw [h2] at h
      simp only [Option.map_some, Option.bind_some] at h ⊢
      cases h3 : takeB 18 q2.2 with
      | none => rw [h3] at h; cases h
      | some q3 =>
        rw [h3] at h
        simp only [Option.map_some, Option.bind_some] at h ⊢
        cases h4 : takeB 1 q3.2 with
        | none => rw [h4] at h; cases h
        | some q4 =>
          rw [h4] at h
          simp at h
          obtain ⟨⟨e1, e2, e3, e4⟩, e5⟩ := h
          subst e1 e2 e3 e4 e5; rfl
theorem plateL_no {last : Int} {s t : Bits} {vs : List Nat} (h : rdN (lz 20 s) vs.length s = some (vs, t)) (h4 : vs.length < 4) (hn : takeB (wid (lz 20 s) vs.length) t = none) : plateL last s = none := by
  unfold plateL
  match vs, h4, h, hn with
  | [], _, h, hn =>
    have h : some (([] : List Nat), s) = some ([], t) := h
    cases h
    have hn : takeB (2 * lz 20 s + 1) s = none := hn
    rw [hn]; rfl
  | [a], _, h, hn =>
    simp only [List.length_singleton, rdN, Option.bind_some, wid, List.nil_append] at h hn
    obtain ⟨q, h1, h2⟩ := Option.map_eq_some_iff.1 h
    cases h2
    rw [h1, Option.bind_some, hn]; rfl
  | [a, b], _, h, hn =>
    simp only [List.length_cons, List.length_nil, rdN, Option.bind_some, wid, List.nil_append] at h hn
    obtain ⟨p, h1, h2⟩ := Option.bind_eq_some_iff.1 h
    obtain ⟨q, h3, h4⟩ := Option.map_eq_some_iff.1 h1
    subst h4
    obtain ⟨q2, h5, h6⟩ := Option.map_eq_some_iff.1 h2
    cases h6
    simp only at h5
    rw [h3, Option.bind_some, h5, Option.bind_some, hn]; rfl
  | [a, b, c], _, h, hn =>
    simp only [List.length_cons, List.length_nil, rdN, Option.bind_some, wid, List.nil_append] at h hn
    obtain ⟨p, h1, h2⟩ := Option.bind_eq_some_iff.1 h
    obtain ⟨p0, h1a, h1b⟩ := Option.bind_eq_some_iff.1 h1
    obtain ⟨q, h3, h4⟩ := Option.map_eq_some_iff.1 h1a
    subst h4
    obtain ⟨q2, h5, h6⟩ := Option.map_eq_some_iff.1 h1b
    subst h6
    obtain ⟨q3, h7, h8⟩ := Option.map_eq_some_iff.1 h2
    cases h8
    simp only at h5 h7
    rw [h3, Option.bind_some, h5, Option.bind_some, h7, Option.bind_some, hn]; rfl
theorem platesL_snoc : ∀ (k : Nat) (last : Int) (s : Bits), platesL (k + 1) last s = (platesL k last s).bind fun q => (plateL (lastP last q.1) q.2).map fun p => (q.1 ++ [p.1], p.2)
  | 0, last, s => by
    rw [platesL, platesL, Option.bind_some]
    show _ = (plateL (lastP last []) s).map _
    rw [lastP]
    cases plateL last s with
    | none => rfl
    | some p => rw [Option.bind_some, platesL, Option.bind_some]; rfl
  | k + 1, last, s => by
    rw [platesL]
    conv => rhs; rw [platesL]
    cases h : plateL last s with
    | none => rfl
    | some p =>
      rw [Option.bind_some, Option.bind_some, platesL_snoc k p.1.num p.2]
      cases h2 : platesL k p.1.num p.2 with
      | none => rfl
      | some q =>
        rw [Option.bind_some, Option.bind_some, Option.bind_some]
        show Option.bind (Option.map _ (plateL (lastP p.1.num q.1) q.2)) _ = Option.map _ (plateL (lastP last (p.1 :: q.1)) q.2)
        rw [lastP]
        cases plateL (lastP p.1.num q.1) q.2 with
        | none => rfl
        | some u => rfl
/-- What may stand behind some plates. -/
def stP (r : Bits) (n : Nat) (q : List Pl × Bits) : Prop := platesL q.1.length 0 r = some q ∧ q.1.length ≤ n ∧ q.2.length ≤ r.length ∧ 0 ≤ lastP 0 q.1 ∧ lastP 0 q.1 ≤ q.1.length * 2199023255552
theorem stP_zero (r : Bits) (n : Nat) : stP r n ([], r) := ⟨rfl, Nat.zero_le _, Nat.le_refl _, by simp [lastP], by simp [lastP]⟩
theorem stP_step {r : Bits} {n : Nat} {q : List Pl × Bits} {a c d e : Nat} {t : Bits} (h : stP r n q) (hl : q.1.length < n) (hx : rdX (lz 20 q.2) q.2 ([a, c, d, e], t)) : stP r n (q.1 ++ [⟨lastP 0 q.1 + (a : Int), c, d⟩], t) := by
  obtain ⟨h1, _, h3, h4, h5⟩ := h
  obtain ⟨g1, _, g3, g4⟩ := hx
  have ha : a < 2199023255552 := g4 a (by simp)
  refine ⟨?_, by simp; omega, by simp only at g3 ⊢; omega, by simp only [lastP_snoc]; omega, by simp only [lastP_snoc, List.length_append, List.length_singleton]; omega⟩
  rw [List.length_append, List.length_singleton, platesL_snoc, h1, Option.bind_some, plateL_four g1]; rfl
theorem platesL_no {n : Nat} : ∀ {k : Nat} {last : Int} {s : Bits}, platesL k last s = none → k ≤ n → platesL n last s = none := by
  intro k last s h hk
  induction n with
  | zero =>
    have : k = 0 := by omega
    subst this; exact h
  | succ n ih =>
    rcases Nat.lt_or_ge n k with h1 | h1
    · have : k = n + 1 := by omega
      subst this; exact h
    · rw [platesL_snoc, ih h1]; rfl
theorem stP_no {r : Bits} {n : Nat} {q : List Pl × Bits} {vs : List Nat} {t : Bits} (h : stP r n q) (hl : q.1.length < n) (hx : rdX (lz 20 q.2) q.2 (vs, t)) (h4 : vs.length < 4) (hn : takeB (wid (lz 20 q.2) vs.length) t = none) : platesL n 0 r = none := by
  refine platesL_no (k := q.1.length + 1) ?_ (by omega)
  rw [platesL_snoc, h.1, Option.bind_some, plateL_no hx.1 h4 hn]; rfl
theorem unp_step {b : Bs} {k : Nat} {c : UInt8} (h : b[k]? = some c) : unp (b.take (k + 1)) = unp (b.take k) ++ numB 8 c.toNat := by
  rw [List.take_add_one, h, unp_app]
  simp [unp]
theorem readP_short {b : Bs} (h : (unp b).length < 8) : readP b = none := by
  unfold readP takeB
  rw [if_pos h]; rfl
theorem readP_at {b : Bs} {a r : Bits} (hu : unp b = a ++ r) (ha : a.length = 8) : readP b = if 60 < valB a then none else (platesL (valB a) 0 r).bind fun q => if platesE q.1 = 0 ∧ platesBy q.1 = b then some q.1 else none := by
  unfold readP
  rw [hu, takeB_app ha]; rfl
end Go.Bk
namespace Go.Mw
open Go.Proofs
open Go.Bk
attribute [local go_sem] decide_true beq_self_eq_true bne_self_eq_false
/-- The cells of the four numbers of a plate, of which some have been read. -/
def quad (vs : List Nat) : List AL := [.d (.i (vs[0]?.getD 0 : Nat)), .d (.i (vs[1]?.getD 0 : Nat)), .d (.i (vs[2]?.getD 0 : Nat)), .d (.i (vs[3]?.getD 0 : Nat))]
theorem quad_len (vs : List Nat) : (quad vs).length = 4 := rfl
@[go_sem ↓ high] theorem quad_keep (vs : List Nat) (os : List Nat) : (AO.cells (quad vs)).keep os = .cells (quad vs) := rfl
theorem quad_nil : quad [] = [.d (.i 0), .d (.i 0), .d (.i 0), .d (.i 0)] := rfl
theorem quad_four (a c d e : Nat) : quad [a, c, d, e] = [.d (.i a), .d (.i c), .d (.i d), .d (.i e)] := rfl
theorem quad_set {vs : List Nat} (h : vs.length < 4) (n : Nat) : (quad vs).take (vs.length * 1) ++ [AL.d (D.i ((n : Nat) : Int))] ++ (quad vs).drop (vs.length * 1 + 1) = quad (vs ++ [n]) := by
  match vs, h with
  | [], _ => rfl
  | [a], _ => rfl
  | [a, b], _ => rfl
  | [a, b, c], _ => rfl
theorem wid_at {z k : Nat} (h : k < 4) : ((AL.d (D.i (2 * (z : Int) + 1)) :: AL.d (D.i 3) :: AL.d (D.i 18) :: AL.d (D.i 1) :: ([] : List AL)).drop (k * 1)).take 1 = [AL.d (D.i ((wid z k : Nat) : Int))] := by
  match k, h with
  | 0, _ => simp [wid]
  | 1, _ => rfl
  | 2, _ => rfl
  | 3, _ => rfl
theorem list_four {vs : List Nat} (h : vs.length = 4) : ∃ a c d e, vs = [a, c, d, e] := by
  match vs, h with
  | [a, c, d, e], _ => exact ⟨a, c, d, e, rfl⟩
attribute [local irreducible] numB gammaB binB parB pack quad rdN platesL plateL lz valB
set_option maxRecDepth 20000 in
set_option maxHeartbeats 16000000 in
/-- meterworks/meterworksref14.ReadPlates -/
theorem c_ref_ReadPlates (b : Bs) (hb : b.length ≤ 1000000) : Contract Tryz.prog 28 [.leaf (.d (bysD b))] (rdE (readP b)) [] := by
  have hul := unp_len b
  refine con_of follows_mixed Tryz.func28 rfl (by simp only [List.length_cons, List.length_nil, Tryz.ntmps28]; omega) V221 rfl ?_
  refine Exec.reg ?_
  iterate 2 (refine Run.o ?_)
  refine Run.nil ?_
  refine Exec.reg ?_
  refine Run.o ?_
  refine Run.nil ?_
  refine Exec.assocS ?_
  refine Exec.reg ?_
  refine Run.o ?_
  refine Run.nil ?_
  refine Exec.blk ?_
  refine Exec.forA [0, 4, 5] [] (b.length) (fun k => [.slot 4 (.str (bitS (unp (b.take k)))), .slot 5 (.int k)]) (fun _ => True) (fun k => by simp only [go_sem] <;> rfl) (by simp only [go_sem, Int.natCast_zero, List.take_zero] <;> rfl) ?_ (fun k hk hX => ?_)
  · trivial
  · skip
    refine Exec.assocS ?_
    refine Exec.reg ?_
    iterate 4 (refine Run.o ?_)
    refine Run.nil ?_
    refine Exec.cndS V215 (fun hb20 => ?_) (fun hb20 => ?_)
    · skip
      have hbyl := byD_len b
      have hlt : k < b.length := by have := of_decide_eq_true hb20; omega
      obtain ⟨c, hx⟩ : ∃ c, b[k]? = some c := ⟨_, List.getElem?_eq_getElem hlt⟩
      have hxb : (byD b)[k]? = some [.raw (.int .u8 c.toNat)] := by simp [byD, hx]
      have hc8 : c.toNat < 2 ^ 8 := c.toNat_lt
      have hwc := c_ref_wide (bitS (binB c.toNat)) 48 8 (by rw [bitS_len, binB_len]; have := bl_le hc8 (by omega); omega) (by omega)
      rw [pad_bin hc8 (by omega)] at hwc
      have hst : bitS (unp (b.take (k + 1))) = bitS (unp (b.take k)) ++ bitS (numB 8 c.toNat) := by rw [unp_step hx, bitS_app]
      have hL1 := bitS_len (unp (b.take k))
      rw [unp_len, List.length_take] at hL1
      have hL2 := bitS_len (numB 8 c.toNat)
      rw [numB_len] at hL2
      have hc63 : IntKind.i64.wrap ((c.toNat : Nat) : Int) = ((c.toNat : Nat) : Int) := IntWalk.i64_in _ (by omega)
      refine Exec.skipS ?_
      refine Exec.blk ?_
      refine Exec.reg1 ?_
      iterate 3 (refine Run.o1 V169 ?_)
      refine Run.o1 (by simp only [go_sem, hxb, hst, hc63]; (try simp (disch := omega) only [if_pos]); (try simp only [go_sem, hxb, hst, hc63])<;> rfl) ?_
      refine Run.o1 V169 ?_
      refine Run.o1 V53 ?_
      refine Run.c1 (c_Binary c.toNat (by omega)) V169 V169 ?_
      refine Run.c1 (hwc) V169 V169 ?_
      refine Run.o1 V53 ?_
      refine Run.o1 V169 ?_
      refine Run.nil ?_
      refine BlkK.nrm ?_
      refine Exec.reg1 ?_
      refine Run.o1 V169 ?_
      refine Run.o1 V53 ?_
      refine Run.o1 V169 ?_
      refine Run.nil ?_
      refine ForK.nxt ?_ ?_ ?_
      · omega
      · exact Ghost.kp [0, 4, 5] [] (by simp only [go_sem, hxb, hst, hc63] <;> first | exact eqz | rfl)
      · trivial
    · skip
      have hbyl := byD_len b
      have hke : b.length ≤ k := by have := of_decide_eq_false hb20; omega
      have htk : b.take k = b := List.take_of_length_le hke
      refine Exec.exitS ?_
      refine ForK.ext ?_
      refine BlkK.hit ?_
      by_cases h8 : (unp b).length < 8
      · skip
        have hr := readP_short h8
        refine Exec.reg ?_
        refine Run.o1 V173 ?_
        refine Run.c1 (c_rnum0 8 (unp b) h8 (by omega)) V173 V173 ?_
        iterate 7 (refine Run.o1 V173 ?_)
        refine Run.nil ?_
        refine Exec.assocS ?_
        refine Exec.reg ?_
        iterate 3 (refine Run.o1 V173 ?_)
        iterate 2 (refine Run.s ?_)
        refine Run.o1 V173 ?_
        refine Run.nil ?_
        refine Exec.cndS V173 (fun hb43 => ?_) (fun hb43 => ?_)
        · skip
          refine Exec.assocS ?_
          refine Exec.reg ?_
          iterate 2 (refine Run.o1 V173 ?_)
          refine Run.nild 2 3 V215 V215 ?_
          refine Run.nil ?_
          refine Exec.retS ?_
          exact Ends.fin [] (rs := [.tmp 2, .tmp 3]) rfl V173 (by simp only [go_sem, htk, hr, rdE] <;> first | rfl | exact eqz)
        · exact absurd hb43 (by simp)
      · skip
        obtain ⟨a, r, hu, ha⟩ : ∃ a r, unp b = a ++ r ∧ a.length = 8 := ⟨(unp b).take 8, (unp b).drop 8, (List.take_append_drop 8 _).symm, by rw [List.length_take]; omega⟩
        have hra := readP_at hu ha
        have hrl : r.length ≤ (unp b).length := by rw [hu, List.length_append]; omega
        refine Exec.reg ?_
        refine Run.o1 V190 ?_
        refine Run.c1 (c_rnum 8 a r ha (by omega) (by omega)) V190 V190 ?_
        iterate 7 (refine Run.o1 V190 ?_)
        refine Run.nil ?_
        refine Exec.assocS ?_
        refine Exec.reg ?_
        iterate 3 (refine Run.o1 V190 ?_)
        iterate 2 (refine Run.y1 V190 ?_)
        refine Run.o1 V190 ?_
        refine Run.nil ?_
        refine Exec.cndS V190 (fun hb43 => ?_) (fun hb43 => ?_)
        · skip
          have hn : 60 < valB a := by have := of_decide_eq_true hb43; omega
          have hr : readP b = none := by rw [hra, if_pos hn]
          refine Exec.assocS ?_
          refine Exec.reg ?_
          iterate 2 (refine Run.o1 (by simp only [go_sem, htk, hu, hr, rdE] <;> rfl) ?_)
          refine Run.nild 2 3 V215 V215 ?_
          refine Run.nil ?_
          refine Exec.retS ?_
          exact Ends.fin [] (rs := [.tmp 2, .tmp 3]) rfl (by simp only [go_sem, htk, hu, hr, rdE] <;> rfl) (by simp only [go_sem, htk, hu, hr, rdE] <;> first | rfl | exact eqz)
        · skip
          have hn60 : ¬ 60 < valB a := by have := of_decide_eq_false hb43; omega
          have hLr := bitS_len r
          refine Exec.skipS ?_
          refine Exec.reg ?_
          refine Run.o1 V190 ?_
          refine Run.nil ?_
          refine Exec.reg ?_
          refine Run.nilo 8 1000 70 3 V215 V215 (by omega) (by omega) V215 ?_
          refine Run.o1 V190 ?_
          refine Run.nil ?_
          refine Exec.assocS ?_
          refine Exec.reg ?_
          refine Run.o1 V190 ?_
          refine Run.nil ?_
          refine Exec.blk ?_
          refine Exec.whl [0, 4, 6, 8, 9, 10] [1000] (fun (q : List Pl × Bits) => [.slot 4 (.str (bitS q.2)), .slot 9 (.int (lastP 0 q.1)), .slot 10 (.int q.1.length), .slot 8 (.leaf (.own 1000 0 q.1.length q.1.length)), .obj 1000 (.arr 70 3 (q.1.map encPl))]) (fun q => stP r (valB a) q) (fun q => valB a - q.1.length) ((([] : List Pl), r)) (fun q => by simp only [go_sem] <;> rfl) (by simp only [go_sem, htk, hu, Int.natCast_zero, lastP_nil, List.map_nil, List.length_nil] <;> rfl) ?_ (fun q hX => ?_)
          · exact stP_zero r (valB a)
          · skip
            refine Exec.assocS ?_
            refine Exec.reg ?_
            iterate 3 (refine Run.o1 V190 ?_)
            refine Run.nil ?_
            refine Exec.cndS V190 (fun hb46 => ?_) (fun hb46 => ?_)
            · skip
              have hlt : q.1.length < valB a := by have := of_decide_eq_true hb46; omega
              have hQ := hX
              obtain ⟨_, _, hq3, hq4, hq5⟩ := hX
              have hlz := lz_le 20 q.2
              have hLq := bitS_len q.2
              refine Exec.skipS ?_
              refine Exec.blk ?_
              refine Exec.reg ?_
              refine Run.o1 V174 ?_
              refine Run.nil ?_
              refine Exec.joinA [0, 4, 6, 8, 9, 10, 11] [1000] (fun (o : Unit) => [.slot 11 (.int (lz 20 q.2))]) (fun (o : Unit) => True) (fun o => by simp only [go_sem] <;> rfl) ?_ (fun o hj => ?_)
              · skip
                refine Exec.blk1 ?_
                refine Exec.forA [0, 4, 6, 8, 9, 10, 11] [1000] (lz 20 q.2) (fun z => [.slot 11 (.int z)]) (fun _ => True) (fun z => by simp only [go_sem] <;> rfl) (by simp only [go_sem, htk, hu, hLq, Int.natCast_zero] <;> rfl) ?_ (fun z hz Xz => ?_)
                · trivial
                · skip
                  refine Exec.assocS ?_
                  by_cases hz1 : z < lz 20 q.2
                  · skip
                    have hzg := bitS_get (lz_at 20 q.2 z hz1)
                    have hd1 : decide ((z : Int) < (q.2.length : Int)) = true := decide_eq_true (by omega)
                    have hd2 : decide ((z : Int) < 20) = true := decide_eq_true (by omega)
                    have hd3 : (((bch false).toNat : Int) == 48) = true := rfl
                    refine Exec.reg ?_
                    iterate 5 (refine Run.o1 V126 ?_)
                    iterate 2 (refine Run.y1 V126 ?_)
                    iterate 2 (refine Run.o1 V126 ?_)
                    iterate 4 (refine Run.y1 V126 ?_)
                    refine Run.o1 V126 ?_
                    refine Run.nil ?_
                    refine Exec.cndS V126 (fun hb62 => ?_) (fun hb62 => ?_)
                    · skip
                      refine Exec.skipS ?_
                      refine Exec.blk1 ?_
                      refine Exec.reg1 ?_
                      refine Run.o1 V126 ?_
                      refine Run.o1 (by simp only [go_sem, htk, hu, hLq, hzg, hd1, hd2, hd3]; (try simp (disch := omega) only [IntWalk.i64_in, IntWalk.u64_in, IntWalk.i32_in, IntWalk.u8_in, if_neg, if_pos])<;> rfl) ?_
                      refine Run.o1 V126 ?_
                      refine Run.nil ?_
                      refine Blk1K.nrm ?_
                      refine ForK.nxt ?_ ?_ ?_
                      · omega
                      · exact Ghost.kp [0, 4, 6, 8, 9, 10, 11] [1000] (by simp only [go_sem, htk, hu, hLq, hzg, hd1, hd2, hd3] <;> first | exact eqz | rfl)
                      · trivial
                    · exact absurd hb62 (by simp)
                  · skip
                    have hze : z = lz 20 q.2 := by omega
                    subst hze
                    by_cases hz2 : lz 20 q.2 < q.2.length
                    · skip
                      have hd1 : decide ((lz 20 q.2 : Int) < (q.2.length : Int)) = true := decide_eq_true (by omega)
                      by_cases hz3 : lz 20 q.2 < 20
                      · skip
                        have hzg := bitS_get (lz_end 20 q.2 hz3 hz2)
                        have hd2 : decide ((lz 20 q.2 : Int) < 20) = true := decide_eq_true (by omega)
                        have hd3 : (((bch true).toNat : Int) == 48) = false := rfl
                        refine Exec.reg ?_
                        iterate 5 (refine Run.o1 V127 ?_)
                        iterate 2 (refine Run.y1 V127 ?_)
                        iterate 2 (refine Run.o1 V127 ?_)
                        iterate 4 (refine Run.y1 V127 ?_)
                        refine Run.o1 V127 ?_
                        refine Run.nil ?_
                        refine Exec.cndS V127 (fun hb62 => ?_) (fun hb62 => ?_)
                        · exact absurd hb62 (by simp)
                        · skip
                          refine Exec.exitS ?_
                          refine ForK.ext ?_
                          refine Blk1K.hit ?_
                          refine JoinK.nrm (()) ?_ ?_
                          · trivial
                          · exact Ghost.kp [0, 4, 6, 8, 9, 10, 11] [1000] (by simp only [go_sem, htk, hu, hLq, hd1, hzg, hd2, hd3] <;> first | exact eqz | rfl)
                      · skip
                        have hd2 : decide ((lz 20 q.2 : Int) < 20) = false := decide_eq_false (by omega)
                        refine Exec.reg ?_
                        iterate 5 (refine Run.o1 V145 ?_)
                        iterate 2 (refine Run.y1 V145 ?_)
                        iterate 2 (refine Run.o1 V145 ?_)
                        iterate 4 (refine Run.s ?_)
                        refine Run.o1 V145 ?_
                        refine Run.nil ?_
                        refine Exec.cndS V145 (fun hb62 => ?_) (fun hb62 => ?_)
                        · exact absurd hb62 (by simp)
                        · skip
                          refine Exec.exitS ?_
                          refine ForK.ext ?_
                          refine Blk1K.hit ?_
                          refine JoinK.nrm (()) ?_ ?_
                          · trivial
                          · exact Ghost.kp [0, 4, 6, 8, 9, 10, 11] [1000] (by simp only [go_sem, htk, hu, hLq, hd1, hd2] <;> first | exact eqz | rfl)
                    · skip
                      have hd1 : decide ((lz 20 q.2 : Int) < (q.2.length : Int)) = false := decide_eq_false (by omega)
                      refine Exec.reg ?_
                      iterate 5 (refine Run.o1 V160 ?_)
                      iterate 2 (refine Run.s ?_)
                      iterate 2 (refine Run.o1 V160 ?_)
                      iterate 4 (refine Run.s ?_)
                      refine Run.o1 V160 ?_
                      refine Run.nil ?_
                      refine Exec.cndS V160 (fun hb62 => ?_) (fun hb62 => ?_)
                      · exact absurd hb62 (by simp)
                      · skip
                        refine Exec.exitS ?_
                        refine ForK.ext ?_
                        refine Blk1K.hit ?_
                        refine JoinK.nrm (()) ?_ ?_
                        · trivial
                        · exact Ghost.kp [0, 4, 6, 8, 9, 10, 11] [1000] (by simp only [go_sem, htk, hu, hLq, hd1] <;> first | exact eqz | rfl)
              refine Exec.reg ?_
              refine Run.o1 V174 ?_
              refine Run.nil ?_
              refine Exec.assocS ?_
              refine Exec.reg ?_
              refine Run.o1 V174 ?_
              iterate 2 (refine Run.o1 (by simp only [go_sem, htk, hu, hLq]; (try simp (disch := omega) only [IntWalk.i64_in, IntWalk.u64_in, IntWalk.i32_in, IntWalk.u8_in, if_neg, if_pos])<;> rfl) ?_)
              iterate 2 (refine Run.o1 V174 ?_)
              refine Run.nil ?_
              refine Exec.blk ?_
              refine Exec.whl [0, 4, 6, 8, 9, 10, 12, 68, 69] [12, 1000] (fun (p : List Nat × Bits) => [.slot 69 (.int p.1.length), .slot 4 (.str (bitS p.2)), .obj 12 (.cells (quad p.1))]) (fun p => rdX (lz 20 q.2) q.2 p) (fun p => 4 - p.1.length) ((([] : List Nat), q.2)) (fun p => by simp only [go_sem] <;> rfl) (by simp only [go_sem, htk, hu, hLq, Int.natCast_zero, quad_nil, List.length_nil] <;> rfl) ?_ (fun p hX => ?_)
              · exact rdX_zero _ _
              · skip
                refine Exec.reg ?_
                refine Run.o1 V174 ?_
                refine Run.nil ?_
                refine Exec.cndS V174 (fun hb70 => ?_) (fun hb70 => ?_)
                · skip
                  have h4 : p.1.length < 4 := by have := of_decide_eq_true hb70; omega
                  have hR := hX
                  obtain ⟨_, _, hr3, hr5⟩ := hX
                  have hwd := wid_at (z := lz 20 q.2) h4
                  have hwl := wid_le (z := lz 20 q.2) (k := p.1.length) hlz.1
                  have hLp := bitS_len p.2
                  refine Exec.skipS ?_
                  refine Exec.blk ?_
                  refine Exec.reg ?_
                  refine Run.o1 (by simp only [go_sem, htk, hu, hLq, hwd, quad_len, hLp] <;> rfl) ?_
                  refine Run.o1 (by simp only [go_sem, hwd, quad_len, hLp]; rw [if_pos ⟨⟨by omega, by omega⟩, by omega⟩]; first | rfl | (simp only [go_sem, hwd, quad_len, hLp] <;> rfl)) ?_
                  iterate 2 (refine Run.o1 (by simp only [go_sem, htk, hu, hLq, hwd, quad_len, hLp] <;> rfl) ?_)
                  refine Run.nil ?_
                  by_cases hn : wid (lz 20 q.2) p.1.length ≤ p.2.length
                  · skip
                    obtain ⟨a2, t, hp2, ha2⟩ : ∃ a2 t, p.2 = a2 ++ t ∧ a2.length = wid (lz 20 q.2) p.1.length := ⟨p.2.take (wid (lz 20 q.2) p.1.length), p.2.drop (wid (lz 20 q.2) p.1.length), (List.take_append_drop _ _).symm, by rw [List.length_take]; omega⟩
                    have htk2 : takeB (wid (lz 20 q.2) p.1.length) p.2 = some (valB a2, t) := by rw [hp2, takeB_app ha2]
                    have hst2 := rdX_step hlz.1 hR h4 htk2
                    have hqs := quad_set h4 (valB a2)
                    have hpl : p.2.length = a2.length + t.length := by rw [hp2, List.length_append]
                    refine Exec.reg ?_
                    iterate 3 (refine Run.o1 V108 ?_)
                    refine Run.c1 (c_rnum (wid (lz 20 q.2) p.1.length) a2 t ha2 (by omega) (by omega)) V108 V108 ?_
                    iterate 4 (refine Run.o1 V108 ?_)
                    refine Run.o1 (by simp only [go_sem, htk, hu, hLq, hwd, quad_len, hLp, hp2, hqs]; (try simp (disch := omega) only [if_pos]); (try simp only [go_sem, htk, hu, hLq, hwd, quad_len, hLp, hp2, hqs])<;> rfl) ?_
                    refine Run.o1 (by simp only [go_sem, quad_len]; rw [if_pos (by omega), hqs]; rfl) ?_
                    iterate 2 (refine Run.o1 V108 ?_)
                    refine Run.nil ?_
                    refine Exec.reg ?_
                    iterate 2 (refine Run.o1 V108 ?_)
                    refine Run.nil ?_
                    refine Exec.cnd V108 (fun hb83 => ?_) (fun hb83 => ?_)
                    · exact absurd hb83 (by simp)
                    · skip
                      refine BlkK.nrm ?_
                      refine Exec.reg1 ?_
                      refine Run.o1 (by simp only [go_sem, htk, hu, hLq, hwd, quad_len, hLp, hp2, hqs]; (try simp (disch := omega) only [IntWalk.i64_in, IntWalk.u64_in, IntWalk.i32_in, IntWalk.u8_in, if_neg, if_pos])<;> rfl) ?_
                      refine Run.o1 V108 ?_
                      refine Run.nil ?_
                      refine WhlK.nxt ((p.1 ++ [valB a2], t)) ?_ ?_ ?_
                      · show 4 - (p.1 ++ [_]).length < 4 - p.1.length; rw [List.length_append, List.length_singleton]; omega
                      · exact hst2
                      · exact Ghost.kp [0, 4, 6, 8, 9, 10, 12, 68, 69] [12, 1000] (by simp only [go_sem, htk, hu, hLq, hwd, quad_len, hLp, hp2, hqs] <;> first | ((repeat' (first | with_reducible_and_instances rfl | refine st_eq ?_ ?_ ?_ | refine ret_eq ?_ | refine tup_eq ?_ | refine tm_eq ?_ ?_ | refine arr_eq ?_ | refine cells_eq ?_ | refine val_eq ?_ | refine ls_eq ?_ ?_ | refine own_eq ?_ ?_ | refine sl_eq ?_ | refine b_eq ?_ | (refine i_eq ?_; omega))); all_goals (first | omega | (simp; done) | (simp; omega))) | rfl)
                  · skip
                    have htk2 : takeB (wid (lz 20 q.2) p.1.length) p.2 = none := by unfold takeB; rw [if_pos (by omega)]
                    have hr : readP b = none := by rw [hra, if_neg hn60, stP_no hQ hlt hR h4 htk2]; rfl
                    refine Exec.reg ?_
                    iterate 3 (refine Run.o1 V112 ?_)
                    refine Run.c1 (c_rnum0 (wid (lz 20 q.2) p.1.length) p.2 (Nat.lt_of_not_le hn) (by omega)) V112 V112 ?_
                    iterate 4 (refine Run.o1 V112 ?_)
                    refine Run.o1 (by simp only [go_sem, htk, hu, hLq, hwd, quad_len, hLp, hr, rdE]; (try simp (disch := omega) only [if_pos]); (try simp only [go_sem, htk, hu, hLq, hwd, quad_len, hLp, hr, rdE])<;> rfl) ?_
                    refine Run.o1 (by simp only [go_sem, quad_len]; rw [if_pos (by omega)]; first | rfl | (simp only [go_sem, quad_len] <;> rfl)) ?_
                    iterate 2 (refine Run.o1 V112 ?_)
                    refine Run.nil ?_
                    refine Exec.reg ?_
                    iterate 2 (refine Run.o1 V112 ?_)
                    refine Run.nil ?_
                    refine Exec.cnd V112 (fun hb83 => ?_) (fun hb83 => ?_)
                    · skip
                      refine Exec.reg ?_
                      iterate 2 (refine Run.o1 V112 ?_)
                      refine Run.nild 2 3 V215 V215 ?_
                      refine Run.nil ?_
                      refine BlkK.ret ?_
                      refine WhlK.ret ?_
                      refine BlkK.ret ?_
                      refine BlkK.ret ?_
                      refine WhlK.ret ?_
                      refine BlkK.ret ?_
                      exact Ends.fin [] (rs := [.tmp 2, .tmp 3]) rfl V112 (by simp only [go_sem, htk, hu, hLq, hwd, quad_len, hLp, hr, rdE] <;> first | rfl | exact eqz)
                    · exact absurd hb83 (by simp)
                · skip
                  have h4 : p.1.length = 4 := by have := of_decide_eq_false hb70; have := hX.2.1; omega
                  obtain ⟨a0, c0, d0, e0, hv4⟩ := list_four h4
                  have hX4 : rdX (lz 20 q.2) q.2 ([a0, c0, d0, e0], p.2) := hv4 ▸ hX
                  have hb4 := hX4.2.2.2
                  have hba := hb4 a0 (by simp)
                  have hst4 := stP_step hQ hlt hX4
                  have hwr : IntKind.i64.wrap (lastP 0 q.1 + (a0 : Int)) = lastP 0 q.1 + (a0 : Int) := IntWalk.i64_in _ (by omega)
                  have hls : lastP 0 (q.1 ++ [⟨lastP 0 q.1 + (a0 : Int), c0, d0⟩]) = lastP 0 q.1 + (a0 : Int) := lastP_snoc _ _ _
                  refine Exec.exitS ?_
                  refine WhlK.ext ?_
                  refine BlkK.hit ?_
                  refine Exec.reg ?_
                  refine Run.o1 V118 ?_
                  refine Run.o1 V38 ?_
                  refine Run.o1 V118 ?_
                  refine Run.o1 V36 ?_
                  refine Run.o1 V118 ?_
                  refine Run.nil ?_
                  refine Exec.reg1 ?_
                  iterate 2 (refine Run.o1 V118 ?_)
                  refine Run.o1 V38 ?_
                  refine Run.o1 V118 ?_
                  refine Run.o1 V38 ?_
                  iterate 3 (refine Run.o1 V118 ?_)
                  refine Run.o1 (by simp only [go_sem, htk, hu, hLq, hv4, quad_four, hls, hwr]; (try simp (disch := omega) only [if_pos]); (try simp only [go_sem, htk, hu, hLq, hv4, quad_four, hls, hwr]) <;> first | (refine ite_run ⟨by (try simp only [List.length_append, List.length_drop, List.length_take, List.length_map, List.length_cons, List.length_nil, List.length_replicate, List.length_set, List.length_range, Nat.zero_add]); omega, by (try simp only [List.length_append, List.length_drop, List.length_take, List.length_map, List.length_cons, List.length_nil, List.length_replicate, List.length_set, List.length_range, Nat.zero_add]); omega, by repeat (first | exact al_nil | assumption | refine al_app ?_ ?_ | refine al_drop ?_ | refine al_take ?_ | exact al_map (fun _ => rfl) | exact al_rep rfl | refine al_cons rfl ?_)⟩ ?_; simp only [go_sem, htk, hu, hLq, hv4, quad_four, hls, hwr] <;> rfl) | (refine ite_run ⟨by (try simp only [List.length_append, List.length_drop, List.length_take, List.length_map, List.length_cons, List.length_nil, List.length_replicate, List.length_set, List.length_range, Nat.zero_add]); omega, by repeat (first | exact al_nil | assumption | refine al_app ?_ ?_ | refine al_drop ?_ | refine al_take ?_ | exact al_map (fun _ => rfl) | exact al_rep rfl | refine al_cons rfl ?_)⟩ ?_; simp only [go_sem, htk, hu, hLq, hv4, quad_four, hls, hwr] <;> rfl) | rfl) ?_
                  refine Run.o1 V118 ?_
                  refine Run.nil ?_
                  refine BlkK.nrm ?_
                  refine Exec.reg1 ?_
                  refine Run.o1 V118 ?_
                  refine Run.o1 V36 ?_
                  refine Run.o1 V118 ?_
                  refine Run.nil ?_
                  refine WhlK.nxt ((q.1 ++ [⟨lastP 0 q.1 + (a0 : Int), c0, d0⟩], p.2)) ?_ ?_ ?_
                  · show valB a - (q.1 ++ [_]).length < valB a - q.1.length; rw [List.length_append, List.length_singleton]; omega
                  · exact hst4
                  · exact Ghost.kp [0, 4, 6, 8, 9, 10] [1000] (by simp only [go_sem, htk, hu, hLq, hv4, quad_four, hls, hwr] <;> first | ((repeat' (first | with_reducible_and_instances rfl | refine st_eq ?_ ?_ ?_ | refine ret_eq ?_ | refine tup_eq ?_ | refine tm_eq ?_ ?_ | refine arr_eq ?_ | refine cells_eq ?_ | refine val_eq ?_ | refine ls_eq ?_ ?_ | refine own_eq ?_ ?_ | refine sl_eq ?_ | refine b_eq ?_ | (refine i_eq ?_; omega))); all_goals (first | omega | (simp [encPl]; done) | (simp; omega))) | rfl)
            · skip
              have hqe : q.1.length = valB a := by have := of_decide_eq_false hb46; have := hX.2.1; omega
              have hp : platesL (valB a) 0 r = some q := by rw [← hqe]; exact hX.1
              have hrq : readP b = if platesE q.1 = 0 ∧ platesBy q.1 = b then some q.1 else none := by rw [hra, if_neg hn60, hp]; rfl
              have hta : List.take q.1.length (List.map encPl q.1) = List.map encPl q.1 := List.take_of_length_le (by simp)
              refine Exec.exitS ?_
              refine WhlK.ext ?_
              refine BlkK.hit ?_
              refine Exec.reg ?_
              refine Run.frz 1000 V198 ?_
              refine Run.o1 V175 ?_
              refine Run.c1 (c_ref_WritePlates q.1 (by omega)) V175 V175 ?_
              iterate 5 (refine Run.o1 V175 ?_)
              refine Run.nil ?_
              refine Exec.assocS ?_
              by_cases g1 : platesE q.1 = 0
              · skip
                by_cases g2 : wPlates q.1 = b
                · skip
                  have hw : wPlates q.1 = platesBy q.1 := if_pos g1
                  have hr : readP b = some q.1 := by rw [hrq, if_pos ⟨g1, hw ▸ g2⟩]
                  have hg2 : (wPlates q.1 == b) = true := by simpa using g2
                  refine Exec.reg ?_
                  iterate 3 (refine Run.o1 V130 ?_)
                  refine Run.y1 V130 ?_
                  refine Run.val (semV_btos Tryz.underlying53 Tryz.underlying5 Tryz.underlying9 (l := wPlates q.1) (.inl V215)) V215 V215 ?_
                  refine Run.y1 V130 ?_
                  refine Run.val (semV_btos Tryz.underlying53 Tryz.underlying5 Tryz.underlying9 (l := b) (.inl V215)) V215 V215 ?_
                  refine Run.y1 V130 ?_
                  refine Run.o1 V130 ?_
                  refine Run.nil ?_
                  refine Exec.cndS V130 (fun hb111 => ?_) (fun hb111 => ?_)
                  · exact absurd hb111 (by simp)
                  · skip
                    refine Exec.skipS ?_
                    refine Exec.reg ?_
                    iterate 3 (refine Run.o1 V130 ?_)
                    refine Run.nil ?_
                    exact Ends.fin [] (rs := [.tmp 2, .tmp 3]) rfl V130 (by simp only [go_sem, htk, hu, hta, g1, hr, rdE, hg2] <;> first | rfl | exact eqz)
                · skip
                  have hw : wPlates q.1 = platesBy q.1 := if_pos g1
                  have hr : readP b = none := by rw [hrq, if_neg (fun h => g2 (hw.trans h.2))]
                  have hg2 : (wPlates q.1 == b) = false := by simpa using g2
                  refine Exec.reg ?_
                  iterate 3 (refine Run.o1 V130 ?_)
                  refine Run.y1 V130 ?_
                  refine Run.val (semV_btos Tryz.underlying53 Tryz.underlying5 Tryz.underlying9 (l := wPlates q.1) (.inl V215)) V215 V215 ?_
                  refine Run.y1 V130 ?_
                  refine Run.val (semV_btos Tryz.underlying53 Tryz.underlying5 Tryz.underlying9 (l := b) (.inl V215)) V215 V215 ?_
                  refine Run.y1 V130 ?_
                  refine Run.o1 V130 ?_
                  refine Run.nil ?_
                  refine Exec.cndS V130 (fun hb111 => ?_) (fun hb111 => ?_)
                  · skip
                    refine Exec.assocS ?_
                    refine Exec.reg ?_
                    iterate 2 (refine Run.o1 V130 ?_)
                    refine Run.nild 2 3 V215 V215 ?_
                    refine Run.nil ?_
                    refine Exec.retS ?_
                    exact Ends.fin [] (rs := [.tmp 2, .tmp 3]) rfl V130 (by simp only [go_sem, htk, hu, hta, g1, hr, rdE, hg2] <;> first | rfl | exact eqz)
                  · exact absurd hb111 (by simp)
              · skip
                have hr : readP b = none := by rw [hrq, if_neg (fun h => g1 h.1)]
                have hg1 : (platesE q.1 != 0) = true := by simpa using g1
                refine Exec.reg ?_
                iterate 3 (refine Run.o1 V140 ?_)
                iterate 5 (refine Run.s ?_)
                refine Run.o1 V140 ?_
                refine Run.nil ?_
                refine Exec.cndS V140 (fun hb111 => ?_) (fun hb111 => ?_)
                · skip
                  refine Exec.assocS ?_
                  refine Exec.reg ?_
                  iterate 2 (refine Run.o1 V140 ?_)
                  refine Run.nild 2 3 V215 V215 ?_
                  refine Run.nil ?_
                  refine Exec.retS ?_
                  exact Ends.fin [] (rs := [.tmp 2, .tmp 3]) rfl V140 (by simp only [go_sem, htk, hu, hta, hr, rdE, hg1] <;> first | rfl | exact eqz)
                · exact absurd hb111 (by simp)

end Go.Mw

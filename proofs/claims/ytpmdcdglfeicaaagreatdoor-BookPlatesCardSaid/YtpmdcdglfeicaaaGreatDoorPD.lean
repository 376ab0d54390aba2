/- Tactics that stand in many places, each by a name. -/
import Derived.WalkKit
namespace Go
theorem V1 {p : Prop} (h : p := by exact ⟨by first | exact WkR.pure rfl | exact WkR.of rfl rfl | exact WkR.nil _ | exact WkR.int (by first | omega | (simp; done) | (simp; omega)) | exact WkR.fptW rfl ⟨by first | exact .inl rfl | exact .inr rfl, by first | exact .inl rfl | exact .inr rfl, by first | exact .inl rfl | exact .inr rfl, by first | exact .inl rfl | exact .inr rfl, by first | exact .inl rfl | exact .inr rfl, by first | exact .inl rfl | exact .inr rfl, trivial⟩, by first | exact WkR.pure rfl | exact WkR.of rfl rfl | exact WkR.nil _ | exact WkR.int (by first | omega | (simp; done) | (simp; omega)) | exact WkR.fptW rfl ⟨by first | exact .inl rfl | exact .inr rfl, by first | exact .inl rfl | exact .inr rfl, by first | exact .inl rfl | exact .inr rfl, by first | exact .inl rfl | exact .inr rfl, by first | exact .inl rfl | exact .inr rfl, by first | exact .inl rfl | exact .inr rfl, trivial⟩, by first | exact WkR.pure rfl | exact WkR.of rfl rfl | exact WkR.nil _ | exact WkR.int (by first | omega | (simp; done) | (simp; omega)) | exact WkR.fptW rfl ⟨by first | exact .inl rfl | exact .inr rfl, by first | exact .inl rfl | exact .inr rfl, by first | exact .inl rfl | exact .inr rfl, by first | exact .inl rfl | exact .inr rfl, by first | exact .inl rfl | exact .inr rfl, by first | exact .inl rfl | exact .inr rfl, trivial⟩, trivial⟩) : p := h
theorem V2 {p : Prop} (h : p := by simp only [go_sem, hv8, g3, hok, htl]; (try simp (disch := omega) only [if_pos]); (try simp only [go_sem, hv8, g3, hok, htl]) <;> first | (refine ite_run ⟨by (try simp only [List.length_append, List.length_drop, List.length_take, List.length_map, List.length_cons, List.length_nil, List.length_replicate, List.length_set, List.length_range, Nat.zero_add]); omega, by (try simp only [List.length_append, List.length_drop, List.length_take, List.length_map, List.length_cons, List.length_nil, List.length_replicate, List.length_set, List.length_range, Nat.zero_add]); omega, by repeat (first | exact al_nil | assumption | refine al_app ?_ ?_ | refine al_drop ?_ | refine al_take ?_ | exact al_map (fun _ => rfl) | exact al_rep rfl | refine al_cons rfl ?_)⟩ ?_; simp only [go_sem, hv8, g3, hok, htl] <;> rfl) | (refine ite_run ⟨by (try simp only [List.length_append, List.length_drop, List.length_take, List.length_map, List.length_cons, List.length_nil, List.length_replicate, List.length_set, List.length_range, Nat.zero_add]); omega, by repeat (first | exact al_nil | assumption | refine al_app ?_ ?_ | refine al_drop ?_ | refine al_take ?_ | exact al_map (fun _ => rfl) | exact al_rep rfl | refine al_cons rfl ?_)⟩ ?_; simp only [go_sem, hv8, g3, hok, htl] <;> rfl) | rfl) : p := h
theorem V3 {p : Prop} (h : p := by exact ⟨by first | exact WkR.pure rfl | exact WkR.of rfl rfl | exact WkR.nil _ | exact WkR.int (by first | omega | (simp; done) | (simp; omega)) | exact WkR.fptW rfl ⟨by first | exact .inl rfl | exact .inr rfl, by first | exact .inl rfl | exact .inr rfl, by first | exact .inl rfl | exact .inr rfl, by first | exact .inl rfl | exact .inr rfl, by first | exact .inl rfl | exact .inr rfl, by first | exact .inl rfl | exact .inr rfl, trivial⟩, by first | exact WkR.pure rfl | exact WkR.of rfl rfl | exact WkR.nil _ | exact WkR.int (by first | omega | (simp; done) | (simp; omega)) | exact WkR.fptW rfl ⟨by first | exact .inl rfl | exact .inr rfl, by first | exact .inl rfl | exact .inr rfl, by first | exact .inl rfl | exact .inr rfl, by first | exact .inl rfl | exact .inr rfl, by first | exact .inl rfl | exact .inr rfl, by first | exact .inl rfl | exact .inr rfl, trivial⟩, trivial⟩) : p := h
theorem V4 {p : Prop} (h : p := by exact ⟨by first | exact WkR.pure rfl | exact WkR.of rfl rfl | exact WkR.nil _ | exact WkR.int (by first | omega | (simp; done) | (simp; omega)) | exact WkR.fptW rfl ⟨by first | exact .inl rfl | exact .inr rfl, by first | exact .inl rfl | exact .inr rfl, by first | exact .inl rfl | exact .inr rfl, by first | exact .inl rfl | exact .inr rfl, by first | exact .inl rfl | exact .inr rfl, by first | exact .inl rfl | exact .inr rfl, trivial⟩, trivial⟩) : p := h
theorem V5 {p : Prop} (h : p := by simp only [go_sem, rk, f00, f01, f02, f03, f10, f11, f12, f13, f20, f21, f22, f23, colsT, cz, ca] <;> first | ((repeat' (first | with_reducible_and_instances rfl | refine st_eq ?_ ?_ ?_ | refine ret_eq ?_ | refine tup_eq ?_ | refine tm_eq ?_ ?_ | refine arr_eq ?_ | refine cells_eq ?_ | refine val_eq ?_ | refine ls_eq ?_ ?_ | refine own_eq ?_ ?_ | refine sl_eq ?_ | refine b_eq ?_ | (refine i_eq ?_; omega))); all_goals rfl) | rfl) : p := h
theorem V6 {p : Prop} (h : p := by simp only [go_sem, List.map_cons, List.length_cons, List.length_map, hil, hgt, hgt2, List.getElem?_cons_zero, List.drop_succ_cons, List.drop_zero, Int.natCast_add, Int.natCast_one]; (try simp (disch := omega) only [if_pos]); (try simp only [go_sem, List.map_cons, List.length_cons, List.length_map, hil, hgt, hgt2, List.getElem?_cons_zero, List.drop_succ_cons, List.drop_zero, Int.natCast_add, Int.natCast_one])<;> rfl) : p := h
theorem V7 {p : Prop} (h : p := by simp only [go_sem, hv8, g3, hok, htl] <;> first | ((repeat' (first | with_reducible_and_instances rfl | refine st_eq ?_ ?_ ?_ | refine ret_eq ?_ | refine tup_eq ?_ | refine tm_eq ?_ ?_ | refine arr_eq ?_ | refine cells_eq ?_ | refine val_eq ?_ | refine ls_eq ?_ ?_ | refine own_eq ?_ ?_ | refine sl_eq ?_ | refine b_eq ?_ | (refine i_eq ?_; omega))); all_goals (first | omega | (rw [hts]; simp [encPl]; done))) | rfl) : p := h
theorem V8 {p : Prop} (h : p := by simp only [go_sem] <;> first | ((repeat' (first | with_reducible_and_instances rfl | refine st_eq ?_ ?_ ?_ | refine ret_eq ?_ | refine tup_eq ?_ | refine tm_eq ?_ ?_ | refine arr_eq ?_ | refine cells_eq ?_ | refine val_eq ?_ | refine ls_eq ?_ ?_ | refine own_eq ?_ ?_ | refine sl_eq ?_ | refine b_eq ?_ | (refine i_eq ?_; omega))); all_goals (first | omega | (rw [hon]; omega) | (rw [hvl]; omega))) | rfl) : p := h
theorem V9 {p : Prop} (h : p := by simp only [go_sem, hr, byD_nil] <;> first | rfl | ((repeat' (first | with_reducible_and_instances rfl | refine st_eq ?_ ?_ ?_ | refine ret_eq ?_ | refine tup_eq ?_ | refine tm_eq ?_ ?_ | refine arr_eq ?_ | refine cells_eq ?_ | refine val_eq ?_ | refine ls_eq ?_ ?_ | refine own_eq ?_ ?_ | refine sl_eq ?_ | refine b_eq ?_ | (refine i_eq ?_; omega))); all_goals exact byD_nil)) : p := h
theorem V10 {p : Prop} (h : p := by exact ⟨by first | exact WkR.pure rfl | exact WkR.nil _ | exact WkR.int (by first | omega | (simp; done) | (simp; omega)), by first | exact WkR.pure rfl | exact WkR.nil _ | exact WkR.int (by first | omega | (simp; done) | (simp; omega)), by first | exact WkR.pure rfl | exact WkR.nil _ | exact WkR.int (by first | omega | (simp; done) | (simp; omega)), trivial⟩) : p := h
theorem V11 {p : Prop} (h : p := by exact ⟨by first | exact WkR.pure rfl | exact WkR.of rfl rfl | exact WkR.nil _ | exact WkR.int (by first | omega | (simp; done) | (simp; omega)), by first | exact WkR.pure rfl | exact WkR.of rfl rfl | exact WkR.nil _ | exact WkR.int (by first | omega | (simp; done) | (simp; omega)), trivial⟩) : p := h
theorem V12 {p : Prop} (h : p := by intro p hp; simp only [List.mem_cons, List.not_mem_nil, or_false] at hp; rcases hp with rfl | rfl <;> (first | exact ⟨_, rfl, back_refl _⟩ | exact ⟨_, rfl, _, rfl, by simp [byD, pack_len]; omega⟩ | exact ⟨_, rfl, _, rfl, by simp [byD, pack_len]⟩ | exact ⟨_, rfl, _, rfl⟩)) : p := h
theorem V13 {p : Prop} (h : p := by simp only [go_sem, rk, f00, f01, f02, f03, f10, f11, f12, f13, f20, f21, f22, f23, colsT, cz, ca]; (try simp (disch := omega) only [if_pos]); (try simp only [go_sem, rk, f00, f01, f02, f03, f10, f11, f12, f13, f20, f21, f22, f23, colsT, cz, ca])<;> rfl) : p := h
theorem V14 {p : Prop} (h : p := by exact ⟨by first | exact WkR.pure rfl | exact WkR.nil _ | exact WkR.int (by first | omega | (simp; done) | (simp; omega)), by first | exact WkR.pure rfl | exact WkR.nil _ | exact WkR.int (by first | omega | (simp; done) | (simp; omega)), trivial⟩) : p := h
theorem V15 {p : Prop} (h : p := by simp only [go_sem, Bool.toNat_false, Bool.toNat_true, Int.natCast_zero, Int.natCast_one, Int.add_zero, h00, h10, hle]; (try simp (disch := omega) only [IntWalk.i64_in, IntWalk.u64_in, IntWalk.i32_in, IntWalk.u8_in, if_neg, if_pos])<;> rfl) : p := h
theorem V16 {p : Prop} (h : p := by simp only [go_sem, hx, hy, t0, hw, hg, hgl, g1, g1b, t1, t2, hget, hwn, hbq, hmc, hset]; (try simp (disch := omega) only [if_pos]); (try simp only [go_sem, hx, hy, t0, hw, hg, hgl, g1, g1b, t1, t2, hget, hwn, hbq, hmc, hset])<;> rfl) : p := h
theorem V17 {p : Prop} (h : p := by exact ⟨by first | exact WkR.pure rfl | exact WkR.of rfl rfl | exact WkR.int (by first | omega | (simp; done)), by first | exact WkR.pure rfl | exact WkR.of rfl rfl | exact WkR.int (by first | omega | (simp; done)), trivial⟩) : p := h
theorem V18 {p : Prop} (h : p := by simp only [go_sem, hx, g1, Bool.not_true, g2, Bool.not_true, g3, Bool.not_false]; (try simp (disch := omega) only [if_pos]); (try simp only [go_sem, hx, g1, Bool.not_true, g2, Bool.not_true, g3, Bool.not_false])<;> rfl) : p := h
theorem V19 {p : Prop} (h : p := by simp only [go_sem, rk, f00, f01, f02, f03, f10, f11, f12, f13, f20, f21, f22, f23, colsT, cz, ca]; (try simp (disch := omega) only [IntWalk.i64_in, IntWalk.u64_in, IntWalk.i32_in, IntWalk.u8_in, if_neg, if_pos])<;> rfl) : p := h
theorem V20 {p : Prop} (h : p := by simp only [go_sem, hx, g1, Bool.not_true, g2, Bool.not_true, g3, Bool.not_true]; (try simp (disch := omega) only [if_pos]); (try simp only [go_sem, hx, g1, Bool.not_true, g2, Bool.not_true, g3, Bool.not_true])<;> rfl) : p := h
theorem V21 {p : Prop} (h : p := by intro p hp n hn; simp only [List.mem_cons, List.not_mem_nil, or_false] at hp; rcases hp with rfl <;> (simp [look] at hn; subst hn; simp only [go_sem, hke, Nat.sub_self, List.replicate_zero, List.nil_append] <;> rfl)) : p := h
theorem V22 {p : Prop} (h : p := by simp only [go_sem, hx, hy, t0, hw, hg, hgl, g1, g1b, t1, t2, hget, hwn, hbq]; (try simp (disch := omega) only [if_pos]); (try simp only [go_sem, hx, hy, t0, hw, hg, hgl, g1, g1b, t1, t2, hget, hwn, hbq])<;> rfl) : p := h
theorem V23 {p : Prop} (h : p := by simp only [go_sem, hx, hy, t0, hw, hg, hgl, g1, g1b, t1, t2, hget, hwn, hbq, hmc, hset]; (try simp (disch := omega) only [IntWalk.i64_in, IntWalk.u64_in, IntWalk.i32_in, IntWalk.u8_in, if_neg, if_pos])<;> rfl) : p := h
theorem V24 {p : Prop} (h : p := by intro p hp; simp only [List.mem_cons, List.not_mem_nil, or_false] at hp; rcases hp with rfl | rfl <;> (first | exact ⟨_, rfl, back_refl _⟩ | exact ⟨_, rfl, _, rfl, by simp [byD]⟩ | exact ⟨_, rfl, _, rfl⟩)) : p := h
theorem V25 {p : Prop} (h : p := by intro p hp; simp only [List.mem_cons, List.not_mem_nil, or_false] at hp; rcases hp with rfl | rfl <;> (first | exact ⟨_, rfl, back_refl _⟩ | exact ⟨_, rfl, _, rfl, by simp⟩ | exact ⟨_, rfl, _, rfl⟩)) : p := h
theorem V26 {p : Prop} (h : p := by simp only [go_sem, hx, hy, t0, hw, hg, hgl, g1, g1b, t1, t2, hget, hwn, hbq]; (try simp (disch := omega) only [IntWalk.i64_in, IntWalk.u64_in, IntWalk.i32_in, IntWalk.u8_in, if_neg, if_pos])<;> rfl) : p := h
theorem V27 {p : Prop} (h : p := by simp only [go_sem, hr, he0, hsk, htm1, hje, hbs, hbL, hg, hbn2, hw8, tij]; (try simp (disch := omega) only [IntWalk.i64_in, IntWalk.u64_in, IntWalk.i32_in, IntWalk.u8_in, if_neg, if_pos])<;> rfl) : p := h
theorem V28 {p : Prop} (h : p := by intro p hp; simp only [List.mem_cons, List.not_mem_nil, or_false] at hp; rcases hp with rfl <;> (first | exact ⟨_, rfl, back_refl _⟩ | exact ⟨_, rfl, _, rfl, by simp⟩ | exact ⟨_, rfl, _, rfl⟩)) : p := h
theorem V29 {p : Prop} (h : p := by first | rfl | (simp only [List.all_cons, List.all_nil, inn_bk, Bool.and_true, Bool.true_and]; done) | (simp only [List.all_cons, List.all_nil, inn_bk, Bool.and_true, Bool.true_and] <;> rfl)) : p := h
theorem V30 {p : Prop} (h : p := by simp only [go_sem, List.map_cons, List.length_cons, List.length_map, hil, hgt, hgt2, List.getElem?_cons_zero, List.drop_succ_cons, List.drop_zero, Int.natCast_add, Int.natCast_one] <;> rfl) : p := h
theorem V31 {p : Prop} (h : p := by simp only [go_sem, reduceCtorEq, if_false, hsh, hor, htm, hlb]; (try simp (disch := omega) only [IntWalk.i64_in, IntWalk.u64_in, IntWalk.i32_in, IntWalk.u8_in, if_neg, if_pos])<;> rfl) : p := h
theorem V32 {p : Prop} (h : p := by intro p hp n hn; simp only [List.mem_cons, List.not_mem_nil, or_false] at hp; rcases hp with rfl <;> (simp [look] at hn; subst hn; simp only [go_sem, hrs, List.cons_append] <;> rfl)) : p := h
theorem V33 {p : Prop} (h : p := by intro p hp n hn; simp only [List.mem_cons, List.not_mem_nil, or_false] at hp; rcases hp with rfl <;> (simp [look] at hn; subst hn; simp only [go_sem, g2, List.append_assoc] <;> rfl)) : p := h
theorem V34 {p : Prop} (h : p := by simp only [go_sem, hx, g1, Bool.not_true, g2, Bool.not_false]; (try simp (disch := omega) only [if_pos]); (try simp only [go_sem, hx, g1, Bool.not_true, g2, Bool.not_false])<;> rfl) : p := h
theorem V35 {p : Prop} (h : p := by simp only [go_sem, hr, he0, hsk, htm1, hje, hbs, hbL, hw8]; (try simp (disch := omega) only [IntWalk.i64_in, IntWalk.u64_in, IntWalk.i32_in, IntWalk.u8_in, if_neg, if_pos])<;> rfl) : p := h
theorem V36 {p : Prop} (h : p := by simp only [go_sem, htk, hu, hLq, hv4, quad_four, hls, hwr]; (try simp (disch := omega) only [IntWalk.i64_in, IntWalk.u64_in, IntWalk.i32_in, IntWalk.u8_in, if_neg, if_pos])<;> rfl) : p := h
theorem V37 {p : Prop} (h : p := by simp only [go_sem, any_not, gt_iff_lt, hx, g1, hy, t1]; (try simp (disch := omega) only [IntWalk.i64_in, IntWalk.u64_in, IntWalk.i32_in, IntWalk.u8_in, if_neg, if_pos])<;> rfl) : p := h
theorem V38 {p : Prop} (h : p := by simp only [go_sem, htk, hu, hLq, hv4, quad_four, hls, hwr]; (try simp (disch := omega) only [if_pos]); (try simp only [go_sem, htk, hu, hLq, hv4, quad_four, hls, hwr])<;> rfl) : p := h
theorem V39 {p : Prop} (h : p := by simp only [go_sem, hsl, hge, hge2, hg, hbn, hw8]; (try simp (disch := omega) only [IntWalk.i64_in, IntWalk.u64_in, IntWalk.i32_in, IntWalk.u8_in, if_neg, if_pos])<;> rfl) : p := h
theorem V40 {p : Prop} (h : p := by simp only [go_sem, h64, t1, w2, t2, hx, hy, e3]; (try simp (disch := omega) only [IntWalk.i64_in, IntWalk.u64_in, IntWalk.i32_in, IntWalk.u8_in, if_neg, if_pos])<;> rfl) : p := h
theorem V41 {p : Prop} (h : p := by simp only [go_sem, any_not, gt_iff_lt, hx, g1]; (try simp (disch := omega) only [IntWalk.i64_in, IntWalk.u64_in, IntWalk.i32_in, IntWalk.u8_in, if_neg, if_pos])<;> rfl) : p := h
theorem V42 {p : Prop} (h : p := by simp only [go_sem, any_not, gt_iff_lt, hx, g1, hy, t1]; (try simp (disch := omega) only [if_pos]); (try simp only [go_sem, any_not, gt_iff_lt, hx, g1, hy, t1])<;> rfl) : p := h
theorem V43 {p : Prop} (h : p := by intro p hp n hn; simp only [List.mem_cons, List.not_mem_nil, or_false] at hp; rcases hp with rfl | rfl <;> (simp [look] at hn; subst hn; simp only [go_sem] <;> rfl)) : p := h
theorem V44 {p : Prop} (h : p := by intro p hp n hn; simp only [List.mem_cons, List.not_mem_nil, or_false] at hp; rcases hp with rfl <;> (simp [look] at hn; subst hn; simp only [go_sem, hdk] <;> rfl)) : p := h
theorem V45 {p : Prop} (h : p := by simp only [go_sem, hx, hy, t0, hw, hz, g1]; (try simp (disch := omega) only [IntWalk.i64_in, IntWalk.u64_in, IntWalk.i32_in, IntWalk.u8_in, if_neg, if_pos])<;> rfl) : p := h
theorem V46 {p : Prop} (h : p := by simp only [go_sem, htd, htm, hb, hm, ha]; (try simp (disch := omega) only [IntWalk.i64_in, IntWalk.u64_in, IntWalk.i32_in, IntWalk.u8_in, if_neg, if_pos])<;> rfl) : p := h
theorem V47 {p : Prop} (h : p := by simp only [go_sem, hq, hm, h64, hw, ht]; (try simp (disch := omega) only [IntWalk.i64_in, IntWalk.u64_in, IntWalk.i32_in, IntWalk.u8_in, if_neg, if_pos])<;> rfl) : p := h
theorem V48 {p : Prop} (h : p := by intro p hp n hn; simp only [List.mem_cons, List.not_mem_nil, or_false] at hp; rcases hp with rfl <;> (simp [look] at hn; subst hn; simp only [go_sem] <;> rfl)) : p := h
theorem V49 {p : Prop} (h : p := by simp only [go_sem, hv8, g3, hok, htl]; (try simp (disch := omega) only [IntWalk.i64_in, IntWalk.u64_in, IntWalk.i32_in, IntWalk.u8_in, if_neg, if_pos])<;> rfl) : p := h
theorem V50 {p : Prop} (h : p := by simp only [go_sem, hsl, hg, hbn, hw8]; (try simp (disch := omega) only [IntWalk.i64_in, IntWalk.u64_in, IntWalk.i32_in, IntWalk.u8_in, if_neg, if_pos])<;> rfl) : p := h
theorem V51 {p : Prop} (h : p := by simp only [go_sem, hx, hbd, hg, hp]; (try simp (disch := omega) only [IntWalk.i64_in, IntWalk.u64_in, IntWalk.i32_in, IntWalk.u8_in, if_neg, if_pos])<;> rfl) : p := h
theorem V52 {p : Prop} (h : p := by simp only [go_sem, hx, hy2, t1, t2]; (try simp (disch := omega) only [IntWalk.i64_in, IntWalk.u64_in, IntWalk.i32_in, IntWalk.u8_in, if_neg, if_pos])<;> rfl) : p := h
theorem V53 {p : Prop} (h : p := by simp only [go_sem, hxb, hst, hc63]; (try simp (disch := omega) only [IntWalk.i64_in, IntWalk.u64_in, IntWalk.i32_in, IntWalk.u8_in, if_neg, if_pos])<;> rfl) : p := h
theorem V54 {p : Prop} (h : p := by simp only [go_sem, htm, hss, hop]; (try simp (disch := omega) only [IntWalk.i64_in, IntWalk.u64_in, IntWalk.i32_in, IntWalk.u8_in, if_neg, if_pos])<;> rfl) : p := h
theorem V55 {p : Prop} (h : p := by simp only [go_sem, Int.zero_add]; (try simp (disch := omega) only [IntWalk.i64_in, IntWalk.u64_in, IntWalk.i32_in, IntWalk.u8_in, if_neg, if_pos])<;> rfl) : p := h
theorem V56 {p : Prop} (h : p := by simp only [go_sem, Bool.toNat_false, Bool.toNat_true, Int.natCast_zero, Int.natCast_one, Int.add_zero, h00, h10, Int.natCast_zero, Nat.sub_zero] <;> rfl) : p := h
theorem V57 {p : Prop} (h : p := by simp only [go_sem, h64, t1, w2, t2, hx, hy, e3]; (try simp (disch := omega) only [if_pos]); (try simp only [go_sem, h64, t1, w2, t2, hx, hy, e3])<;> rfl) : p := h
theorem V58 {p : Prop} (h : p := by simp only [go_sem, hx, hhd, hfb, ht0, hj, hrb]; (try simp (disch := omega) only [if_pos]); (try simp only [go_sem, hx, hhd, hfb, ht0, hj, hrb])<;> rfl) : p := h
theorem V59 {p : Prop} (h : p := by simp only [go_sem, hto, hev]; (try simp (disch := omega) only [IntWalk.i64_in, IntWalk.u64_in, IntWalk.i32_in, IntWalk.u8_in, if_neg, if_pos])<;> rfl) : p := h
theorem V60 {p : Prop} (h : p := by simp only [go_sem, hmx, pad]; (try simp (disch := omega) only [IntWalk.i64_in, IntWalk.u64_in, IntWalk.i32_in, IntWalk.u8_in, if_neg, if_pos])<;> rfl) : p := h
theorem V61 {p : Prop} (h : p := by simp only [go_sem, Bool.toNat_false, Bool.toNat_true, Int.natCast_zero, Int.natCast_one, Int.add_zero, h00, h10, hle] <;> first | exact eqz | rfl) : p := h
theorem V62 {p : Prop} (h : p := by simp only [go_sem, hg]; (try simp (disch := omega) only [IntWalk.i64_in, IntWalk.u64_in, IntWalk.i32_in, IntWalk.u8_in, if_neg, if_pos])<;> rfl) : p := h
theorem V63 {p : Prop} (h : p := by simp only [go_sem, hs]; (try simp (disch := omega) only [IntWalk.i64_in, IntWalk.u64_in, IntWalk.i32_in, IntWalk.u8_in, if_neg, if_pos])<;> rfl) : p := h
theorem V64 {p : Prop} (h : p := by simp only [go_sem, hr]; (try simp (disch := omega) only [IntWalk.i64_in, IntWalk.u64_in, IntWalk.i32_in, IntWalk.u8_in, if_neg, if_pos])<;> rfl) : p := h
theorem V65 {p : Prop} (h : p := by simp only [go_sem, hx, hy, t0, hw, hz, g1]; (try simp (disch := omega) only [if_pos]); (try simp only [go_sem, hx, hy, t0, hw, hz, g1])<;> rfl) : p := h
theorem V66 {p : Prop} (h : p := by simp only [go_sem]; (try simp (disch := omega) only [IntWalk.i64_in, IntWalk.u64_in, IntWalk.i32_in, IntWalk.u8_in, if_neg, if_pos])<;> rfl) : p := h
theorem V67 {p : Prop} (h : p := by simp only [go_sem, Bool.toNat_false, Bool.toNat_true, Int.natCast_zero, Int.natCast_one, Int.add_zero, h00, h10, hs1, hs2, hle] <;> rfl) : p := h
theorem V68 {p : Prop} (h : p := by simp only [go_sem, Bool.toNat_false, Bool.toNat_true, Int.natCast_zero, Int.natCast_one, Int.add_zero, h00, h10, hs1, hs2, hke] <;> rfl) : p := h
theorem V69 {p : Prop} (h : p := by exact ⟨by first | exact WkR.pure rfl | exact WkR.nil _ | exact WkR.int (by first | omega | (simp; done) | (simp; omega)), trivial⟩) : p := h
theorem V70 {p : Prop} (h : p := by simp only [go_sem, Bool.toNat_false, Bool.toNat_true, Int.natCast_zero, Int.natCast_one, Int.add_zero, h00, h10, hs1, hs2] <;> rfl) : p := h
theorem V71 {p : Prop} (h : p := by simp only [go_sem, Bool.toNat_false, Bool.toNat_true, Int.natCast_zero, Int.natCast_one, Int.add_zero, h00, h10, hs1, hle] <;> rfl) : p := h
theorem V72 {p : Prop} (h : p := by simp only [go_sem, Bool.toNat_false, Bool.toNat_true, Int.natCast_zero, Int.natCast_one, Int.add_zero, h00, h10, hs1, hke] <;> rfl) : p := h
theorem V73 {p : Prop} (h : p := by simp only [go_sem, hx, hbd, hg, hp]; (try simp (disch := omega) only [if_pos]); (try simp only [go_sem, hx, hbd, hg, hp])<;> rfl) : p := h
theorem V74 {p : Prop} (h : p := by simp only [go_sem, hx, hy2, t1, t2]; (try simp (disch := omega) only [if_pos]); (try simp only [go_sem, hx, hy2, t1, t2])<;> rfl) : p := h
theorem V75 {p : Prop} (h : p := by simp only [go_sem, htk, hdk, gn, List.nil_append, hta, hir, hl8, hpe, h00, List.length_map, hrt, ho, Int.natCast_zero] <;> rfl) : p := h
theorem V76 {p : Prop} (h : p := by simp only [go_sem, Bool.toNat_false, Bool.toNat_true, Int.natCast_zero, Int.natCast_one, Int.add_zero, h00, h10, hle] <;> rfl) : p := h
theorem V77 {p : Prop} (h : p := by simp only [go_sem, Bool.toNat_false, Bool.toNat_true, Int.natCast_zero, Int.natCast_one, Int.add_zero, h00, h10, hs1] <;> rfl) : p := h
theorem V78 {p : Prop} (h : p := by intro p hp hn; simp only [List.mem_cons, List.not_mem_nil, or_false] at hp; rcases hp with rfl | rfl <;> simp [look] at hn) : p := h
theorem V79 {p : Prop} (h : p := by simp only [go_sem, Bool.toNat_false, Bool.toNat_true, Int.natCast_zero, Int.natCast_one, Int.add_zero, h00, h10] <;> rfl) : p := h
theorem V80 {p : Prop} (h : p := by exact ⟨by first | exact WkR.pure rfl | exact WkR.of rfl rfl | exact WkR.int (by first | omega | (simp; done)), trivial⟩) : p := h
theorem V81 {p : Prop} (h : p := by simp only [go_sem, hv8, Int.natCast_zero, List.take_zero, List.drop_zero, lastP_nil, oneP_zero, List.map_nil] <;> rfl) : p := h
theorem V82 {p : Prop} (h : p := by intro p hp hn; simp only [List.mem_cons, List.not_mem_nil, or_false] at hp; rcases hp with rfl <;> simp [look] at hn) : p := h
theorem V83 {p : Prop} (h : p := by simp only [go_sem, rk, f00, f01, f02, f03, f10, f11, f12, f13, f20, f21, f22, f23, colsT, cz, ca] <;> rfl) : p := h
theorem V84 {p : Prop} (h : p := by first | exact .inr ⟨rfl, hs, by simp only [go_sem] <;> rfl⟩ | exact .inl (by simp only [go_sem] <;> rfl)) : p := h
theorem V85 {p : Prop} (h : p := by simp only [go_sem, hs]; (try simp (disch := omega) only [if_pos]); (try simp only [go_sem, hs])<;> rfl) : p := h
theorem V86 {p : Prop} (h : p := by simp only [go_sem, rk, f00, f01, f02, f03, f10, f11, f12, f13, f20, f21, f22, f23, colsT, cz] <;> rfl) : p := h
theorem V87 {p : Prop} (h : p := by intro q q' n h h'; by_cases e : q = 911 <;> by_cases e' : q' = 911 <;> simp [look, e, e'] at h h' ⊢) : p := h
theorem V88 {p : Prop} (h : p := by simp only [go_sem, htk, hdk, gn, List.nil_append, hta, hir, hl8, hpe, h00, List.length_map] <;> rfl) : p := h
theorem V89 {p : Prop} (h : p := by simp only [go_sem, htk, hdk, gn, List.nil_append, hta, hir, h00, List.length_map, hl8, hpf] <;> rfl) : p := h
theorem V90 {p : Prop} (h : p := by simp only [go_sem, htk, hdk, gn, List.nil_append, hta, hir, h00, List.length_map, hl8, hpe] <;> rfl) : p := h
theorem V91 {p : Prop} (h : p := by exact ⟨by first | exact WkR.pure rfl | exact WkR.nil _ | exact WkR.int (by omega), wkr_caps _ _ _⟩) : p := h
theorem V92 {p : Prop} (h : p := by simp only [go_sem, any_not, gt_iff_lt, hx, g1, hy, t1, hyes, hno, hr] <;> first | rfl | exact eqz) : p := h
theorem V93 {p : Prop} (h : p := by simp only [go_sem, hx, hy, t0, hw, hg, hgl, g1, g1b, t1, t2, hget, hwn, hbq, hmc, hset] <;> rfl) : p := h
theorem V94 {p : Prop} (h : p := by simp only [go_sem, htk, hdk, gn, List.nil_append, hta, hir, h00, List.length_map, hl8] <;> rfl) : p := h
theorem V95 {p : Prop} (h : p := by simp only [go_sem, hx, g1, Bool.not_true, g2, Bool.not_true, g3, Bool.not_false] <;> rfl) : p := h
theorem V96 {p : Prop} (h : p := by simp only [go_sem, hx, g1, Bool.not_true, g2, Bool.not_true, g3, Bool.not_true] <;> rfl) : p := h
theorem V97 {p : Prop} (h : p := by simp only [go_sem, hx, hy, t0, hw, hg, hgl, g1, g1b, t1, t2, hget, hwn, hbq] <;> rfl) : p := h
theorem V98 {p : Prop} (h : p := by simp only [go_sem, reduceCtorEq, if_false, hsh, hor, htm, hlb, q1, q2, hz0] <;> rfl) : p := h
theorem V99 {p : Prop} (h : p := by simp only [go_sem, hke, Nat.sub_self, List.replicate_zero, List.nil_append] <;> rfl) : p := h
theorem V100 {p : Prop} (h : p := by simp only [go_sem, any_not, gt_iff_lt, hx, g1, hy, t1] <;> first | exact eqz | rfl) : p := h
theorem V101 {p : Prop} (h : p := by simp only [go_sem, hr, he0, hsk, htm1, hje, hbs, hbL, hg, hbn2, hw8, tij] <;> rfl) : p := h
theorem V102 {p : Prop} (h : p := by simp only [go_sem, any_not, gt_iff_lt, hyes, hr0, hr] <;> first | rfl | exact eqz) : p := h
theorem V103 {p : Prop} (h : p := by simp only [go_sem, hr, he0, htk, hbb, hbl2, htm1, htm2, htm3, hje, hlj] <;> rfl) : p := h
theorem V104 {p : Prop} (h : p := by simp only [go_sem, any_not, gt_iff_lt, hx, g1, hy, t1, hyes, hno, hr] <;> rfl) : p := h
theorem V105 {p : Prop} (h : p := by simp only [go_sem, any_not, gt_iff_lt, hno, hr] <;> first | rfl | exact eqz) : p := h
theorem V106 {p : Prop} (h : p := by simp only [go_sem, any_not, gt_iff_lt, hx, g1] <;> first | exact eqz | rfl) : p := h
theorem V107 {p : Prop} (h : p := by simp only [go_sem, reduceCtorEq, if_false, hsh, hor, htm, hlb] <;> rfl) : p := h
theorem V108 {p : Prop} (h : p := by simp only [go_sem, htk, hu, hLq, hwd, quad_len, hLp, hp2, hqs] <;> rfl) : p := h
theorem V109 {p : Prop} (h : p := by simp only [go_sem, any_not, gt_iff_lt, hr] <;> first | rfl | exact eqz) : p := h
theorem V110 {p : Prop} (h : p := by simp only [go_sem, hr, he0, htk, hbb, hbl2, htm1, htm2, htm3] <;> rfl) : p := h
theorem V111 {p : Prop} (h : p := by simp only [go_sem, hx, g1, Bool.not_true, g2, Bool.not_false] <;> rfl) : p := h
theorem V112 {p : Prop} (h : p := by simp only [go_sem, htk, hu, hLq, hwd, quad_len, hLp, hr, rdE] <;> rfl) : p := h
theorem V113 {p : Prop} (h : p := by simp only [List.length_cons, List.length_nil, Tryz.ntmps127]; omega) : p := h
theorem V114 {p : Prop} (h : p := by simp only [List.length_cons, List.length_nil, Tryz.ntmps146]; omega) : p := h
theorem V115 {p : Prop} (h : p := by simp only [List.length_cons, List.length_nil, Tryz.ntmps75]; omega) : p := h
theorem V116 {p : Prop} (h : p := by simp only [List.length_cons, List.length_nil, Tryz.ntmps72]; omega) : p := h
theorem V117 {p : Prop} (h : p := by simp only [go_sem, hr, he0, hsk, htm1, hje, hbs, hbL, hw8] <;> rfl) : p := h
theorem V118 {p : Prop} (h : p := by simp only [go_sem, htk, hu, hLq, hv4, quad_four, hls, hwr] <;> rfl) : p := h
theorem V119 {p : Prop} (h : p := by simp only [go_sem, idxI_ge, find_any] <;> first | rfl | exact eqz) : p := h
theorem V120 {p : Prop} (h : p := by simp only [go_sem, sheetOK, any_not, Bool.not_not, hle] <;> rfl) : p := h
theorem V121 {p : Prop} (h : p := by simp only [go_sem, adrC_t, adrC_f] <;> first | rfl | exact eqz) : p := h
theorem V122 {p : Prop} (h : p := by simp only [go_sem, pageOK, any_not, Bool.not_not, hle] <;> rfl) : p := h
theorem V123 {p : Prop} (h : p := by simp only [go_sem, any_not, gt_iff_lt, hx, g1, hy, t1] <;> rfl) : p := h
theorem V124 {p : Prop} (h : p := by simp only [go_sem, hr, he0, hsk, htm1, hje, hbs, hbL] <;> rfl) : p := h
theorem V125 {p : Prop} (h : p := by simp only [go_sem, any_not, gt_iff_lt, hyes, hr0, hr] <;> rfl) : p := h
theorem V126 {p : Prop} (h : p := by simp only [go_sem, htk, hu, hLq, hzg, hd1, hd2, hd3] <;> rfl) : p := h
theorem V127 {p : Prop} (h : p := by simp only [go_sem, htk, hu, hLq, hd1, hzg, hd2, hd3] <;> rfl) : p := h
theorem V128 {p : Prop} (h : p := by simp only [go_sem, hs, hr, idxI] <;> first | rfl | exact eqz) : p := h
theorem V129 {p : Prop} (h : p := by simp only [go_sem, hx, hgd, hr0, Int.toNat_zero, hg] <;> rfl) : p := h
theorem V130 {p : Prop} (h : p := by simp only [go_sem, htk, hu, hta, g1, hr, rdE, hg2] <;> rfl) : p := h
theorem V131 {p : Prop} (h : p := by simp only [go_sem, List.map_nil, List.length_nil] <;> rfl) : p := h
theorem V132 {p : Prop} (h : p := by simp only [go_sem, hsl, hge, hge2, htk, htl, hdr] <;> rfl) : p := h
theorem V133 {p : Prop} (h : p := by first | exact buf_all _ _ _ _ _ _ _ (fun _ => rfl) | rfl) : p := h
theorem V134 {p : Prop} (h : p := by simp only [go_sem, hsl, hge, hge2, hg, hbn, hw8] <;> rfl) : p := h
theorem V135 {p : Prop} (h : p := by simp only [go_sem, hr, he0, hsk, htm1, hje, hbs] <;> rfl) : p := h
theorem V136 {p : Prop} (h : p := by simp only [go_sem, hr, idxI] <;> first | rfl | exact eqz) : p := h
theorem V137 {p : Prop} (h : p := by simp only [go_sem, hx, hgd, hr0, Int.toNat_zero] <;> rfl) : p := h
theorem V138 {p : Prop} (h : p := by simp only [go_sem, h64, t1, w2, t2, hx, hy, e3] <;> rfl) : p := h
theorem V139 {p : Prop} (h : p := by simp only [go_sem, any_not, gt_iff_lt, hno, hr] <;> rfl) : p := h
theorem V140 {p : Prop} (h : p := by simp only [go_sem, htk, hu, hta, hr, rdE, hg1] <;> rfl) : p := h
theorem V141 {p : Prop} (h : p := by simp only [go_sem, any_not, gt_iff_lt, hx, g1] <;> rfl) : p := h
theorem V142 {p : Prop} (h : p := by simp only [go_sem, hx, hhd, hfb, ht0, hj, hrb] <;> rfl) : p := h
theorem V143 {p : Prop} (h : p := by simp only [go_sem, hr, he0, hx, hg, hp, ho] <;> rfl) : p := h
theorem V144 {p : Prop} (h : p := by simp only [go_sem, hx, g1, Bool.not_false] <;> rfl) : p := h
theorem V145 {p : Prop} (h : p := by simp only [go_sem, htk, hu, hLq, hd1, hd2] <;> rfl) : p := h
theorem V146 {p : Prop} (h : p := by simp only [go_sem, hs] <;> first | exact eqz | rfl) : p := h
theorem V147 {p : Prop} (h : p := by simp only [go_sem, any_not, gt_iff_lt, hr] <;> rfl) : p := h
theorem V148 {p : Prop} (h : p := by simp only [go_sem, hx, hy, t0, hw, hz, g1] <;> rfl) : p := h
theorem V149 {p : Prop} (h : p := by simp only [go_sem, hrs, List.cons_append] <;> rfl) : p := h
theorem V150 {p : Prop} (h : p := by simp only [go_sem, g2, List.append_assoc] <;> rfl) : p := h
theorem V151 {p : Prop} (h : p := by simp only [go_sem, htd, htm, hb, hm, ha] <;> rfl) : p := h
theorem V152 {p : Prop} (h : p := by simp only [go_sem, hq, hm, h64, hw, ht] <;> rfl) : p := h
theorem V153 {p : Prop} (h : p := by simp only [go_sem, tryOK, Bool.not_and] <;> rfl) : p := h
theorem V154 {p : Prop} (h : p := by simp only [go_sem] <;> first | rfl | exact eqz) : p := h
theorem V155 {p : Prop} (h : p := by simp only [go_sem, hsl, htk, htm, hpt] <;> rfl) : p := h
theorem V156 {p : Prop} (h : p := by simp only [go_sem, any_not, gt_iff_lt] <;> rfl) : p := h
theorem V157 {p : Prop} (h : p := by simp only [go_sem, htk, hr, strE, he0] <;> rfl) : p := h
theorem V158 {p : Prop} (h : p := by simp only [go_sem, hv8, g3, hok, htl] <;> rfl) : p := h
theorem V159 {p : Prop} (h : p := by simp only [go_sem, hsl, hg, hbn, hw8] <;> rfl) : p := h
theorem V160 {p : Prop} (h : p := by simp only [go_sem, htk, hu, hLq, hd1] <;> rfl) : p := h
theorem V161 {p : Prop} (h : p := by simp only [go_sem, idxI_ge, find_any] <;> rfl) : p := h
theorem V162 {p : Prop} (h : p := by simp only [go_sem, Int.natCast_zero] <;> rfl) : p := h
theorem V163 {p : Prop} (h : p := by simp only [go_sem, htd, htm, ht, hb] <;> rfl) : p := h
theorem V164 {p : Prop} (h : p := by simp only [go_sem, hch, hp, htk, hm] <;> rfl) : p := h
theorem V165 {p : Prop} (h : p := by simp only [go_sem, hx, hbd, hg, hp] <;> rfl) : p := h
theorem V166 {p : Prop} (h : p := by simp only [go_sem, hx, hy2, t1, t2] <;> rfl) : p := h
theorem V167 {p : Prop} (h : p := by simp only [go_sem, q1, q2, q3, hr] <;> rfl) : p := h
theorem V168 {p : Prop} (h : p := by simp only [go_sem, hsl, hge, hge2] <;> rfl) : p := h
theorem V169 {p : Prop} (h : p := by simp only [go_sem, hxb, hst, hc63] <;> rfl) : p := h
theorem V170 {p : Prop} (h : p := by simp only [go_sem, adrC_t, adrC_f] <;> rfl) : p := h
theorem V171 {p : Prop} (h : p := by simp only [go_sem, htm, hss, hop] <;> rfl) : p := h
theorem V172 {p : Prop} (h : p := by simp only [go_sem, Int.zero_add] <;> rfl) : p := h
theorem V173 {p : Prop} (h : p := by simp only [go_sem, htk, hr, rdE] <;> rfl) : p := h
theorem V174 {p : Prop} (h : p := by simp only [go_sem, htk, hu, hLq] <;> rfl) : p := h
theorem V175 {p : Prop} (h : p := by simp only [go_sem, htk, hu, hta] <;> rfl) : p := h
theorem V176 {p : Prop} (h : p := by simp only [go_sem, hs, hr, idxI] <;> rfl) : p := h
theorem V177 {p : Prop} (h : p := by simp only [go_sem, hx, hhd, hfb] <;> rfl) : p := h
theorem V178 {p : Prop} (h : p := by simp only [go_sem, hr, byD_nil] <;> rfl) : p := h
theorem V179 {p : Prop} (h : p := by first | rfl | exact pen_all _ _ _ _ _ _) : p := h
theorem V180 {p : Prop} (h : p := by simp only [go_sem, hx, hgd, hg] <;> rfl) : p := h
theorem V181 {p : Prop} (h : p := by simp only [go_sem, q1, q2, hr] <;> rfl) : p := h
theorem V182 {p : Prop} (h : p := by have := of_decide_eq_false hb41; omega) : p := h
theorem V183 {p : Prop} (h : p := by simp only [go_sem, hbl, htk] <;> rfl) : p := h
theorem V184 {p : Prop} (h : p := by simp only [go_sem, hbl, hxb] <;> rfl) : p := h
theorem V185 {p : Prop} (h : p := by simp only [go_sem, hto, hev] <;> rfl) : p := h
theorem V186 {p : Prop} (h : p := by simp only [go_sem, hsl, hlt] <;> rfl) : p := h
theorem V187 {p : Prop} (h : p := by simp only [go_sem, hmx, pad] <;> rfl) : p := h
theorem V188 {p : Prop} (h : p := by simp only [go_sem, hr, idxI] <;> rfl) : p := h
theorem V189 {p : Prop} (h : p := by simp only [go_sem, hr, he0] <;> rfl) : p := h
theorem V190 {p : Prop} (h : p := by simp only [go_sem, htk, hu] <;> rfl) : p := h
theorem V191 {p : Prop} (h : p := by simp only [go_sem, hch, hp] <;> rfl) : p := h
theorem V192 {p : Prop} (h : p := by simp only [go_sem, plateOK] <;> rfl) : p := h
theorem V193 {p : Prop} (h : p := by simp only [go_sem, sheetsE] <;> rfl) : p := h
theorem V194 {p : Prop} (h : p := by simp only [go_sem, platesE] <;> rfl) : p := h
theorem V195 {p : Prop} (h : p := by simp only [go_sem, hx, hgd] <;> rfl) : p := h
theorem V196 {p : Prop} (h : p := by simp only [go_sem, hx, hy] <;> rfl) : p := h
theorem V197 {p : Prop} (h : p := by simp only [go_sem, pagesE] <;> rfl) : p := h
theorem V198 {p : Prop} (h : p := by simp only [go_sem, hta] <;> rfl) : p := h
theorem V199 {p : Prop} (h : p := by simp only [go_sem, hbl] <;> rfl) : p := h
theorem V200 {p : Prop} (h : p := by simp only [go_sem, hdk] <;> rfl) : p := h
theorem V201 {p : Prop} (h : p := by simp only [go_sem, hv8] <;> rfl) : p := h
theorem V202 {p : Prop} (h : p := by simp only [go_sem, hsl] <;> rfl) : p := h
theorem V203 {p : Prop} (h : p := by simp only [go_sem, inD] <;> rfl) : p := h
theorem V204 {p : Prop} (h : p := by simp only [go_sem, h64] <;> rfl) : p := h
theorem V205 {p : Prop} (h : p := by simp only [go_sem, htk] <;> rfl) : p := h
theorem V206 {p : Prop} (h : p := by simp only [go_sem, hgf] <;> rfl) : p := h
theorem V207 {p : Prop} (h : p := by simp only [go_sem, hg] <;> rfl) : p := h
theorem V208 {p : Prop} (h : p := by simp only [go_sem, hr] <;> rfl) : p := h
theorem V209 {p : Prop} (h : p := by simp only [go_sem, hx] <;> rfl) : p := h
theorem V210 {p : Prop} (h : p := by simp only [go_sem, z0] <;> rfl) : p := h
theorem V211 {p : Prop} (h : p := by simp only [go_sem, hL] <;> rfl) : p := h
theorem V212 {p : Prop} (h : p := by simp only [go_sem, hj] <;> rfl) : p := h
theorem V213 {p : Prop} (h : p := by simp only [go_sem, hs] <;> rfl) : p := h
theorem V214 {p : Prop} (h : p := by rw [opLocs_cons]; simp [hl]) : p := h
theorem V215 {p : Prop} (h : p := by simp only [go_sem] <;> rfl) : p := h
theorem V216 {p : Prop} (h : p := by intro d hd; cases hd) : p := h
theorem V217 {p : Prop} (h : p := by simp only [go_sem]) : p := h
theorem V218 {p : Prop} (h : p := by simpa using hl) : p := h
theorem V219 {p : Prop} (h : p := by decide +kernel) : p := h
theorem V220 {p : Prop} (h : p := by rw [h1]; rfl) : p := h
theorem V221 {p : Prop} (h : p := by kernel_rfl) : p := h
theorem V222 {p : Prop} (h : p := by simp [hl]) : p := h
end Go

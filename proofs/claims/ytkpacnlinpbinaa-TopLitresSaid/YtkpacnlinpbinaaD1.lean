/- Tactics that stand in many places, each by a name. -/
import Derived.WalkKit
namespace Go
theorem V1 {p:Prop}(h:p:=by exact ⟨by first|exact WkR.pure rfl|exact WkR.of rfl rfl|exact WkR.nil _|exact WkR.int (by first|omega|(simp;done)|(simp;omega))|exact WkR.fptW rfl ⟨by first|exact .inl rfl|exact .inr rfl,by first|exact .inl rfl|exact .inr rfl,by first|exact .inl rfl|exact .inr rfl,by first|exact .inl rfl|exact .inr rfl,by first|exact .inl rfl|exact .inr rfl,by first|exact .inl rfl|exact .inr rfl,trivial⟩,by first|exact WkR.pure rfl|exact WkR.of rfl rfl|exact WkR.nil _|exact WkR.int (by first|omega|(simp;done)|(simp;omega))|exact WkR.fptW rfl ⟨by first|exact .inl rfl|exact .inr rfl,by first|exact .inl rfl|exact .inr rfl,by first|exact .inl rfl|exact .inr rfl,by first|exact .inl rfl|exact .inr rfl,by first|exact .inl rfl|exact .inr rfl,by first|exact .inl rfl|exact .inr rfl,trivial⟩,by first|exact WkR.pure rfl|exact WkR.of rfl rfl|exact WkR.nil _|exact WkR.int (by first|omega|(simp;done)|(simp;omega))|exact WkR.fptW rfl ⟨by first|exact .inl rfl|exact .inr rfl,by first|exact .inl rfl|exact .inr rfl,by first|exact .inl rfl|exact .inr rfl,by first|exact .inl rfl|exact .inr rfl,by first|exact .inl rfl|exact .inr rfl,by first|exact .inl rfl|exact .inr rfl,trivial⟩,by first|exact WkR.pure rfl|exact WkR.of rfl rfl|exact WkR.nil _|exact WkR.int (by first|omega|(simp;done)|(simp;omega))|exact WkR.fptW rfl ⟨by first|exact .inl rfl|exact .inr rfl,by first|exact .inl rfl|exact .inr rfl,by first|exact .inl rfl|exact .inr rfl,by first|exact .inl rfl|exact .inr rfl,by first|exact .inl rfl|exact .inr rfl,by first|exact .inl rfl|exact .inr rfl,trivial⟩,by first|exact WkR.pure rfl|exact WkR.of rfl rfl|exact WkR.nil _|exact WkR.int (by first|omega|(simp;done)|(simp;omega))|exact WkR.fptW rfl ⟨by first|exact .inl rfl|exact .inr rfl,by first|exact .inl rfl|exact .inr rfl,by first|exact .inl rfl|exact .inr rfl,by first|exact .inl rfl|exact .inr rfl,by first|exact .inl rfl|exact .inr rfl,by first|exact .inl rfl|exact .inr rfl,trivial⟩,by first|exact WkR.pure rfl|exact WkR.of rfl rfl|exact WkR.nil _|exact WkR.int (by first|omega|(simp;done)|(simp;omega))|exact WkR.fptW rfl ⟨by first|exact .inl rfl|exact .inr rfl,by first|exact .inl rfl|exact .inr rfl,by first|exact .inl rfl|exact .inr rfl,by first|exact .inl rfl|exact .inr rfl,by first|exact .inl rfl|exact .inr rfl,by first|exact .inl rfl|exact .inr rfl,trivial⟩,trivial⟩):p:=h
theorem V2 {p:Prop}(h:p:=by exact ⟨by first|exact WkR.pure rfl|exact WkR.of rfl rfl|exact WkR.nil _|exact WkR.int (by first|omega|(simp;done)|(simp;omega))|exact WkR.fptW rfl ⟨by first|exact .inl rfl|exact .inr rfl,by first|exact .inl rfl|exact .inr rfl,by first|exact .inl rfl|exact .inr rfl,by first|exact .inl rfl|exact .inr rfl,by first|exact .inl rfl|exact .inr rfl,by first|exact .inl rfl|exact .inr rfl,trivial⟩,by first|exact WkR.pure rfl|exact WkR.of rfl rfl|exact WkR.nil _|exact WkR.int (by first|omega|(simp;done)|(simp;omega))|exact WkR.fptW rfl ⟨by first|exact .inl rfl|exact .inr rfl,by first|exact .inl rfl|exact .inr rfl,by first|exact .inl rfl|exact .inr rfl,by first|exact .inl rfl|exact .inr rfl,by first|exact .inl rfl|exact .inr rfl,by first|exact .inl rfl|exact .inr rfl,trivial⟩,by first|exact WkR.pure rfl|exact WkR.of rfl rfl|exact WkR.nil _|exact WkR.int (by first|omega|(simp;done)|(simp;omega))|exact WkR.fptW rfl ⟨by first|exact .inl rfl|exact .inr rfl,by first|exact .inl rfl|exact .inr rfl,by first|exact .inl rfl|exact .inr rfl,by first|exact .inl rfl|exact .inr rfl,by first|exact .inl rfl|exact .inr rfl,by first|exact .inl rfl|exact .inr rfl,trivial⟩,by first|exact WkR.pure rfl|exact WkR.of rfl rfl|exact WkR.nil _|exact WkR.int (by first|omega|(simp;done)|(simp;omega))|exact WkR.fptW rfl ⟨by first|exact .inl rfl|exact .inr rfl,by first|exact .inl rfl|exact .inr rfl,by first|exact .inl rfl|exact .inr rfl,by first|exact .inl rfl|exact .inr rfl,by first|exact .inl rfl|exact .inr rfl,by first|exact .inl rfl|exact .inr rfl,trivial⟩,trivial⟩):p:=h
theorem V3 {p:Prop}(h:p:=by simp only [go_sem,hx,hl,ht,List.map_append,List.map_cons,List.map_nil];(try simp (disch:=omega) only [if_pos]);(try simp only [go_sem,hx,hl,ht,List.map_append,List.map_cons,List.map_nil])<;>first|(refine ite_run ⟨by (try simp only [List.length_append,List.length_drop,List.length_take,List.length_map,List.length_cons,List.length_nil,List.length_replicate,List.length_set,List.length_range,Nat.zero_add]);omega,by (try simp only [List.length_append,List.length_drop,List.length_take,List.length_map,List.length_cons,List.length_nil,List.length_replicate,List.length_set,List.length_range,Nat.zero_add]);omega,by repeat (first|exact al_nil|assumption|refine al_app ?_ ?_|refine al_drop ?_|refine al_take ?_|exact al_map (fun _=>rfl)|exact al_rep rfl|refine al_cons rfl ?_)⟩ ?_;simp only [go_sem,hx,hl,ht,List.map_append,List.map_cons,List.map_nil]<;>rfl)|(refine ite_run ⟨by (try simp only [List.length_append,List.length_drop,List.length_take,List.length_map,List.length_cons,List.length_nil,List.length_replicate,List.length_set,List.length_range,Nat.zero_add]);omega,by repeat (first|exact al_nil|assumption|refine al_app ?_ ?_|refine al_drop ?_|refine al_take ?_|exact al_map (fun _=>rfl)|exact al_rep rfl|refine al_cons rfl ?_)⟩ ?_;simp only [go_sem,hx,hl,ht,List.map_append,List.map_cons,List.map_nil]<;>rfl)|rfl):p:=h
theorem V4 {p:Prop}(h:p:=by exact ⟨by first|exact WkR.pure rfl|exact WkR.of rfl rfl|exact WkR.nil _|exact WkR.int (by first|omega|(simp;done)|(simp;omega))|exact WkR.fptW rfl ⟨by first|exact .inl rfl|exact .inr rfl,by first|exact .inl rfl|exact .inr rfl,by first|exact .inl rfl|exact .inr rfl,by first|exact .inl rfl|exact .inr rfl,by first|exact .inl rfl|exact .inr rfl,by first|exact .inl rfl|exact .inr rfl,trivial⟩,by first|exact WkR.pure rfl|exact WkR.of rfl rfl|exact WkR.nil _|exact WkR.int (by first|omega|(simp;done)|(simp;omega))|exact WkR.fptW rfl ⟨by first|exact .inl rfl|exact .inr rfl,by first|exact .inl rfl|exact .inr rfl,by first|exact .inl rfl|exact .inr rfl,by first|exact .inl rfl|exact .inr rfl,by first|exact .inl rfl|exact .inr rfl,by first|exact .inl rfl|exact .inr rfl,trivial⟩,trivial⟩):p:=h
theorem V5 {p:Prop}(h:p:=by exact ⟨by first|exact WkR.pure rfl|exact WkR.nil _|exact WkR.of rfl rfl,by first|exact WkR.pure rfl|exact WkR.nil _|exact WkR.of rfl rfl,by first|exact WkR.pure rfl|exact WkR.nil _|exact WkR.of rfl rfl,by first|exact WkR.pure rfl|exact WkR.nil _|exact WkR.of rfl rfl,by first|exact WkR.pure rfl|exact WkR.nil _|exact WkR.of rfl rfl,by first|exact WkR.pure rfl|exact WkR.nil _|exact WkR.of rfl rfl,by first|exact WkR.pure rfl|exact WkR.nil _|exact WkR.of rfl rfl,trivial⟩):p:=h
theorem V6 {p:Prop}(h:p:=by simp only [go_sem,hlu,hld,List.length_map,tk,hl1,hu_k,hd_k,hga,hst3,hF,hl3,t1,t2,hga,hgb,hp1,hp2,hbk]<;>first|((repeat' (first|with_reducible_and_instances rfl|refine st_eq ?_ ?_ ?_|refine ret_eq ?_|refine tup_eq ?_|refine tm_eq ?_ ?_|refine arr_eq ?_|refine cells_eq ?_|refine val_eq ?_|refine ls_eq ?_ ?_|refine own_eq ?_ ?_|refine sl_eq ?_|refine b_eq ?_|(refine i_eq ?_;omega)));(all_goals (first|omega|(rw [←hst2,List.map_set];rfl))))|rfl):p:=h
theorem V7 {p:Prop}(h:p:=by simp only [go_sem,hlu,hld,List.length_map,tk,hl1,hu_k,hd_k,hga,hst3,hl2,t1,t2,hga,hgb,hp1,hp2,hbk]<;>first|((repeat' (first|with_reducible_and_instances rfl|refine st_eq ?_ ?_ ?_|refine ret_eq ?_|refine tup_eq ?_|refine tm_eq ?_ ?_|refine arr_eq ?_|refine cells_eq ?_|refine val_eq ?_|refine ls_eq ?_ ?_|refine own_eq ?_ ?_|refine sl_eq ?_|refine b_eq ?_|(refine i_eq ?_;omega)));(all_goals (first|omega|(rw [←hst2,List.map_set];rfl))))|rfl):p:=h
theorem V8 {p:Prop}(h:p:=by exact ⟨by first|exact WkR.pure rfl|exact WkR.nil _|exact WkR.int (by first|omega|(simp;done)|(simp;omega)),by first|exact WkR.pure rfl|exact WkR.nil _|exact WkR.int (by first|omega|(simp;done)|(simp;omega)),by first|exact WkR.pure rfl|exact WkR.nil _|exact WkR.int (by first|omega|(simp;done)|(simp;omega)),by first|exact WkR.pure rfl|exact WkR.nil _|exact WkR.int (by first|omega|(simp;done)|(simp;omega)),trivial⟩):p:=h
theorem V9 {p:Prop}(h:p:=by simp only [go_sem,hg,t0,hln,hg0,hgs,List.length_map,List.length_set,hlb2]<;>first|((repeat' (first|with_reducible_and_instances rfl|refine st_eq ?_ ?_ ?_|refine ret_eq ?_|refine tup_eq ?_|refine tm_eq ?_ ?_|refine arr_eq ?_|refine cells_eq ?_|refine val_eq ?_|refine ls_eq ?_ ?_|refine own_eq ?_ ?_|refine sl_eq ?_|refine b_eq ?_|(refine i_eq ?_;omega)));(all_goals (first|omega|(rw [←hst2,List.map_set];rfl))))|rfl):p:=h
theorem V10 {p:Prop}(h:p:=by simp only [go_sem,hlu,hld,List.length_map,tk,tj,hl1,hu_j,hd_j,hg0,hgs,List.length_set]<;>first|((repeat' (first|with_reducible_and_instances rfl|refine st_eq ?_ ?_ ?_|refine ret_eq ?_|refine tup_eq ?_|refine tm_eq ?_ ?_|refine arr_eq ?_|refine cells_eq ?_|refine val_eq ?_|refine ls_eq ?_ ?_|refine own_eq ?_ ?_|refine sl_eq ?_|refine b_eq ?_|(refine i_eq ?_;omega)));(rw [←hst2,List.map_set,List.map_set];rfl))|rfl):p:=h
theorem V11 {p:Prop}(h:p:=by simp only [go_sem,hr,List.take_succ_cons,List.take_zero,Int.natCast_zero,Int.toNat_zero,if_true,Nat.zero_le,hl0]<;>first|((repeat' (first|with_reducible_and_instances rfl|refine st_eq ?_ ?_ ?_|refine ret_eq ?_|refine tup_eq ?_|refine tm_eq ?_ ?_|refine arr_eq ?_|refine cells_eq ?_|refine val_eq ?_|refine ls_eq ?_ ?_|refine own_eq ?_ ?_|refine sl_eq ?_|refine b_eq ?_|(refine i_eq ?_;omega)));(rw [hbe];rfl))|rfl):p:=h
theorem V12 {p:Prop}(h:p:=by simp only [go_sem,hlu,hld,List.length_map,tk,tj,hl1,hu_j,hd_j,hg0,hgs,List.length_set]<;>first|((repeat' (first|with_reducible_and_instances rfl|refine st_eq ?_ ?_ ?_|refine ret_eq ?_|refine tup_eq ?_|refine tm_eq ?_ ?_|refine arr_eq ?_|refine cells_eq ?_|refine val_eq ?_|refine ls_eq ?_ ?_|refine own_eq ?_ ?_|refine sl_eq ?_|refine b_eq ?_|(refine i_eq ?_;omega)));(rw [←hst2,List.map_set];rfl))|rfl):p:=h
theorem V13 {p:Prop}(h:p:=by simp only [go_sem,hr,List.take_succ_cons,List.take_zero,h10,if_false,Nat.le_refl,if_true,hl0]<;>first|((repeat' (first|with_reducible_and_instances rfl|refine st_eq ?_ ?_ ?_|refine ret_eq ?_|refine tup_eq ?_|refine tm_eq ?_ ?_|refine arr_eq ?_|refine cells_eq ?_|refine val_eq ?_|refine ls_eq ?_ ?_|refine own_eq ?_ ?_|refine sl_eq ?_|refine b_eq ?_|(refine i_eq ?_;omega)));(rw [hbe];rfl))|rfl):p:=h
theorem V14 {p:Prop}(h:p:=by simp only [go_sem,Int.zero_add,Int.natCast_zero,Int.toNat_zero,if_true,List.map_cons,List.map_nil,List.getElem?_cons_zero,hmg,hs,hsp,Int.toNat_natCast];(try simp (disch:=omega) only [if_pos]);(try simp only [go_sem,Int.zero_add,Int.natCast_zero,Int.toNat_zero,if_true,List.map_cons,List.map_nil,List.getElem?_cons_zero,hmg,hs,hsp,Int.toNat_natCast])<;> rfl):p:=h
theorem V15 {p:Prop}(h:p:=by simp only [go_sem]<;>first|rfl|((repeat' (first|with_reducible_and_instances rfl|refine st_eq ?_ ?_ ?_|refine ret_eq ?_|refine tup_eq ?_|refine tm_eq ?_ ?_|refine arr_eq ?_|refine cells_eq ?_|refine val_eq ?_|refine ls_eq ?_ ?_|refine own_eq ?_ ?_|refine sl_eq ?_|refine b_eq ?_|(refine i_eq ?_;omega)));(all_goals kernel_rfl))):p:=h
theorem V16 {p:Prop}(h:p:=by exact ⟨by first|exact WkR.pure rfl|exact WkR.nil _|exact WkR.int (by first|omega|(simp;done)|(simp;omega)),by first|exact WkR.pure rfl|exact WkR.nil _|exact WkR.int (by first|omega|(simp;done)|(simp;omega)),by first|exact WkR.pure rfl|exact WkR.nil _|exact WkR.int (by first|omega|(simp;done)|(simp;omega)),trivial⟩):p:=h
theorem V17 {p:Prop}(h:p:=by simp only [go_sem,hg,t0,hln,hg0,hgs,List.length_map,List.length_set,hlb,t1,hg1,hgo,List.getElem?_set_ne hne,hval,hlb2];(try simp (disch:=omega) only [if_pos]);(try simp only [go_sem,hg,t0,hln,hg0,hgs,List.length_map,List.length_set,hlb,t1,hg1,hgo,List.getElem?_set_ne hne,hval,hlb2])<;> rfl):p:=h
theorem V18 {p:Prop}(h:p:=by simp only [go_sem,Int.zero_add,Int.natCast_zero,Int.toNat_zero,if_true,List.map_cons,List.map_nil,List.getElem?_cons_zero];(try simp (disch:=omega) only [if_pos]);(try simp only [go_sem,Int.zero_add,Int.natCast_zero,Int.toNat_zero,if_true,List.map_cons,List.map_nil,List.getElem?_cons_zero])<;> rfl):p:=h
theorem V19 {p:Prop}(h:p:=by simp only [go_sem,hg,t0,hln,hg0,hgs,List.length_map,List.length_set,t1,hg1,hgo,List.getElem?_set_ne hne,hval,hlb2];(try simp (disch:=omega) only [if_pos]);(try simp only [go_sem,hg,t0,hln,hg0,hgs,List.length_map,List.length_set,t1,hg1,hgo,List.getElem?_set_ne hne,hval,hlb2])<;> rfl):p:=h
theorem V20 {p:Prop}(h:p:=by simp only [go_sem,hr,List.take_succ_cons,List.take_zero,Int.natCast_zero,Int.toNat_zero,if_true,Nat.zero_le,hl0];(try simp (disch:=omega) only [if_pos]);(try simp only [go_sem,hr,List.take_succ_cons,List.take_zero,Int.natCast_zero,Int.toNat_zero,if_true,Nat.zero_le,hl0])<;> rfl):p:=h
theorem V21 {p:Prop}(h:p:=by simp only [go_sem,hlu,hld,List.length_map,tk,hl1,hu_k,hd_k,hga,hst3,hF,hl3,t1,t2,hga,hgb,hp1,hp2,hbk];(try simp (disch:=omega) only [if_pos]);(try simp only [go_sem,hlu,hld,List.length_map,tk,hl1,hu_k,hd_k,hga,hst3,hF,hl3,t1,t2,hga,hgb,hp1,hp2,hbk])<;> rfl):p:=h
theorem V22 {p:Prop}(h:p:=by simp only [go_sem,hlu,hld,List.length_map,tk,hl1,hu_k,hd_k,hga,hst3,hl2,t1,t2,hga,hgb,hp1,hp2,hbk];(try simp (disch:=omega) only [if_pos]);(try simp only [go_sem,hlu,hld,List.length_map,tk,hl1,hu_k,hd_k,hga,hst3,hl2,t1,t2,hga,hgb,hp1,hp2,hbk])<;> rfl):p:=h
theorem V23 {p:Prop}(h:p:=by simp only [go_sem,Int.zero_add,Int.natCast_zero,Int.toNat_zero,if_true,List.map_cons,List.map_nil,List.getElem?_cons_zero,hmg,hs,hsp,Int.toNat_natCast];(try simp (disch:=omega) only [IntWalk.i64_in,IntWalk.u64_in,IntWalk.i32_in,IntWalk.u8_in,if_neg,if_pos])<;> rfl):p:=h
theorem V24 {p:Prop}(h:p:=by simp only [go_sem,hs,Int.natCast_zero,Int.toNat_zero,gt_iff_lt,Int.lt_irrefl,decide_false,Bool.and_false];(try simp (disch:=omega) only [if_pos]);(try simp only [go_sem,hs,Int.natCast_zero,Int.toNat_zero,gt_iff_lt,Int.lt_irrefl,decide_false,Bool.and_false])<;> rfl):p:=h
theorem V25 {p:Prop}(h:p:=by simp only [go_sem,hlu,hld,List.length_map,tk,hl1,hu_k,hd_k,hga,hst3,hF,hl3,hF3,hlp,tj,hs];(try simp (disch:=omega) only [if_pos]);(try simp only [go_sem,hlu,hld,List.length_map,tk,hl1,hu_k,hd_k,hga,hst3,hF,hl3,hF3,hlp,tj,hs])<;> rfl):p:=h
theorem V26 {p:Prop}(h:p:=by simp only [go_sem,Int.zero_add,Int.natCast_zero,Int.toNat_zero,if_true,List.map_cons,List.map_nil,List.getElem?_cons_zero,hmg,hsp];(try simp (disch:=omega) only [IntWalk.i64_in,IntWalk.u64_in,IntWalk.i32_in,IntWalk.u8_in,if_neg,if_pos])<;> rfl):p:=h
theorem V27 {p:Prop}(h:p:=by simp only [go_sem,hr,List.take_succ_cons,List.take_zero,h10,if_false,Nat.le_refl,if_true,hl0];(try simp (disch:=omega) only [if_pos]);(try simp only [go_sem,hr,List.take_succ_cons,List.take_zero,h10,if_false,Nat.le_refl,if_true,hl0])<;> rfl):p:=h
theorem V28 {p:Prop}(h:p:=by simp only [go_sem,q40,q41,q60,q61,d1,d2,hs,Bool.not_true,hg,hc,hcv,hat,d90,hz,hz2,hz3,if_false,hsh,e1,e2,d145,d162];(try simp (disch:=omega) only [IntWalk.i64_in,IntWalk.u64_in,IntWalk.i32_in,IntWalk.u8_in,if_neg,if_pos])<;> rfl):p:=h
theorem V29 {p:Prop}(h:p:=by simp only [go_sem,hg,t0,hln,hg0,hgs,List.length_map,List.length_set,hlb,t1,hg1,hgo,List.getElem?_set_ne hne,hval,hlb2];(try simp (disch:=omega) only [IntWalk.i64_in,IntWalk.u64_in,IntWalk.i32_in,IntWalk.u8_in,if_neg,if_pos])<;> rfl):p:=h
theorem V30 {p:Prop}(h:p:=by simp only [go_sem,hlu,hld,List.length_map,tk,tj,hl1,hu_j,hd_j,hg0,hgs,List.length_set];(try simp (disch:=omega) only [if_pos]);(try simp only [go_sem,hlu,hld,List.length_map,tk,tj,hl1,hu_j,hd_j,hg0,hgs,List.length_set])<;> rfl):p:=h
theorem V31 {p:Prop}(h:p:=by exact ⟨by first|exact WkR.pure rfl|exact WkR.nil _|exact WkR.int (by first|omega|(simp;done)|(simp;omega)),by first|exact WkR.pure rfl|exact WkR.nil _|exact WkR.int (by first|omega|(simp;done)|(simp;omega)),trivial⟩):p:=h
theorem V32 {p:Prop}(h:p:=by simp only [go_sem,hr,List.take_succ_cons,List.take_zero,Int.natCast_zero,Int.toNat_zero,if_true,Nat.zero_le,hl0];(try simp (disch:=omega) only [IntWalk.i64_in,IntWalk.u64_in,IntWalk.i32_in,IntWalk.u8_in,if_neg,if_pos])<;> rfl):p:=h
theorem V33 {p:Prop}(h:p:=by simp only [go_sem,hlu,hld,List.length_map,tk,hl1,hu_k,hd_k,hga,hst3,hF,hl3,t1,t2,hga,hgb,hp1,hp2,hbk];(try simp (disch:=omega) only [IntWalk.i64_in,IntWalk.u64_in,IntWalk.i32_in,IntWalk.u8_in,if_neg,if_pos])<;> rfl):p:=h
theorem V34 {p:Prop}(h:p:=by simp only [go_sem,hlu,hld,List.length_map,tk,hl1,hu_k,hd_k,hga,hst3,hl2,t1,t2,hga,hgb,hp1,hp2,hbk];(try simp (disch:=omega) only [IntWalk.i64_in,IntWalk.u64_in,IntWalk.i32_in,IntWalk.u8_in,if_neg,if_pos])<;> rfl):p:=h
theorem V35 {p:Prop}(h:p:=by simp only [go_sem,hlu,hld,List.length_map,tk,hl1,hu_k,hd_k,hga,hst3,hF,hl3,hF3,hlp,tj,hs,hfs,hfe];(try simp (disch:=omega) only [IntWalk.i64_in,IntWalk.u64_in,IntWalk.i32_in,IntWalk.u8_in,if_neg,if_pos])<;> rfl):p:=h
theorem V36 {p:Prop}(h:p:=by simp only [go_sem,hs,Int.natCast_zero,Int.toNat_zero,gt_iff_lt,Int.lt_irrefl,decide_false,Bool.and_false];(try simp (disch:=omega) only [IntWalk.i64_in,IntWalk.u64_in,IntWalk.i32_in,IntWalk.u8_in,if_neg,if_pos])<;> rfl):p:=h
theorem V37 {p:Prop}(h:p:=by simp only [go_sem,hlu,hld,List.length_map,tk,hl1,hu_k,hd_k,hga,hst3,hF,hl3,hF3,hlp,hfs,hfe];(try simp (disch:=omega) only [IntWalk.i64_in,IntWalk.u64_in,IntWalk.i32_in,IntWalk.u8_in,if_neg,if_pos])<;> rfl):p:=h
theorem V38 {p:Prop}(h:p:=by simp only [go_sem,hlu,hld,List.length_map,tk,hl1,hu_k,hd_k,hga,hst3,hF,hl3,hF3,hlp,tj,hs];(try simp (disch:=omega) only [IntWalk.i64_in,IntWalk.u64_in,IntWalk.i32_in,IntWalk.u8_in,if_neg,if_pos])<;> rfl):p:=h
theorem V39 {p:Prop}(h:p:=by simp only [go_sem,hr,List.take_succ_cons,List.take_zero,h10,if_false,Nat.le_refl,if_true,hl0];(try simp (disch:=omega) only [IntWalk.i64_in,IntWalk.u64_in,IntWalk.i32_in,IntWalk.u8_in,if_neg,if_pos])<;> rfl):p:=h
theorem V40 {p:Prop}(h:p:=by intro p hp n hn;simp only [List.mem_cons,List.not_mem_nil,or_false] at hp;rcases hp with rfl|rfl|rfl|rfl|rfl|rfl|rfl<;>(simp [look] at hn;subst hn;(try simp only [ren_mL]);simp only [go_sem]<;>rfl)):p:=h
theorem V41 {p:Prop}(h:p:=by simp only [go_sem,hlu,hld,List.length_map,tk,tj,hl1,hu_j,hd_j,hg0,hgs,List.length_set];(try simp (disch:=omega) only [IntWalk.i64_in,IntWalk.u64_in,IntWalk.i32_in,IntWalk.u8_in,if_neg,if_pos])<;> rfl):p:=h
theorem V42 {p:Prop}(h:p:=by intro p hp;simp only [List.mem_cons,List.not_mem_nil,or_false] at hp;rcases hp with rfl|rfl|rfl|rfl|rfl|rfl|rfl<;>(first|exact ⟨_,rfl,back_refl _⟩|exact ⟨_,rfl,rfl⟩|exact ⟨_,rfl,_,rfl⟩)):p:=h
theorem V43 {p:Prop}(h:p:=by simp only [go_sem,hr,List.take_succ_cons,List.take_zero,h20,h21,if_false];(try simp (disch:=omega) only [if_pos]);(try simp only [go_sem,hr,List.take_succ_cons,List.take_zero,h20,h21,if_false])<;> rfl):p:=h
theorem V44 {p:Prop}(h:p:=by intro p hp n hn;simp only [List.mem_cons,List.not_mem_nil,or_false] at hp;rcases hp with rfl|rfl|rfl|rfl|rfl|rfl<;>(simp [look] at hn;subst hn;(try simp only [ren_mL]);simp only [go_sem]<;>rfl)):p:=h
theorem V45 {p:Prop}(h:p:=by simp only [go_sem,hlu,hld,List.length_map,tk,hl1,hu_k,hd_k,hga,hst3];(try simp (disch:=omega) only [if_pos]);(try simp only [go_sem,hlu,hld,List.length_map,tk,hl1,hu_k,hd_k,hga,hst3])<;> rfl):p:=h
theorem V46 {p:Prop}(h:p:=by intro p hp;simp only [List.mem_cons,List.not_mem_nil,or_false] at hp;rcases hp with rfl|rfl|rfl|rfl|rfl|rfl<;>(first|exact ⟨_,rfl,back_refl _⟩|exact ⟨_,rfl,rfl⟩|exact ⟨_,rfl,_,rfl⟩)):p:=h
theorem V47 {p:Prop}(h:p:=by simp only [go_sem,hg,t0,hln,hg0,hgs,List.length_map,List.length_set];(try simp (disch:=omega) only [if_pos]);(try simp only [go_sem,hg,t0,hln,hg0,hgs,List.length_map,List.length_set])<;> rfl):p:=h
theorem V48 {p:Prop}(h:p:=by simp only [go_sem,hle,hin,hany,Bool.not_true,Bool.or_false,hz,if_false,e1,e2];(try simp (disch:=omega) only [IntWalk.i64_in,IntWalk.u64_in,IntWalk.i32_in,IntWalk.u8_in,if_neg,if_pos])<;> rfl):p:=h
theorem V49 {p:Prop}(h:p:=by simp only [go_sem,hlu,hld,List.length_map,tk,hl1,hu_k,hd_k,hga,hst3,hF,hl3];(try simp (disch:=omega) only [IntWalk.i64_in,IntWalk.u64_in,IntWalk.i32_in,IntWalk.u8_in,if_neg,if_pos])<;> rfl):p:=h
theorem V50 {p:Prop}(h:p:=by simp only [go_sem,q40,q41,q60,q61,d1,d2,hs,Bool.not_true,hg,hc,hcv,hat];(try simp (disch:=omega) only [IntWalk.i64_in,IntWalk.u64_in,IntWalk.i32_in,IntWalk.u8_in,if_neg,if_pos])<;> rfl):p:=h
theorem V51 {p:Prop}(h:p:=by simp only [go_sem,hg,t0,hln,hg0,hgs,List.length_map,List.length_set,hlb2];(try simp (disch:=omega) only [IntWalk.i64_in,IntWalk.u64_in,IntWalk.i32_in,IntWalk.u8_in,if_neg,if_pos])<;> rfl):p:=h
theorem V52 {p:Prop}(h:p:=by intro p hp;simp only [List.mem_cons,List.not_mem_nil,or_false] at hp;rcases hp with rfl|rfl<;>(first|exact ⟨_,rfl,back_refl _⟩|exact ⟨_,rfl,_,rfl,by simp⟩|exact ⟨_,rfl,_,rfl⟩)):p:=h
theorem V53 {p:Prop}(h:p:=by simp only [go_sem,hg1,t1,t2,fl,fx,fy,List.getElem?_set_ne hne];(try simp (disch:=omega) only [if_pos]);(try simp only [go_sem,hg1,t1,t2,fl,fx,fy,List.getElem?_set_ne hne])<;> rfl):p:=h
theorem V54 {p:Prop}(h:p:=by simp only [go_sem,hg,t0,hln,hg0,hgs,List.length_map,List.length_set];(try simp (disch:=omega) only [IntWalk.i64_in,IntWalk.u64_in,IntWalk.i32_in,IntWalk.u8_in,if_neg,if_pos])<;> rfl):p:=h
theorem V55 {p:Prop}(h:p:=by intro p hp;simp only [List.mem_cons,List.not_mem_nil,or_false] at hp;rcases hp with rfl<;>(first|exact ⟨_,rfl,back_refl _⟩|exact ⟨_,rfl,_,rfl,by simp⟩|exact ⟨_,rfl,_,rfl⟩)):p:=h
theorem V56 {p:Prop}(h:p:=by simp only [go_sem,hg1,t1,t2,fl,fx,fy,List.getElem?_set_ne hne];(try simp (disch:=omega) only [IntWalk.i64_in,IntWalk.u64_in,IntWalk.i32_in,IntWalk.u8_in,if_neg,if_pos])<;> rfl):p:=h
theorem V57 {p:Prop}(h:p:=by intro p hp n hn;simp only [List.mem_cons,List.not_mem_nil,or_false] at hp;rcases hp with rfl|rfl<;>(simp [look] at hn;subst hn;(try simp only [ren_mL]);simp only [go_sem]<;>rfl)):p:=h
theorem V58 {p:Prop}(h:p:=by simp only [go_sem,Int.zero_add,Int.natCast_zero,Int.toNat_zero,if_true,List.map_cons,List.map_nil,List.getElem?_cons_zero,hmg,hs,hsp,Int.toNat_natCast]<;>first|exact eqz|rfl):p:=h
theorem V59 {p:Prop}(h:p:=by first|rfl|(simp only [List.all_cons,List.all_nil,inn_bk,Bool.and_true,Bool.true_and];done)|(simp only [List.all_cons,List.all_nil,inn_bk,Bool.and_true,Bool.true_and]<;>rfl)):p:=h
theorem V60 {p:Prop}(h:p:=by first|rfl|(simp only [List.all_cons,List.all_nil,inn_mL,Bool.and_true,Bool.true_and];done)|(simp only [List.all_cons,List.all_nil,inn_mL,Bool.and_true,Bool.true_and]<;>rfl)):p:=h
theorem V61 {p:Prop}(h:p:=by intro p hp;simp only [List.mem_cons,List.not_mem_nil,or_false] at hp;rcases hp with rfl|rfl<;>(first|exact ⟨_,rfl,back_refl _⟩|exact ⟨_,rfl,rfl⟩|exact ⟨_,rfl,_,rfl⟩)):p:=h
theorem V62 {p:Prop}(h:p:=by simp only [go_sem,ht,hgt,hst,hcs,hg2,hi,his];(try simp (disch:=omega) only [IntWalk.i64_in,IntWalk.u64_in,IntWalk.i32_in,IntWalk.u8_in,if_neg,if_pos])<;> rfl):p:=h
theorem V63 {p:Prop}(h:p:=by simp only [go_sem,hs,hp,hk1,t1,Bool.and_true];(try simp (disch:=omega) only [IntWalk.i64_in,IntWalk.u64_in,IntWalk.i32_in,IntWalk.u8_in,if_neg,if_pos])<;> rfl):p:=h
theorem V64 {p:Prop}(h:p:=by simp only [go_sem,Int.zero_add,Int.natCast_zero,Int.toNat_zero,if_true,List.map_cons,List.map_nil,List.getElem?_cons_zero,hmg,hs,hsp,Int.toNat_natCast]<;>rfl):p:=h
theorem V65 {p:Prop}(h:p:=by simp only [go_sem,Int.zero_add,Int.natCast_zero,Int.toNat_zero,if_true,List.map_cons,List.map_nil,List.getElem?_cons_zero,hmg,hsp]<;>first|exact eqz|rfl):p:=h
theorem V66 {p:Prop}(h:p:=by simp only [go_sem,q40,q41,q60,q61,d1,d2,hs,Bool.not_true,hg,hc,hcv,hat,d90,hz,hz2,hz3,if_false,hsh,e1,e2,d145,d162]<;>first|rfl|exact eqz):p:=h
theorem V67 {p:Prop}(h:p:=by intro p hp n hn;simp only [List.mem_cons,List.not_mem_nil,or_false] at hp;rcases hp with rfl|rfl<;>(simp [look] at hn;subst hn;simp only [go_sem]<;>rfl)):p:=h
theorem V68 {p:Prop}(h:p:=by simp only [go_sem,ha,hb,d1,d2,hrow];(try simp (disch:=omega) only [IntWalk.i64_in,IntWalk.u64_in,IntWalk.i32_in,IntWalk.u8_in,if_neg,if_pos])<;> rfl):p:=h
theorem V69 {p:Prop}(h:p:=by intro p hp;simp only [List.mem_cons,List.not_mem_nil,or_false] at hp;rcases hp with rfl|rfl<;>(first|exact ⟨_,rfl,back_refl _⟩|exact ⟨_,rfl,rfl⟩)):p:=h
theorem V70 {p:Prop}(h:p:=by simp only [go_sem,aw_ch,aw_at,Bool.true_and,List.length_cons,List.length_nil,List.map_cons,List.map_nil,Int.toNat_zero,List.getElem?_cons_zero]<;>rfl):p:=h
theorem V71 {p:Prop}(h:p:=by simp only [go_sem,e1,e2,e3,e4,e5];(try simp (disch:=omega) only [IntWalk.i64_in,IntWalk.u64_in,IntWalk.i32_in,IntWalk.u8_in,if_neg,if_pos])<;> rfl):p:=h
theorem V72 {p:Prop}(h:p:=by simp only [go_sem,hs,hp,hk1,t1,Bool.and_true];(try simp (disch:=omega) only [if_pos]);(try simp only [go_sem,hs,hp,hk1,t1,Bool.and_true])<;> rfl):p:=h
theorem V73 {p:Prop}(h:p:=by intro p hp n hn;simp only [List.mem_cons,List.not_mem_nil,or_false] at hp;rcases hp with rfl<;>(simp [look] at hn;subst hn;simp only [go_sem]<;>rfl)):p:=h
theorem V74 {p:Prop}(h:p:=by simp only [go_sem,ht,hgt,hst,hcs];(try simp (disch:=omega) only [IntWalk.i64_in,IntWalk.u64_in,IntWalk.i32_in,IntWalk.u8_in,if_neg,if_pos])<;> rfl):p:=h
theorem V75 {p:Prop}(h:p:=by simp only [go_sem,hlu,hld,List.length_map,tk];(try simp (disch:=omega) only [if_pos]);(try simp only [go_sem,hlu,hld,List.length_map,tk])<;> rfl):p:=h
theorem V76 {p:Prop}(h:p:=by simp only [go_sem,ha,hb,d1,d2];(try simp (disch:=omega) only [IntWalk.i64_in,IntWalk.u64_in,IntWalk.i32_in,IntWalk.u8_in,if_neg,if_pos])<;> rfl):p:=h
theorem V77 {p:Prop}(h:p:=by simp only [go_sem,hr,Int.natCast_zero,Int.toNat_zero,List.map_cons,List.map_nil,List.getElem?_cons_zero,List.take_zero,List.take_succ_cons]<;>rfl):p:=h
theorem V78 {p:Prop}(h:p:=by intro p hp hn;simp only [List.mem_cons,List.not_mem_nil,or_false] at hp;rcases hp with rfl|rfl|rfl|rfl|rfl|rfl|rfl<;>simp [look] at hn):p:=h
theorem V79 {p:Prop}(h:p:=by simp only [go_sem,hr,e1];(try simp (disch:=omega) only [IntWalk.i64_in,IntWalk.u64_in,IntWalk.i32_in,IntWalk.u8_in,if_neg,if_pos])<;> rfl):p:=h
theorem V80 {p:Prop}(h:p:=by simp only [go_sem,hx,ht];(try simp (disch:=omega) only [IntWalk.i64_in,IntWalk.u64_in,IntWalk.i32_in,IntWalk.u8_in,if_neg,if_pos])<;> rfl):p:=h
theorem V81 {p:Prop}(h:p:=by simp only [go_sem,Int.zero_add,Int.natCast_zero,Int.toNat_zero,if_true,List.map_cons,List.map_nil,List.getElem?_cons_zero,hmg,hsp]<;>rfl):p:=h
theorem V82 {p:Prop}(h:p:=by intro p hp hn;simp only [List.mem_cons,List.not_mem_nil,or_false] at hp;rcases hp with rfl|rfl|rfl|rfl|rfl|rfl<;>simp [look] at hn):p:=h
theorem V83 {p:Prop}(h:p:=by simp only [go_sem,q40,q41,q60,q61,d1,d2,hs,Bool.not_true,hg,hc,hcv,hat,d90,hz,hz2,hz3,if_false,hsh,e1,e2,d145,d162]<;>rfl):p:=h
theorem V84 {p:Prop}(h:p:=by simp only [go_sem,hg1,t1,t2,fl,fx,fy];(try simp (disch:=omega) only [if_pos]);(try simp only [go_sem,hg1,t1,t2,fl,fx,fy])<;> rfl):p:=h
theorem V85 {p:Prop}(h:p:=by simp only [go_sem,hr];(try simp (disch:=omega) only [IntWalk.i64_in,IntWalk.u64_in,IntWalk.i32_in,IntWalk.u8_in,if_neg,if_pos])<;> rfl):p:=h
theorem V86 {p:Prop}(h:p:=by simp only [go_sem,hs];(try simp (disch:=omega) only [IntWalk.i64_in,IntWalk.u64_in,IntWalk.i32_in,IntWalk.u8_in,if_neg,if_pos])<;> rfl):p:=h
theorem V87 {p:Prop}(h:p:=by simp only [go_sem,e];(try simp (disch:=omega) only [IntWalk.i64_in,IntWalk.u64_in,IntWalk.i32_in,IntWalk.u8_in,if_neg,if_pos])<;> rfl):p:=h
theorem V88 {p:Prop}(h:p:=by simp only [go_sem,hlu,hld,List.length_map,tk,hl1,hu_k,hd_k,hga,hst3,hF,hl3,hF3,hlp,tj,hs,hfs,hfe]<;>first|exact eqz|rfl):p:=h
theorem V89 {p:Prop}(h:p:=by simp only [go_sem,hs,Int.natCast_zero,Int.toNat_zero,gt_iff_lt,Int.lt_irrefl,decide_false,Bool.and_false]<;>first|exact eqz|rfl):p:=h
theorem V90 {p:Prop}(h:p:=by simp only [go_sem,hg,t0,hln,hg0,hgs,List.length_map,List.length_set,hlb,t1,hg1,hgo,List.getElem?_set_ne hne,hval,hlb2]<;>rfl):p:=h
theorem V91 {p:Prop}(h:p:=by simp only [go_sem];(try simp (disch:=omega) only [IntWalk.i64_in,IntWalk.u64_in,IntWalk.i32_in,IntWalk.u8_in,if_neg,if_pos])<;> rfl):p:=h
theorem V92 {p:Prop}(h:p:=by simp only [go_sem,Int.zero_add,Int.natCast_zero,Int.toNat_zero,if_true,List.map_cons,List.map_nil,List.getElem?_cons_zero]<;>rfl):p:=h
theorem V93 {p:Prop}(h:p:=by simp only [go_sem,hg,t0,hln,hg0,hgs,List.length_map,List.length_set,t1,hg1,hgo,List.getElem?_set_ne hne,hval,hlb2]<;>rfl):p:=h
theorem V94 {p:Prop}(h:p:=by simp only [go_sem,hlu,hld,List.length_map,tk,hl1,hu_k,hd_k,hga,hst3,hF,hl3,hF3,hlp,hfs,hfe]<;>first|exact eqz|rfl):p:=h
theorem V95 {p:Prop}(h:p:=by simp only [go_sem,hlu,hld,List.length_map,tk,hl1,hu_k,hd_k,hga,hst3,hF,hl3,hF3,hlp,tj,hs]<;>first|exact eqz|rfl):p:=h
theorem V96 {p:Prop}(h:p:=by exact ⟨by first|exact WkR.pure rfl|exact WkR.nil _|exact WkR.int (by first|omega|(simp;done)|(simp;omega)),trivial⟩):p:=h
theorem V97 {p:Prop}(h:p:=by simp only [go_sem,hr,List.take_succ_cons,List.take_zero,Int.natCast_zero,Int.toNat_zero,if_true,Nat.zero_le,hl0]<;>rfl):p:=h
theorem V98 {p:Prop}(h:p:=by simp only [go_sem,hlu,hld,List.length_map,tk,hl1,hu_k,hd_k,hga,hst3,hF,hl3,t1,t2,hga,hgb,hp1,hp2,hbk]<;>rfl):p:=h
theorem V99 {p:Prop}(h:p:=by simp only [go_sem,hlu,hld,List.length_map,tk,hl1,hu_k,hd_k,hga,hst3,hl2,t1,t2,hga,hgb,hp1,hp2,hbk]<;>rfl):p:=h
theorem V100 {p:Prop}(h:p:=by simp only [go_sem,hr,List.take_succ_cons,List.take_zero,Int.natCast_zero,Int.toNat_zero,if_true,Nat.zero_le]<;>rfl):p:=h
theorem V101 {p:Prop}(h:p:=by intro p hp hn;simp only [List.mem_cons,List.not_mem_nil,or_false] at hp;rcases hp with rfl|rfl<;>simp [look] at hn):p:=h
theorem V102 {p:Prop}(h:p:=by simp only [go_sem,hlu,hld,List.length_map,tk,hl1,hu_k,hd_k,hga,hst3,hF,hl3,hF3,hlp,Int.natCast_zero]<;>rfl):p:=h
theorem V103 {p:Prop}(h:p:=by simp only [go_sem,hlu,hld,List.length_map,tk,hl1,hu_k,hd_k,hga,hst3,hF,hl3,hF3,hlp,tj,hs,hfs,hfe]<;>rfl):p:=h
theorem V104 {p:Prop}(h:p:=by simp only [go_sem,hlu,hld,List.length_map,tk,hl1,hu_k,hd_k,hga,hst3,hF,Int.natCast_zero,Int.add_zero]<;>rfl):p:=h
theorem V105 {p:Prop}(h:p:=by simp only [go_sem,hs,Int.natCast_zero,Int.toNat_zero,gt_iff_lt,Int.lt_irrefl,decide_false,Bool.and_false]<;>rfl):p:=h
theorem V106 {p:Prop}(h:p:=by simp only [go_sem,hlu,hld,List.length_map,tk,hl1,hu_k,hd_k,hga,hst3,Int.natCast_zero,Int.sub_zero]<;>rfl):p:=h
theorem V107 {p:Prop}(h:p:=by intro p hp hn;simp only [List.mem_cons,List.not_mem_nil,or_false] at hp;rcases hp with rfl<;>simp [look] at hn):p:=h
theorem V108 {p:Prop}(h:p:=by simp only [go_sem,hlu,hld,List.length_map,tk,hl1,hu_k,hd_k,hga,hst3,hF,hl3,hF3,hlp,hfs,hfe]<;>rfl):p:=h
theorem V109 {p:Prop}(h:p:=by simp only [go_sem,hlu,hld,List.length_map,tk,hl1,hu_k,hd_k,hga,hst3,hF,hl3,hF3,hlp,tj,hs]<;>rfl):p:=h
theorem V110 {p:Prop}(h:p:=by simp only [go_sem,q40,q41,q60,q61,d1,d2,hs,Bool.not_true,hg,hc,hcv,hat]<;>first|rfl|exact eqz):p:=h
theorem V111 {p:Prop}(h:p:=by simp only [go_sem,hr,List.take_succ_cons,List.take_zero,h10,if_false,Nat.le_refl,if_true,hl0]<;>rfl):p:=h
theorem V112 {p:Prop}(h:p:=by simp only [go_sem,hlu,hld,List.length_map,tk,tj,hl1,hu_j,hd_j,hg0,hgs,List.length_set]<;>rfl):p:=h
theorem V113 {p:Prop}(h:p:=by simp only [go_sem,hlu,hld,List.length_map,tk,hl1,hu_k,hd_k,hga,hst3,hF,hl3,hF3,hlp]<;>rfl):p:=h
theorem V114 {p:Prop}(h:p:=by simp only [go_sem,hr,List.take_succ_cons,List.take_zero,h10,if_false,Nat.le_refl,if_true]<;>rfl):p:=h
theorem V115 {p:Prop}(h:p:=by simp only [go_sem,hlu,hld,List.length_map,tk,Int.natCast_zero,Int.toNat_natCast,F1_zero]<;>rfl):p:=h
theorem V116 {p:Prop}(h:p:=by simp only [go_sem,hs];(try simp (disch:=omega) only [if_pos]);(try simp only [go_sem,hs])<;> rfl):p:=h
theorem V117 {p:Prop}(h:p:=by exact ⟨by first|exact WkR.pure rfl|exact WkR.nil _|exact WkR.int (by omega),wkr_caps _ _ _⟩):p:=h
theorem V118 {p:Prop}(h:p:=by simp only [go_sem,q40,q41,q60,q61,d1,d2,hs,Bool.not_true,hg,hc,Bool.not_false]<;>rfl):p:=h
theorem V119 {p:Prop}(h:p:=by simp only [go_sem,hle,hin,hany,Bool.not_true,Bool.or_false,hz,if_false,e1,e2]<;>rfl):p:=h
theorem V120 {p:Prop}(h:p:=by simp only [go_sem,hlu,hld,List.length_map,tk,hl1,hu_k,hd_k,hga,hst3,hF,hl3]<;>rfl):p:=h
theorem V121 {p:Prop}(h:p:=by simp only [go_sem,q40,q41,q60,q61,d1,d2,hs,Bool.not_true,hg,Bool.not_false]<;>rfl):p:=h
theorem V122 {p:Prop}(h:p:=by simp only [go_sem,q40,q41,q60,q61,d1,d2,hs,Bool.not_true,hg,hc,hcv,hat]<;>rfl):p:=h
theorem V123 {p:Prop}(h:p:=by simp only [go_sem,hg,t0,hln,hg0,hgs,List.length_map,List.length_set,hlb2]<;>rfl):p:=h
theorem V124 {p:Prop}(h:p:=by simp only [go_sem,hlu,hld,List.length_map,tk,hl1,hu_k,hd_k,hga,hst3,hF]<;>rfl):p:=h
theorem V125 {p:Prop}(h:p:=by simp only [go_sem,h1,h2,h3,h4,Bool.true_and,Bool.and_true,Bool.not_true]<;>rfl):p:=h
theorem V126 {p:Prop}(h:p:=by simp only [go_sem,hr,List.take_succ_cons,List.take_zero,h20,h21,if_false]<;>rfl):p:=h
theorem V127 {p:Prop}(h:p:=by simp only [go_sem,q40,q41,q60,q61,d1,d2,hs,Bool.not_true,hg,hc,hcv]<;>rfl):p:=h
theorem V128 {p:Prop}(h:p:=by simp only [go_sem,hlu,hld,List.length_map,tk,hl1,hu_k,hd_k,hga,hst3]<;>rfl):p:=h
theorem V129 {p:Prop}(h:p:=by simp only [go_sem,hx,hl,ht,List.map_append,List.map_cons,List.map_nil]<;>rfl):p:=h
theorem V130 {p:Prop}(h:p:=by simp only [go_sem,h1,h2,h3,Bool.true_and,Bool.and_true,Bool.not_true]<;>rfl):p:=h
theorem V131 {p:Prop}(h:p:=by simp only [go_sem,hg,t0,hln,hg0,hgs,List.length_map,List.length_set]<;>rfl):p:=h
theorem V132 {p:Prop}(h:p:=by exact ⟨WkR.pure rfl,WkR.pure rfl,WkR.int (by omega),WkR.int (by omega),trivial⟩):p:=h
theorem V133 {p:Prop}(h:p:=by have:=(List.getElem?_eq_some_iff.1 hs).1;rw [pk_len st hk0] at this;exact this):p:=h
theorem V134 {p:Prop}(h:p:=by simp only [go_sem,q40,q41,q60,q61,d1,d2,hs,Bool.not_true,hg,hc]<;>rfl):p:=h
theorem V135 {p:Prop}(h:p:=by simp only [go_sem,hg1,t1,t2,fl,fx,fy,List.getElem?_set_ne hne]<;>rfl):p:=h
theorem V136 {p:Prop}(h:p:=by simp only [go_sem,hf1,hd,hmg,hun,hms,hm2,hl2,Bool.not_false]<;>rfl):p:=h
theorem V137 {p:Prop}(h:p:=by simp only [go_sem,hr,List.take_succ_cons,List.take_zero,hg,hst]<;>rfl):p:=h
theorem V138 {p:Prop}(h:p:=by simp only [go_sem,q40,q41,q60,q61,d1,d2,hs,Bool.not_false]<;>rfl):p:=h
theorem V139 {p:Prop}(h:p:=by simp only [go_sem,hlu,hld,List.length_map]<;>first|rfl|exact eqz):p:=h
theorem V140 {p:Prop}(h:p:=by simp only [go_sem,hlu,hld,List.length_map,Int.natCast_zero]<;>rfl):p:=h
theorem V141 {p:Prop}(h:p:=by exact ⟨WkR.pure rfl,WkR.pure rfl,WkR.pure rfl,WkR.pure rfl,trivial⟩):p:=h
theorem V142 {p:Prop}(h:p:=by simp only [go_sem,hd,i1,i2,Bool.true_and,Bool.not_false]<;>rfl):p:=h
theorem V143 {p:Prop}(h:p:=by simp only [go_sem,hr,List.take_succ_cons,List.take_zero]<;>rfl):p:=h
theorem V144 {p:Prop}(h:p:=by simp only [List.length_cons,List.length_nil,Try.ntmps93];omega):p:=h
theorem V145 {p:Prop}(h:p:=by simp only [List.length_cons,List.length_nil,Try.ntmps28];omega):p:=h
theorem V146 {p:Prop}(h:p:=by simp only [go_sem,hd,Bool.true_and,Bool.not_false]<;>rfl):p:=h
theorem V147 {p:Prop}(h:p:=by simp only [go_sem,hs,hr,idxI]<;>first|rfl|exact eqz):p:=h
theorem V148 {p:Prop}(h:p:=by simp only [go_sem,hf1,hd,hmg,hun,Bool.not_true]<;>rfl):p:=h
theorem V149 {p:Prop}(h:p:=by simp only [go_sem,ht,hgt,hst,hcs,hg2,hi,his]<;>rfl):p:=h
theorem V150 {p:Prop}(h:p:=by simp only [go_sem,hs,hp,hk1,t1,Bool.and_true]<;>rfl):p:=h
theorem V151 {p:Prop}(h:p:=by simp only [go_sem,hlu,hld,List.length_map,tk]<;>rfl):p:=h
theorem V152 {p:Prop}(h:p:=by simp only [go_sem,hr,idxI]<;>first|rfl|exact eqz):p:=h
theorem V153 {p:Prop}(h:p:=by simp only [go_sem,Bool.false_or,hfar,if_true]<;>rfl):p:=h
theorem V154 {p:Prop}(h:p:=by simp only [go_sem,Int.zero_add,h10,if_false]<;>rfl):p:=h
theorem V155 {p:Prop}(h:p:=by simp only [go_sem,q40,q41,q60,q61,d1,d2]<;>rfl):p:=h
theorem V156 {p:Prop}(h:p:=by simp only [go_sem,hlu,hld,List.length_map]<;>rfl):p:=h
theorem V157 {p:Prop}(h:p:=by simp only [go_sem,hs,hg,Int.toNat_natCast]<;>rfl):p:=h
theorem V158 {p:Prop}(h:p:=by simp only [go_sem,hin,hne,Bool.not_false]<;>rfl):p:=h
theorem V159 {p:Prop}(h:p:=by simp only [go_sem,inL]<;>first|rfl|exact eqz):p:=h
theorem V160 {p:Prop}(h:p:=by simp only [go_sem,hg1,t1,t2,fl,fx,fy]<;>rfl):p:=h
theorem V161 {p:Prop}(h:p:=by simp only [go_sem,hr]<;>first|rfl|exact eqz):p:=h
theorem V162 {p:Prop}(h:p:=by simp only [go_sem,hr,pick_min,pick_max]<;>rfl):p:=h
theorem V163 {p:Prop}(h:p:=by simp only [go_sem,hs]<;>first|exact eqz|rfl):p:=h
theorem V164 {p:Prop}(h:p:=by simp only [go_sem,ht,hgt,hst,hcs,hg2]<;>rfl):p:=h
theorem V165 {p:Prop}(h:p:=by simp only [go_sem,hg1,Bool.not_true,hz]<;>rfl):p:=h
theorem V166 {p:Prop}(h:p:=by simp only [go_sem,q40,q41,q60,q61,d1]<;>rfl):p:=h
theorem V167 {p:Prop}(h:p:=by simp only [go_sem,e]<;>first|rfl|exact eqz):p:=h
theorem V168 {p:Prop}(h:p:=by simp only [go_sem,Bool.true_or,if_true]<;>rfl):p:=h
theorem V169 {p:Prop}(h:p:=by simp only [go_sem,ha,hb,d1,d2,hrow]<;>rfl):p:=h
theorem V170 {p:Prop}(h:p:=by simp only [go_sem,hln,List.length_map]<;>rfl):p:=h
theorem V171 {p:Prop}(h:p:=by simp only [go_sem]<;>first|rfl|exact eqz):p:=h
theorem V172 {p:Prop}(h:p:=by simp only [go_sem,e1,e2,e3,e4,e5]<;>rfl):p:=h
theorem V173 {p:Prop}(h:p:=by simp only [go_sem,hle,Int.sub_zero]<;>rfl):p:=h
theorem V174 {p:Prop}(h:p:=by simp only [go_sem,idxI_ge,find_any]<;>rfl):p:=h
theorem V175 {p:Prop}(h:p:=by simp only [go_sem,ht,hgt,hst,hcs]<;>rfl):p:=h
theorem V176 {p:Prop}(h:p:=by simp only [go_sem,ht,hgt,hd,hrow]<;>rfl):p:=h
theorem V177 {p:Prop}(h:p:=by simp only [go_sem,e,hso,←hsl,hp]<;>rfl):p:=h
theorem V178 {p:Prop}(h:p:=by simp only [go_sem,hd,Bool.not_true]<;>rfl):p:=h
theorem V179 {p:Prop}(h:p:=by first|omega|(simp;done)|(simp;omega)):p:=h
theorem V180 {p:Prop}(h:p:=by simp only [go_sem,Int.natCast_zero]<;>rfl):p:=h
theorem V181 {p:Prop}(h:p:=by simp only [go_sem,ha,hb,d1,hrow]<;>rfl):p:=h
theorem V182 {p:Prop}(h:p:=by simp only [go_sem,hw,hl,hst,hk1]<;>rfl):p:=h
theorem V183 {p:Prop}(h:p:=by simp only [go_sem,ha,hb,d1,d2]<;>rfl):p:=h
theorem V184 {p:Prop}(h:p:=by simp only [go_sem,hm1,hT,hrow]<;>rfl):p:=h
theorem V185 {p:Prop}(h:p:=by simp only [go_sem,Bool.false_or]<;>rfl):p:=h
theorem V186 {p:Prop}(h:p:=by simp only [go_sem,hs,hr,idxI]<;>rfl):p:=h
theorem V187 {p:Prop}(h:p:=by simp only [go_sem,Bool.not_and]<;>rfl):p:=h
theorem V188 {p:Prop}(h:p:=by simp only [go_sem,hf1,hd,hun]<;>rfl):p:=h
theorem V189 {p:Prop}(h:p:=by simp only [go_sem,Int.zero_add]<;>rfl):p:=h
theorem V190 {p:Prop}(h:p:=by simp only [go_sem,ht,hgt,hd]<;>rfl):p:=h
theorem V191 {p:Prop}(h:p:=by simp only [go_sem,hr,stillS]<;>rfl):p:=h
theorem V192 {p:Prop}(h:p:=by simp only [go_sem,hr,idxI]<;>rfl):p:=h
theorem V193 {p:Prop}(h:p:=by simp only [go_sem,hidx,hr]<;>rfl):p:=h
theorem V194 {p:Prop}(h:p:=by simp only [go_sem,hin,hne]<;>rfl):p:=h
theorem V195 {p:Prop}(h:p:=by simp only [go_sem,hm1,hT]<;>rfl):p:=h
theorem V196 {p:Prop}(h:p:=by simp only [go_sem,hle,hr]<;>rfl):p:=h
theorem V197 {p:Prop}(h:p:=by simp only [go_sem,hr,e1]<;>rfl):p:=h
theorem V198 {p:Prop}(h:p:=by simp only [go_sem,ea,eb]<;>rfl):p:=h
theorem V199 {p:Prop}(h:p:=by simp only [go_sem,inL]<;>rfl):p:=h
theorem V200 {p:Prop}(h:p:=by simp only [go_sem,hta]<;>rfl):p:=h
theorem V201 {p:Prop}(h:p:=by simp only [go_sem,hm1]<;>rfl):p:=h
theorem V202 {p:Prop}(h:p:=by simp only [go_sem,hr]<;>rfl):p:=h
theorem V203 {p:Prop}(h:p:=by simp only [go_sem,hs]<;>rfl):p:=h
theorem V204 {p:Prop}(h:p:=by simp only [go_sem,hu]<;>rfl):p:=h
theorem V205 {p:Prop}(h:p:=by simp only [go_sem,e]<;>rfl):p:=h
theorem V206 {p:Prop}(h:p:=by exact ⟨WkP.refl rfl,trivial⟩):p:=h
theorem V207 {p:Prop}(h:p:=by rw [opLocs_cons];simp [hl]):p:=h
theorem V208 {p:Prop}(h:p:=by simp only [go_sem]<;>rfl):p:=h
theorem V209 {p:Prop}(h:p:=by intro d hd;cases hd):p:=h
theorem V210 {p:Prop}(h:p:=by simp only [go_sem]):p:=h
theorem V211 {p:Prop}(h:p:=by simpa using hl):p:=h
theorem V212 {p:Prop}(h:p:=by decide +kernel):p:=h
theorem V213 {p:Prop}(h:p:=by rw [h1];rfl):p:=h
theorem V214 {p:Prop}(h:p:=by simp;omega):p:=h
theorem V215 {p:Prop}(h:p:=by kernel_rfl):p:=h
theorem V216 {p:Prop}(h:p:=by simp [hy]):p:=h
theorem V217 {p:Prop}(h:p:=by simp [hl]):p:=h
end Go

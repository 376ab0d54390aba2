/- Tactics that stand in many places, each by a name. -/
import Derived.WalkKit
namespace Go
theorem V1 {p:Prop}(h:p:=by simp only [go_sem,X.h,List.map_cons,List.length_cons,List.length_map,List.getElem?_cons_zero,List.getElem?_cons_succ,Int.toNat_zero,Int.toNat_one,List.drop_succ_cons,List.drop_zero];(try simp (disch:=omega) only [if_pos]);(try simp only [go_sem,X.h,List.map_cons,List.length_cons,List.length_map,List.getElem?_cons_zero,List.getElem?_cons_succ,Int.toNat_zero,Int.toNat_one,List.drop_succ_cons,List.drop_zero])<;>first|(refine JAf ⟨by (try simp only [List.length_append,List.length_drop,List.length_take,List.length_map,List.length_cons,List.length_nil,List.length_replicate,List.length_set,List.length_range,Nat.zero_add]);omega,by (try simp only [List.length_append,List.length_drop,List.length_take,List.length_map,List.length_cons,List.length_nil,List.length_replicate,List.length_set,List.length_range,Nat.zero_add]);omega,by repeat (first|exact JAa|assumption|refine JAW ?_ ?_|refine JAY ?_|refine JAc ?_|exact JAZ (fun _=>rfl)|exact JAb rfl|refine JAX rfl ?_)⟩ ?_;simp only [go_sem,X.h,List.map_cons,List.length_cons,List.length_map,List.getElem?_cons_zero,List.getElem?_cons_succ,Int.toNat_zero,Int.toNat_one,List.drop_succ_cons,List.drop_zero]<;>rfl)|(refine JAf ⟨by (try simp only [List.length_append,List.length_drop,List.length_take,List.length_map,List.length_cons,List.length_nil,List.length_replicate,List.length_set,List.length_range,Nat.zero_add]);omega,by repeat (first|exact JAa|assumption|refine JAW ?_ ?_|refine JAY ?_|refine JAc ?_|exact JAZ (fun _=>rfl)|exact JAb rfl|refine JAX rfl ?_)⟩ ?_;simp only [go_sem,X.h,List.map_cons,List.length_cons,List.length_map,List.getElem?_cons_zero,List.getElem?_cons_succ,Int.toNat_zero,Int.toNat_one,List.drop_succ_cons,List.drop_zero]<;>rfl)|rfl):p:=h
theorem V2 {p:Prop}(h:p:=by exact ⟨by first|exact Jj.pure rfl|exact Jj.of rfl rfl|exact Jj.nil _|exact Jj.int (by first|omega|(simp;done)|(simp;omega))|exact Jj.fptW rfl ⟨by first|exact .inl rfl|exact .inr rfl,by first|exact .inl rfl|exact .inr rfl,by first|exact .inl rfl|exact .inr rfl,by first|exact .inl rfl|exact .inr rfl,by first|exact .inl rfl|exact .inr rfl,by first|exact .inl rfl|exact .inr rfl,trivial⟩,by first|exact Jj.pure rfl|exact Jj.of rfl rfl|exact Jj.nil _|exact Jj.int (by first|omega|(simp;done)|(simp;omega))|exact Jj.fptW rfl ⟨by first|exact .inl rfl|exact .inr rfl,by first|exact .inl rfl|exact .inr rfl,by first|exact .inl rfl|exact .inr rfl,by first|exact .inl rfl|exact .inr rfl,by first|exact .inl rfl|exact .inr rfl,by first|exact .inl rfl|exact .inr rfl,trivial⟩,by first|exact Jj.pure rfl|exact Jj.of rfl rfl|exact Jj.nil _|exact Jj.int (by first|omega|(simp;done)|(simp;omega))|exact Jj.fptW rfl ⟨by first|exact .inl rfl|exact .inr rfl,by first|exact .inl rfl|exact .inr rfl,by first|exact .inl rfl|exact .inr rfl,by first|exact .inl rfl|exact .inr rfl,by first|exact .inl rfl|exact .inr rfl,by first|exact .inl rfl|exact .inr rfl,trivial⟩,trivial⟩):p:=h
theorem V3 {p:Prop}(h:p:=by simp only [go_sem,X.h,Int.toNat_zero];(try simp (disch:=omega) only [if_pos]);(try simp only [go_sem,X.h,Int.toNat_zero])<;>first|(refine JAf ⟨by (try simp only [List.length_append,List.length_drop,List.length_take,List.length_map,List.length_cons,List.length_nil,List.length_replicate,List.length_set,List.length_range,Nat.zero_add]);omega,by (try simp only [List.length_append,List.length_drop,List.length_take,List.length_map,List.length_cons,List.length_nil,List.length_replicate,List.length_set,List.length_range,Nat.zero_add]);omega,by repeat (first|exact JAa|assumption|refine JAW ?_ ?_|refine JAY ?_|refine JAc ?_|exact JAZ (fun _=>rfl)|exact JAb rfl|refine JAX rfl ?_)⟩ ?_;simp only [go_sem,X.h,Int.toNat_zero]<;>rfl)|(refine JAf ⟨by (try simp only [List.length_append,List.length_drop,List.length_take,List.length_map,List.length_cons,List.length_nil,List.length_replicate,List.length_set,List.length_range,Nat.zero_add]);omega,by repeat (first|exact JAa|assumption|refine JAW ?_ ?_|refine JAY ?_|refine JAc ?_|exact JAZ (fun _=>rfl)|exact JAb rfl|refine JAX rfl ?_)⟩ ?_;simp only [go_sem,X.h,Int.toNat_zero]<;>rfl)|rfl):p:=h
theorem V4 {p:Prop}(h:p:=by simp only [go_sem,X.h];(try simp (disch:=omega) only [if_pos]);(try simp only [go_sem,X.h])<;>first|(refine JAf ⟨by (try simp only [List.length_append,List.length_drop,List.length_take,List.length_map,List.length_cons,List.length_nil,List.length_replicate,List.length_set,List.length_range,Nat.zero_add]);omega,by (try simp only [List.length_append,List.length_drop,List.length_take,List.length_map,List.length_cons,List.length_nil,List.length_replicate,List.length_set,List.length_range,Nat.zero_add]);omega,by repeat (first|exact JAa|assumption|refine JAW ?_ ?_|refine JAY ?_|refine JAc ?_|exact JAZ (fun _=>rfl)|exact JAb rfl|refine JAX rfl ?_)⟩ ?_;simp only [go_sem,X.h]<;>rfl)|(refine JAf ⟨by (try simp only [List.length_append,List.length_drop,List.length_take,List.length_map,List.length_cons,List.length_nil,List.length_replicate,List.length_set,List.length_range,Nat.zero_add]);omega,by repeat (first|exact JAa|assumption|refine JAW ?_ ?_|refine JAY ?_|refine JAc ?_|exact JAZ (fun _=>rfl)|exact JAb rfl|refine JAX rfl ?_)⟩ ?_;simp only [go_sem,X.h]<;>rfl)|rfl):p:=h
theorem V5 {p:Prop}(h:p:=by exact ⟨by first|exact Jj.pure rfl|exact Jj.of rfl rfl|exact Jj.nil _|exact Jj.int (by first|omega|(simp;done)|(simp;omega))|exact Jj.fptW rfl ⟨by first|exact .inl rfl|exact .inr rfl,by first|exact .inl rfl|exact .inr rfl,by first|exact .inl rfl|exact .inr rfl,by first|exact .inl rfl|exact .inr rfl,by first|exact .inl rfl|exact .inr rfl,by first|exact .inl rfl|exact .inr rfl,trivial⟩,by first|exact Jj.pure rfl|exact Jj.of rfl rfl|exact Jj.nil _|exact Jj.int (by first|omega|(simp;done)|(simp;omega))|exact Jj.fptW rfl ⟨by first|exact .inl rfl|exact .inr rfl,by first|exact .inl rfl|exact .inr rfl,by first|exact .inl rfl|exact .inr rfl,by first|exact .inl rfl|exact .inr rfl,by first|exact .inl rfl|exact .inr rfl,by first|exact .inl rfl|exact .inr rfl,trivial⟩,trivial⟩):p:=h
theorem V6 {p:Prop}(h:p:=by simp only [go_sem,hr,he0,htk,hbb,hbl2,htm1,htm2,htm3,hst,Bool.toNat_false,Int.natCast_zero,Int.add_zero]<;>first|((repeat' (first|with_reducible_and_instances rfl|refine Q8 ?_ ?_ ?_|refine Q7 ?_|refine YL ?_|refine Q9 ?_ ?_|refine Q3 ?_|refine Q4 ?_|refine YN ?_|refine Q6 ?_ ?_|refine YI ?_ ?_|refine YK ?_|refine YF ?_|(refine Q5 ?_;omega)));all_goals (first|omega|((repeat' (first|with_reducible_and_instances rfl|refine Q8 ?_ ?_ ?_|refine congrArg (Jh.ret _) ?_|refine Q7 ?_|refine Q9 ?_ ?_|refine congrArg (List.cons _) ?_|refine congrArg₂ List.cons ?_ ?_|refine congrArg (Prod.mk _) ?_|refine Q3 ?_|refine Q4 ?_|refine Q6 ?_ ?_|refine Q5 ?_));all_goals omega)))|rfl):p:=h
theorem V7 {p:Prop}(h:p:=by simp only [go_sem,X.h]<;>first|((repeat' (first|with_reducible_and_instances rfl|refine Q8 ?_ ?_ ?_|refine Q7 ?_|refine YL ?_|refine Q9 ?_ ?_|refine Q3 ?_|refine Q4 ?_|refine YN ?_|refine Q6 ?_ ?_|refine YI ?_ ?_|refine YK ?_|refine YF ?_|(refine Q5 ?_;omega)));all_goals (first|omega|((repeat' (first|with_reducible_and_instances rfl|refine Q8 ?_ ?_ ?_|refine congrArg (Jh.ret _) ?_|refine Q7 ?_|refine Q9 ?_ ?_|refine congrArg (List.cons _) ?_|refine congrArg₂ List.cons ?_ ?_|refine congrArg (Prod.mk _) ?_|refine Q3 ?_|refine Q4 ?_|refine Q6 ?_ ?_|refine Q5 ?_));all_goals omega)))|rfl):p:=h
theorem V8 {p:Prop}(h:p:=by simp only [go_sem,hmr];(try simp (disch:=omega) only [if_pos]);(try simp only [go_sem,hmr])<;>first|(refine JAf ⟨by omega,by omega,by repeat (first|exact JAa|assumption|refine JAW ?_ ?_|refine JAY ?_|refine JAc ?_|exact JAZ (fun _=>rfl)|exact JAb rfl|refine JAX rfl ?_)⟩ ?_;simp only [go_sem,hmr]<;>rfl)|(refine JAf ⟨by omega,by repeat (first|exact JAa|assumption|refine JAW ?_ ?_|refine JAY ?_|refine JAc ?_|exact JAZ (fun _=>rfl)|exact JAb rfl|refine JAX rfl ?_)⟩ ?_;simp only [go_sem,hmr]<;>rfl)|rfl):p:=h
theorem V9 {p:Prop}(h:p:=by simp only [go_sem,X.h,List.map_cons,List.length_cons,List.length_map,List.getElem?_cons_zero,List.getElem?_cons_succ,Int.toNat_zero,Int.toNat_one,List.drop_succ_cons,List.drop_zero]<;>first|((repeat' (first|with_reducible_and_instances rfl|refine Q8 ?_ ?_ ?_|refine Q7 ?_|refine YL ?_|refine Q9 ?_ ?_|refine Q3 ?_|refine Q4 ?_|refine YN ?_|refine Q6 ?_ ?_|refine YI ?_ ?_|refine YK ?_|refine YF ?_|(refine Q5 ?_;omega)));all_goals (first|omega|(simp [Qy];done)))|rfl):p:=h
theorem V10 {p:Prop}(h:p:=by simp only [go_sem,htk,hdk,gn,List.nil_append,hta,hir,hl8,hpe,h00,List.length_map]<;>first|((repeat' (first|with_reducible_and_instances rfl|refine Q8 ?_ ?_ ?_|refine Q7 ?_|refine YL ?_|refine Q9 ?_ ?_|refine Q3 ?_|refine Q4 ?_|refine YN ?_|refine Q6 ?_ ?_|refine YI ?_ ?_|refine YK ?_|refine YF ?_|(refine Q5 ?_;omega)));all_goals (first|omega|(rw [htk2];omega)))|rfl):p:=h
theorem Y1 {p:Prop}(h:p:=by exact ⟨by first|exact Jj.pure rfl|exact Jj.of rfl rfl|exact Jj.nil _|exact Jj.int (by first|omega|(simp;done)|(simp;omega))|exact Jj.fptW rfl ⟨by first|exact .inl rfl|exact .inr rfl,by first|exact .inl rfl|exact .inr rfl,by first|exact .inl rfl|exact .inr rfl,by first|exact .inl rfl|exact .inr rfl,by first|exact .inl rfl|exact .inr rfl,by first|exact .inl rfl|exact .inr rfl,trivial⟩,trivial⟩):p:=h
theorem ZR {p:Prop}(h:p:=by simp only [go_sem,X.h,List.map_cons,List.length_cons,List.length_map,List.getElem?_cons_zero,List.getElem?_cons_succ,Int.toNat_zero,Int.toNat_one,List.drop_succ_cons,List.drop_zero];(try simp (disch:=omega) only [if_pos]);(try simp only [go_sem,X.h,List.map_cons,List.length_cons,List.length_map,List.getElem?_cons_zero,List.getElem?_cons_succ,Int.toNat_zero,Int.toNat_one,List.drop_succ_cons,List.drop_zero])<;> rfl):p:=h
theorem V13 {p:Prop}(h:p:=by simp only [go_sem,X.h,eq_self,if_true,List.drop_zero,eq_self,if_true,List.drop_zero,if_false,Option.map_some,List.length_cons,List.length_nil,List.drop_succ_cons,List.drop_zero];(try simp (disch:=omega) only [if_pos]);(try simp only [go_sem,X.h,eq_self,if_true,List.drop_zero,eq_self,if_true,List.drop_zero,if_false,Option.map_some,List.length_cons,List.length_nil,List.drop_succ_cons,List.drop_zero])<;> rfl):p:=h
theorem V14 {p:Prop}(h:p:=by simp only [go_sem,X.h,Bool.not_false,Bool.not_true,Int.toNat_zero]<;>first|((repeat' (first|with_reducible_and_instances rfl|refine Q8 ?_ ?_ ?_|refine Q7 ?_|refine YL ?_|refine Q9 ?_ ?_|refine Q3 ?_|refine Q4 ?_|refine YN ?_|refine Q6 ?_ ?_|refine YI ?_ ?_|refine YK ?_|refine YF ?_|(refine Q5 ?_;omega)));all_goals (first|omega|(rw [hvt];omega)))|rfl):p:=h
theorem V15 {p:Prop}(h:p:=by simp only [go_sem,X.h]<;>first|((repeat' (first|with_reducible_and_instances rfl|refine Q8 ?_ ?_ ?_|refine Q7 ?_|refine YL ?_|refine Q9 ?_ ?_|refine Q3 ?_|refine Q4 ?_|refine YN ?_|refine Q6 ?_ ?_|refine YI ?_ ?_|refine YK ?_|refine YF ?_|(refine Q5 ?_;omega)));all_goals (first|omega|(simp [encStr];done)|(simp;omega)))|rfl):p:=h
theorem V16 {p:Prop}(h:p:=by simp only [go_sem]<;>first|((repeat' (first|with_reducible_and_instances rfl|refine Q8 ?_ ?_ ?_|refine Q7 ?_|refine YL ?_|refine Q9 ?_ ?_|refine Q3 ?_|refine Q4 ?_|refine YN ?_|refine Q6 ?_ ?_|refine YI ?_ ?_|refine YK ?_|refine YF ?_|(refine Q5 ?_;omega)));all_goals (first|omega|(rw [hon];omega)|(rw [hvl];omega)))|rfl):p:=h
theorem V17 {p:Prop}(h:p:=by simp only [go_sem,X.h]<;>first|((repeat' (first|with_reducible_and_instances rfl|refine Q8 ?_ ?_ ?_|refine Q7 ?_|refine YL ?_|refine Q9 ?_ ?_|refine Q3 ?_|refine Q4 ?_|refine YN ?_|refine Q6 ?_ ?_|refine YI ?_ ?_|refine YK ?_|refine YF ?_|(refine Q5 ?_;omega)));all_goals (first|omega|(rw [hts];simp [Y7];done)))|rfl):p:=h
theorem V18 {p:Prop}(h:p:=by simp only [go_sem,X.h]<;>first|((repeat' (first|with_reducible_and_instances rfl|refine Q8 ?_ ?_ ?_|refine Q7 ?_|refine YL ?_|refine Q9 ?_ ?_|refine Q3 ?_|refine Q4 ?_|refine YN ?_|refine Q6 ?_ ?_|refine YI ?_ ?_|refine YK ?_|refine YF ?_|(refine Q5 ?_;omega)));all_goals (first|omega|(rw [hts];simp [Yx];done)))|rfl):p:=h
theorem V19 {p:Prop}(h:p:=by simp only [go_sem,X.h,Int.toNat_zero]<;>first|((repeat' (first|with_reducible_and_instances rfl|refine Q8 ?_ ?_ ?_|refine Q7 ?_|refine YL ?_|refine Q9 ?_ ?_|refine Q3 ?_|refine Q4 ?_|refine YN ?_|refine Q6 ?_ ?_|refine YI ?_ ?_|refine YK ?_|refine YF ?_|(refine Q5 ?_;omega)));all_goals (first|omega|(simp;done)))|rfl):p:=h
theorem V20 {p:Prop}(h:p:=by simp only [go_sem,X.h,List.map_cons,List.length_cons,List.length_map,List.getElem?_cons_zero,List.drop_succ_cons,List.drop_zero,Int.natCast_add,Int.natCast_one];(try simp (disch:=omega) only [if_pos]);(try simp only [go_sem,X.h,List.map_cons,List.length_cons,List.length_map,List.getElem?_cons_zero,List.drop_succ_cons,List.drop_zero,Int.natCast_add,Int.natCast_one])<;> rfl):p:=h
theorem V21 {p:Prop}(h:p:=by simp only [go_sem,X.h]<;>first|((repeat' (first|with_reducible_and_instances rfl|refine Q8 ?_ ?_ ?_|refine Q7 ?_|refine YL ?_|refine Q9 ?_ ?_|refine Q3 ?_|refine Q4 ?_|refine YN ?_|refine Q6 ?_ ?_|refine YI ?_ ?_|refine YK ?_|refine YF ?_|(refine Q5 ?_;omega)));all_goals (first|omega|(simp;done)))|rfl):p:=h
theorem V22 {p:Prop}(h:p:=by simp only [go_sem,X.h,rk,Zd]<;>first|((repeat' (first|with_reducible_and_instances rfl|refine Q8 ?_ ?_ ?_|refine Q7 ?_|refine YL ?_|refine Q9 ?_ ?_|refine Q3 ?_|refine Q4 ?_|refine YN ?_|refine Q6 ?_ ?_|refine YI ?_ ?_|refine YK ?_|refine YF ?_|(refine Q5 ?_;omega)));all_goals rfl)|rfl):p:=h
theorem V23 {p:Prop}(h:p:=by simp only [go_sem,X.h,List.map_cons,List.length_cons,List.length_map,List.getElem?_cons_zero,List.getElem?_cons_succ,Int.toNat_zero,Int.toNat_one];(try simp (disch:=omega) only [if_pos]);(try simp only [go_sem,X.h,List.map_cons,List.length_cons,List.length_map,List.getElem?_cons_zero,List.getElem?_cons_succ,Int.toNat_zero,Int.toNat_one])<;> rfl):p:=h
theorem V24 {p:Prop}(h:p:=by exact ⟨by first|exact Jj.pure rfl|exact Jj.nil _|exact Jj.int (by first|omega|(simp;done)|(simp;omega)),by first|exact Jj.pure rfl|exact Jj.nil _|exact Jj.int (by first|omega|(simp;done)|(simp;omega)),by first|exact Jj.pure rfl|exact Jj.nil _|exact Jj.int (by first|omega|(simp;done)|(simp;omega)),trivial⟩):p:=h
theorem V25 {p:Prop}(h:p:=by simp only [go_sem,X.h,List.map_cons,List.map_nil,List.length_cons,List.length_nil,List.getElem?_cons_zero,Int.toNat_zero];(try simp (disch:=omega) only [if_pos]);(try simp only [go_sem,X.h,List.map_cons,List.map_nil,List.length_cons,List.length_nil,List.getElem?_cons_zero,Int.toNat_zero])<;> rfl):p:=h
theorem Yh {p:Prop}(h:p:=by simp only [go_sem,X.h,List.map_cons,List.length_cons,List.length_map,List.getElem?_cons_zero,List.getElem?_cons_succ,Int.toNat_zero,Int.toNat_one,List.drop_succ_cons,List.drop_zero];(try simp (disch:=omega) only [IntWalk.i64_in,IntWalk.u64_in,IntWalk.i32_in,IntWalk.u8_in,if_neg,if_pos])<;> rfl):p:=h
theorem V27 {p:Prop}(h:p:=by exact ⟨by first|exact Jj.pure rfl|exact Jj.of rfl rfl|exact Jj.nil _|exact Jj.int (by first|omega|(simp;done)|(simp;omega)),by first|exact Jj.pure rfl|exact Jj.of rfl rfl|exact Jj.nil _|exact Jj.int (by first|omega|(simp;done)|(simp;omega)),trivial⟩):p:=h
theorem V28 {p:Prop}(h:p:=by simp only [go_sem,X.h,List.map_cons,List.length_cons,List.length_map,List.getElem?_cons_zero,List.getElem?_cons_succ,Int.toNat_zero,Int.toNat_one,List.drop_succ_cons,List.drop_zero,Int.natCast_zero,JBw,List.map_cons,List.map_nil,List.length_cons,List.length_nil]<;>rfl):p:=h
theorem V29 {p:Prop}(h:p:=by intro p hp;simp only [List.mem_cons,List.not_mem_nil,or_false] at hp;rcases hp with rfl|rfl<;>(first|exact ⟨_,rfl,JEB _⟩|exact ⟨_,rfl,_,rfl,by simp [Jx,JDV];omega⟩|exact ⟨_,rfl,_,rfl,by simp [Jx,JDV]⟩|exact ⟨_,rfl,_,rfl⟩)):p:=h
theorem V30 {p:Prop}(h:p:=by exact ⟨by first|exact Jj.pure rfl|exact Jj.nil _|exact Jj.int (by first|omega|(simp;done)|(simp;omega)),by first|exact Jj.pure rfl|exact Jj.nil _|exact Jj.int (by first|omega|(simp;done)|(simp;omega)),trivial⟩):p:=h
theorem V31 {p:Prop}(h:p:=by simp only [go_sem,X.h,Bool.toNat_false,Bool.toNat_true,Int.natCast_zero,Int.natCast_one,Int.add_zero];(try simp (disch:=omega) only [IntWalk.i64_in,IntWalk.u64_in,IntWalk.i32_in,IntWalk.u8_in,if_neg,if_pos])<;> rfl):p:=h
theorem V32 {p:Prop}(h:p:=by exact ⟨by first|exact Jj.pure rfl|exact Jj.of rfl rfl|exact Jj.int (by first|omega|(simp;done)),by first|exact Jj.pure rfl|exact Jj.of rfl rfl|exact Jj.int (by first|omega|(simp;done)),trivial⟩):p:=h
theorem V33 {p:Prop}(h:p:=by simp only [go_sem,X.h,List.map_cons,List.length_cons,List.length_map,List.getElem?_cons_zero,List.getElem?_cons_succ,Int.toNat_zero,Int.toNat_one,List.drop_succ_cons,List.drop_zero,Int.natCast_zero,Jq]<;>rfl):p:=h
theorem V34 {p:Prop}(h:p:=by simp only [go_sem,X.h,List.map_cons,List.length_cons,List.length_map,List.getElem?_cons_zero,List.getElem?_cons_succ,Int.toNat_zero,Int.toNat_one,List.drop_succ_cons,List.drop_zero]<;>first|exact QP|rfl):p:=h
theorem V35 {p:Prop}(h:p:=by simp only [go_sem,X.h,List.map_cons,List.length_cons,List.length_map,List.getElem?_cons_zero,List.getElem?_cons_succ,Int.toNat_zero,Int.toNat_one,List.drop_succ_cons,List.drop_zero]<;>first|rfl|exact QP):p:=h
theorem V36 {p:Prop}(h:p:=by intro p hp n hn;simp only [List.mem_cons,List.not_mem_nil,or_false] at hp;rcases hp with rfl<;>(simp [look] at hn;subst hn;simp only [go_sem,X.h,Nat.sub_self,List.replicate_zero,List.nil_append]<;>rfl)):p:=h
theorem V37 {p:Prop}(h:p:=by intro p hp;simp only [List.mem_cons,List.not_mem_nil,or_false] at hp;rcases hp with rfl|rfl<;>(first|exact ⟨_,rfl,JEB _⟩|exact ⟨_,rfl,_,rfl,by simp [Jx]⟩|exact ⟨_,rfl,_,rfl⟩)):p:=h
theorem JP {p:Prop}(h:p:=by simp only [go_sem,X.h,List.map_cons,List.length_cons,List.length_map,List.getElem?_cons_zero,List.getElem?_cons_succ,Int.toNat_zero,Int.toNat_one,List.drop_succ_cons,List.drop_zero]<;>rfl):p:=h
theorem V39 {p:Prop}(h:p:=by intro p hp;simp only [List.mem_cons,List.not_mem_nil,or_false] at hp;rcases hp with rfl|rfl<;>(first|exact ⟨_,rfl,JEB _⟩|exact ⟨_,rfl,_,rfl,by simp⟩|exact ⟨_,rfl,_,rfl⟩)):p:=h
theorem V40 {p:Prop}(h:p:=by simp only [go_sem,X.h,eq_self,if_true,List.drop_zero,eq_self,if_true,List.drop_zero,if_false,Option.map_some,List.length_cons,List.length_nil,List.drop_succ_cons,List.drop_zero]<;>rfl):p:=h
theorem V41 {p:Prop}(h:p:=by simp only [go_sem,X.h,Nat.zero_mul,List.drop_zero,Int.toNat_zero];(try simp (disch:=omega) only [if_pos]);(try simp only [go_sem,X.h,Nat.zero_mul,List.drop_zero,Int.toNat_zero])<;> rfl):p:=h
theorem YQ {p:Prop}(h:p:=by intro p hp;simp only [List.mem_cons,List.not_mem_nil,or_false] at hp;rcases hp with rfl<;>(first|exact ⟨_,rfl,JEB _⟩|exact ⟨_,rfl,_,rfl,by simp⟩|exact ⟨_,rfl,_,rfl⟩)):p:=h
theorem V43 {p:Prop}(h:p:=by simp only [go_sem,X.h,Bool.not_false,Bool.not_true,Int.toNat_zero];(try simp (disch:=omega) only [IntWalk.i64_in,IntWalk.u64_in,IntWalk.i32_in,IntWalk.u8_in,if_neg,if_pos])<;> rfl):p:=h
theorem YB {p:Prop}(h:p:=by first|rfl|(simp only [List.all_cons,List.all_nil,inn_bk,Bool.and_true,Bool.true_and];done)|(simp only [List.all_cons,List.all_nil,inn_bk,Bool.and_true,Bool.true_and]<;>rfl)):p:=h
theorem V45 {p:Prop}(h:p:=by intro p hp n hn;simp only [List.mem_cons,List.not_mem_nil,or_false] at hp;rcases hp with rfl<;>(simp [look] at hn;subst hn;simp only [go_sem,X.h,List.append_assoc]<;>rfl)):p:=h
theorem V46 {p:Prop}(h:p:=by intro p hp n hn;simp only [List.mem_cons,List.not_mem_nil,or_false] at hp;rcases hp with rfl<;>(simp [look] at hn;subst hn;simp only [go_sem,X.h,List.cons_append]<;>rfl)):p:=h
theorem V47 {p:Prop}(h:p:=by simp only [go_sem,X.h,List.map_cons,List.length_cons,List.length_map,List.getElem?_cons_zero,List.drop_succ_cons,List.drop_zero,Int.natCast_add,Int.natCast_one]<;>rfl):p:=h
theorem V48 {p:Prop}(h:p:=by simp only [go_sem,X.h,Bool.not_false,Bool.not_true];(try simp (disch:=omega) only [IntWalk.i64_in,IntWalk.u64_in,IntWalk.i32_in,IntWalk.u8_in,if_neg,if_pos])<;> rfl):p:=h
theorem V49 {p:Prop}(h:p:=by simp only [go_sem,X.h,Bool.not_true,Bool.not_true];(try simp (disch:=omega) only [IntWalk.i64_in,IntWalk.u64_in,IntWalk.i32_in,IntWalk.u8_in,if_neg,if_pos])<;> rfl):p:=h
theorem V50 {p:Prop}(h:p:=by simp only [go_sem,X.h,eq_self,if_true,List.drop_zero,eq_self,if_true,List.drop_zero,List.length_cons,List.length_nil,List.drop_succ_cons,List.drop_zero]<;>rfl):p:=h
theorem V51 {p:Prop}(h:p:=by intro p hp n hn;simp only [List.mem_cons,List.not_mem_nil,or_false] at hp;rcases hp with rfl|rfl<;>(simp [look] at hn;subst hn;simp only [go_sem,X.h]<;>rfl)):p:=h
theorem V52 {p:Prop}(h:p:=by intro p hp hn;simp only [List.mem_cons,List.not_mem_nil,or_false] at hp;rcases hp with rfl|rfl<;>first|(simp [look] at hn;done)|(simp only [go_sem]<;>rfl)):p:=h
theorem V53 {p:Prop}(h:p:=by simp only [go_sem,X.h,reduceCtorEq,if_false];(try simp (disch:=omega) only [IntWalk.i64_in,IntWalk.u64_in,IntWalk.i32_in,IntWalk.u8_in,if_neg,if_pos])<;> rfl):p:=h
theorem V54 {p:Prop}(h:p:=by simp only [go_sem,X.h,Bool.not_true,Bool.not_false];(try simp (disch:=omega) only [if_pos]);(try simp only [go_sem,X.h,Bool.not_true,Bool.not_false])<;> rfl):p:=h
theorem ZT {p:Prop}(h:p:=by intro p hp n hn;simp only [List.mem_cons,List.not_mem_nil,or_false] at hp;rcases hp with rfl|rfl<;>(simp [look] at hn;subst hn;simp only [go_sem]<;>rfl)):p:=h
theorem V56 {p:Prop}(h:p:=by simp only [go_sem,X.h,JBG,gt_iff_lt];(try simp (disch:=omega) only [IntWalk.i64_in,IntWalk.u64_in,IntWalk.i32_in,IntWalk.u8_in,if_neg,if_pos])<;> rfl):p:=h
theorem V57 {p:Prop}(h:p:=by simp only [go_sem,X.h,Bool.not_true,Bool.not_true];(try simp (disch:=omega) only [if_pos]);(try simp only [go_sem,X.h,Bool.not_true,Bool.not_true])<;> rfl):p:=h
theorem V58 {p:Prop}(h:p:=by intro p hp n hn;simp only [List.mem_cons,List.not_mem_nil,or_false] at hp;rcases hp with rfl<;>(simp [look] at hn;subst hn;simp only [go_sem,X.h]<;>rfl)):p:=h
theorem V59 {p:Prop}(h:p:=by simp only [go_sem,X.h,List.map_cons,List.length_cons,List.length_map,List.getElem?_cons_zero,List.getElem?_cons_succ,Int.toNat_zero,Int.toNat_one]<;>rfl):p:=h
theorem V60 {p:Prop}(h:p:=by simp only [go_sem,X.h,Int.toNat_zero];(try simp (disch:=omega) only [IntWalk.i64_in,IntWalk.u64_in,IntWalk.i32_in,IntWalk.u8_in,if_neg,if_pos])<;> rfl):p:=h
theorem Zb {p:Prop}(h:p:=by intro p hp n hn;simp only [List.mem_cons,List.not_mem_nil,or_false] at hp;rcases hp with rfl<;>(simp [look] at hn;subst hn;simp only [go_sem]<;>rfl)):p:=h
theorem V62 {p:Prop}(h:p:=by simp only [go_sem,X.h,rk,Zd];(try simp (disch:=omega) only [IntWalk.i64_in,IntWalk.u64_in,IntWalk.i32_in,IntWalk.u8_in,if_neg,if_pos])<;> rfl):p:=h
theorem V63 {p:Prop}(h:p:=by simp only [go_sem,Int.zero_add];(try simp (disch:=omega) only [IntWalk.i64_in,IntWalk.u64_in,IntWalk.i32_in,IntWalk.u8_in,if_neg,if_pos])<;> rfl):p:=h
theorem V64 {p:Prop}(h:p:=by simp only [go_sem,X.h,pad];(try simp (disch:=omega) only [IntWalk.i64_in,IntWalk.u64_in,IntWalk.i32_in,IntWalk.u8_in,if_neg,if_pos])<;> rfl):p:=h
theorem V65 {p:Prop}(h:p:=by simp only [go_sem,X.h,Bool.toNat_false,Bool.toNat_true,Int.natCast_zero,Int.natCast_one,Int.add_zero,Int.natCast_zero,Nat.sub_zero]<;>rfl):p:=h
theorem Jv {p:Prop}(h:p:=by simp only [go_sem,X.h];(try simp (disch:=omega) only [IntWalk.i64_in,IntWalk.u64_in,IntWalk.i32_in,IntWalk.u8_in,if_neg,if_pos])<;> rfl):p:=h
theorem V67 {p:Prop}(h:p:=by simp only [go_sem,X.h,JBG,gt_iff_lt];(try simp (disch:=omega) only [if_pos]);(try simp only [go_sem,X.h,JBG,gt_iff_lt])<;> rfl):p:=h
theorem V68 {p:Prop}(h:p:=by simp only [go_sem];(try simp (disch:=omega) only [IntWalk.i64_in,IntWalk.u64_in,IntWalk.i32_in,IntWalk.u8_in,if_neg,if_pos])<;> rfl):p:=h
theorem V69 {p:Prop}(h:p:=by simp only [go_sem,X.h,Int.toNat_zero];(try simp (disch:=omega) only [if_pos]);(try simp only [go_sem,X.h,Int.toNat_zero])<;> rfl):p:=h
theorem ZU {p:Prop}(h:p:=by simp only [go_sem,X.h,List.map_cons,List.map_nil,List.length_cons,List.length_nil,List.getElem?_cons_zero,Int.toNat_zero]<;>rfl):p:=h
theorem V71 {p:Prop}(h:p:=by simp only [go_sem,X.h,Bool.toNat_false,Bool.toNat_true,Int.natCast_zero,Int.natCast_one,Int.add_zero]<;>first|exact QP|rfl):p:=h
theorem V72 {p:Prop}(h:p:=by simp only [go_sem,X.h,Bool.not_true];(try simp (disch:=omega) only [if_pos]);(try simp only [go_sem,X.h,Bool.not_true])<;> rfl):p:=h
theorem Qc {p:Prop}(h:p:=by exact ⟨by first|exact Jj.pure rfl|exact Jj.nil _|exact Jj.int (by first|omega|(simp;done)|(simp;omega)),trivial⟩):p:=h
theorem V74 {p:Prop}(h:p:=by simp only [go_sem,X.h,rk,Zd];(try simp (disch:=omega) only [if_pos]);(try simp only [go_sem,X.h,rk,Zd])<;> rfl):p:=h
theorem V75 {p:Prop}(h:p:=by simp only [go_sem,X.h,List.nil_append,List.length_map,Int.natCast_zero,List.take_zero,List.drop_zero,JHe]<;>rfl):p:=h
theorem Zc {p:Prop}(h:p:=by intro p hp hn;simp only [List.mem_cons,List.not_mem_nil,or_false] at hp;rcases hp with rfl|rfl<;>simp [look] at hn):p:=h
theorem V77 {p:Prop}(h:p:=by exact ⟨by first|exact Jj.pure rfl|exact Jj.of rfl rfl|exact Jj.int (by first|omega|(simp;done)),trivial⟩):p:=h
theorem V78 {p:Prop}(h:p:=by simp only [go_sem,X.h,Int.natCast_zero,List.take_zero,List.drop_zero,JSK,JSe,List.map_nil]<;>rfl):p:=h
theorem YW {p:Prop}(h:p:=by intro p hp hn;simp only [List.mem_cons,List.not_mem_nil,or_false] at hp;rcases hp with rfl<;>simp [look] at hn):p:=h
theorem QU {p:Prop}(h:p:=by simp only [go_sem,X.h,Bool.toNat_false,Bool.toNat_true,Int.natCast_zero,Int.natCast_one,Int.add_zero]<;>rfl):p:=h
theorem V81 {p:Prop}(h:p:=by simp only [go_sem,X.h,eq_self,if_true,List.drop_zero,List.map_append,List.map_cons,List.map_nil]<;>rfl):p:=h
theorem V82 {p:Prop}(h:p:=by simp only [go_sem,X.h,eq_self,if_true,List.drop_zero,eq_self,if_true,List.drop_zero,if_false]<;>rfl):p:=h
theorem V83 {p:Prop}(h:p:=by first|exact .inr ⟨rfl,hs,by simp only [go_sem]<;>rfl⟩|exact .inl (by simp only [go_sem]<;>rfl)):p:=h
theorem QE {p:Prop}(h:p:=by simp only [go_sem,X.h];(try simp (disch:=omega) only [if_pos]);(try simp only [go_sem,X.h])<;> rfl):p:=h
theorem V85 {p:Prop}(h:p:=by intro q q' n h h';by_cases e:q=911<;>by_cases e':q'=911<;>simp [look,e,e'] at h h' ⊢):p:=h
theorem Jw {p:Prop}(h:p:=by simp only [go_sem,X.h,eq_self,if_true,List.drop_zero,eq_self,if_true,List.drop_zero]<;>rfl):p:=h
theorem V87 {p:Prop}(h:p:=by exact ⟨by first|exact Jj.pure rfl|exact Jj.nil _|exact Jj.int (by omega),JOx _ _ _⟩):p:=h
theorem V88 {p:Prop}(h:p:=by simp only [go_sem,X.h,Nat.sub_self,List.replicate_zero,List.nil_append]<;>rfl):p:=h
theorem V89 {p:Prop}(h:p:=by simp only [go_sem,X.h,List.nil_append,List.length_map,Int.natCast_zero]<;>rfl):p:=h
theorem V90 {p:Prop}(h:p:=by simp only [go_sem,X.h,List.map_cons,List.length_cons,List.length_map]<;>rfl):p:=h
theorem Qj {p:Prop}(h:p:=by simp only [go_sem,X.h,Bool.not_false,Bool.not_true,Int.toNat_zero]<;>rfl):p:=h
theorem V92 {p:Prop}(h:p:=by simp only [go_sem,X.h,Nat.zero_mul,List.drop_zero,Int.toNat_zero]<;>rfl):p:=h
theorem V93 {p:Prop}(h:p:=by simp only [go_sem,X.h,List.map_append,List.map_cons,List.map_nil]<;>rfl):p:=h
theorem V94 {p:Prop}(h:p:=by simp only [go_sem,Int.natCast_zero,List.take_zero,List.map_nil]<;>rfl):p:=h
theorem V95 {p:Prop}(h:p:=by simp only [go_sem,X.h,JBG,gt_iff_lt]<;>first|rfl|exact QP):p:=h
theorem V96 {p:Prop}(h:p:=by simp only [go_sem,X.h,JBG,gt_iff_lt]<;>first|exact QP|rfl):p:=h
theorem V97 {p:Prop}(h:p:=by simp only [List.length_cons,List.length_nil,Tryz.ntmps146];omega):p:=h
theorem V98 {p:Prop}(h:p:=by simp only [List.length_cons,List.length_nil,Tryz.ntmps127];omega):p:=h
theorem V99 {p:Prop}(h:p:=by simp only [List.length_cons,List.length_nil,Tryz.ntmps109];omega):p:=h
theorem JDt {p:Prop}(h:p:=by simp only [List.length_cons,List.length_nil,Tryz.ntmps110];omega):p:=h
theorem JDu {p:Prop}(h:p:=by simp only [List.length_cons,List.length_nil,Tryz.ntmps75];omega):p:=h
theorem JEr {p:Prop}(h:p:=by simp only [List.length_cons,List.length_nil,Tryz.ntmps72];omega):p:=h
theorem JGL {p:Prop}(h:p:=by simp only [List.length_cons,List.length_nil,Tryz.ntmps27];omega):p:=h
theorem JIC {p:Prop}(h:p:=by simp only [List.length_cons,List.length_nil,Tryz.ntmps53];omega):p:=h
theorem JDv {p:Prop}(h:p:=by simp only [List.length_cons,List.length_nil,Tryz.ntmps54];omega):p:=h
theorem JEs {p:Prop}(h:p:=by simp only [List.length_cons,List.length_nil,Tryz.ntmps52];omega):p:=h
theorem JID {p:Prop}(h:p:=by simp only [List.length_cons,List.length_nil,Tryz.ntmps18];omega):p:=h
theorem JEt {p:Prop}(h:p:=by simp only [go_sem,JMR,JL8]<;>first|rfl|exact QP):p:=h
theorem Qi {p:Prop}(h:p:=by simp only [go_sem,X.h,List.nil_append,List.length_map]<;>rfl):p:=h
theorem JIE {p:Prop}(h:p:=by simp only [go_sem,X.h,Int.natCast_zero,List.take_zero]<;>rfl):p:=h
theorem JDw {p:Prop}(h:p:=by simp only [go_sem,X.h,eq_self,if_true,List.drop_zero]<;>rfl):p:=h
theorem JAP {p:Prop}(h:p:=by simp only [go_sem,X.h,JAO,JBG,Bool.not_not]<;>rfl):p:=h
theorem JDA {p:Prop}(h:p:=by simp only [go_sem,X.h,Bool.not_false,Int.toNat_zero]<;>rfl):p:=h
theorem JGM {p:Prop}(h:p:=by simp only [go_sem,JKr,JKq]<;>first|rfl|exact QP):p:=h
theorem Zr {p:Prop}(h:p:=by simp only [go_sem,X.h,YT,JBG,Bool.not_not]<;>rfl):p:=h
theorem Y2 {p:Prop}(h:p:=by simp only [go_sem,X.h,Bool.not_false,Bool.not_true]<;>rfl):p:=h
theorem JBd {p:Prop}(h:p:=by simp only [go_sem,X.h,Bool.not_true,Bool.not_false]<;>rfl):p:=h
theorem Yn {p:Prop}(h:p:=by simp only [go_sem,X.h,Bool.not_true,Bool.not_true]<;>rfl):p:=h
theorem JBe {p:Prop}(h:p:=by simp only [go_sem,X.h,JCG]<;>first|rfl|exact QP):p:=h
theorem JDx {p:Prop}(h:p:=by simp only [go_sem,X.h,JGA]<;>first|rfl|exact QP):p:=h
theorem JIF {p:Prop}(h:p:=by simp only [go_sem,List.map_nil,List.length_nil]<;>rfl):p:=h
theorem JAQ {p:Prop}(h:p:=by first|exact JLB _ _ _ _ _ _ _ (fun _=>rfl)|rfl):p:=h
theorem JIG {p:Prop}(h:p:=by simp only [go_sem,X.h,rgE]<;>first|rfl|exact QP):p:=h
theorem JAr {p:Prop}(h:p:=by simp only [go_sem,X.h,reduceCtorEq,if_false]<;>rfl):p:=h
theorem Qs {p:Prop}(h:p:=by simp only [go_sem,X.h]<;>first|rfl|exact QP):p:=h
theorem ZA {p:Prop}(h:p:=by simp only [go_sem,X.h]<;>first|exact QP|rfl):p:=h
theorem J2 {p:Prop}(h:p:=by simp only [go_sem,X.h,JBG,gt_iff_lt]<;>rfl):p:=h
theorem JCQ {p:Prop}(h:p:=by simp only [go_sem,X.h,List.append_assoc]<;>rfl):p:=h
theorem JGN {p:Prop}(h:p:=by simp only [go_sem,X.h,Int.natCast_zero]<;>rfl):p:=h
theorem JBf {p:Prop}(h:p:=by simp only [go_sem,X.h,List.cons_append]<;>rfl):p:=h
theorem Z9 {p:Prop}(h:p:=by simp only [go_sem,JA9,Bool.not_and]<;>rfl):p:=h
theorem Jo {p:Prop}(h:p:=by simp only [go_sem,X.h,Int.toNat_zero]<;>rfl):p:=h
theorem JAK {p:Prop}(h:p:=by simp only [go_sem,X.h,Bool.not_false]<;>rfl):p:=h
theorem ZB {p:Prop}(h:p:=by simp only [go_sem]<;>first|rfl|exact QP):p:=h
theorem YP {p:Prop}(h:p:=by simp only [go_sem,JBG,gt_iff_lt]<;>rfl):p:=h
theorem QW {p:Prop}(h:p:=by simp only [go_sem,X.h,Bool.not_true]<;>rfl):p:=h
theorem JGO {p:Prop}(h:p:=by simp only [go_sem]<;>first|exact QP|rfl):p:=h
theorem Yg {p:Prop}(h:p:=by simp only [go_sem,JMR,JL8]<;>rfl):p:=h
theorem JDy {p:Prop}(h:p:=by simp only [go_sem,Int.natCast_zero]<;>rfl):p:=h
theorem Ze {p:Prop}(h:p:=by simp only [go_sem,JKr,JKq]<;>rfl):p:=h
theorem YA {p:Prop}(h:p:=by simp only [go_sem,X.h,rk,Zd]<;>rfl):p:=h
theorem Za {p:Prop}(h:p:=by simp only [go_sem,Bool.not_false]<;>rfl):p:=h
theorem Y3 {p:Prop}(h:p:=by simp only [go_sem,Bool.not_true]<;>rfl):p:=h
theorem JAA {p:Prop}(h:p:=by simp only [go_sem,Int.zero_add]<;>rfl):p:=h
theorem JDB {p:Prop}(h:p:=by first|rfl|exact JNH _ _ _ _ _ _):p:=h
theorem JDz {p:Prop}(h:p:=by have:=of_decide_eq_false hb41;omega):p:=h
theorem Zf {p:Prop}(h:p:=by simp only [go_sem,X.h,JCG]<;>rfl):p:=h
theorem JAR {p:Prop}(h:p:=by simp only [go_sem,X.h,JGA]<;>rfl):p:=h
theorem JEu {p:Prop}(h:p:=by simp only [go_sem,gt_iff_lt]<;>rfl):p:=h
theorem JAs {p:Prop}(h:p:=by simp only [go_sem,X.h,pad]<;>rfl):p:=h
theorem Z1 {p:Prop}(h:p:=by simp only [go_sem,X.h,rgE]<;>rfl):p:=h
theorem JAS {p:Prop}(h:p:=by simp only [go_sem,JAH]<;>rfl):p:=h
theorem JD0 {p:Prop}(h:p:=by simp only [go_sem,JC2]<;>rfl):p:=h
theorem JD1 {p:Prop}(h:p:=by simp only [go_sem,ZO]<;>rfl):p:=h
theorem JD2 {p:Prop}(h:p:=by simp only [go_sem,Yl]<;>rfl):p:=h
theorem JC {p:Prop}(h:p:=by simp only [go_sem,X.h]<;>rfl):p:=h
theorem JBg {p:Prop}(h:p:=by simp only [go_sem,Ys]<;>rfl):p:=h
theorem JAT {p:Prop}(h:p:=by rw [JEX];simp [hl]):p:=h
theorem JD {p:Prop}(h:p:=by simp only [go_sem]<;>rfl):p:=h
theorem JBE {p:Prop}(h:p:=by intro d hd;cases hd):p:=h
theorem JY {p:Prop}(h:p:=by simp only [go_sem]):p:=h
theorem JB2 {p:Prop}(h:p:=by simpa using hl):p:=h
theorem QZ {p:Prop}(h:p:=by decide +kernel):p:=h
theorem JAU {p:Prop}(h:p:=by rw [h1];rfl):p:=h
theorem ZS {p:Prop}(h:p:=by simp;omega):p:=h
theorem JJ {p:Prop}(h:p:=by kernel_rfl):p:=h
theorem Zs {p:Prop}(h:p:=by simp [hl]):p:=h
end Go

/- Tactics that stand in many places, each by a name. -/
import Derived.WalkKit
namespace Go
theorem V1 {p:Prop}(h:p:=by simp only [go_sem,X.h,List.map_cons,List.length_cons,List.length_map,List.getElem?_cons_zero,List.getElem?_cons_succ,Int.toNat_zero,Int.toNat_one,List.drop_succ_cons,List.drop_zero];(try simp (disch:=omega) only [if_pos]);(try simp only [go_sem,X.h,List.map_cons,List.length_cons,List.length_map,List.getElem?_cons_zero,List.getElem?_cons_succ,Int.toNat_zero,Int.toNat_one,List.drop_succ_cons,List.drop_zero])<;>first|(refine JAy ⟨by (try simp only [List.length_append,List.length_drop,List.length_take,List.length_map,List.length_cons,List.length_nil,List.length_replicate,List.length_set,List.length_range,Nat.zero_add]);omega,by (try simp only [List.length_append,List.length_drop,List.length_take,List.length_map,List.length_cons,List.length_nil,List.length_replicate,List.length_set,List.length_range,Nat.zero_add]);omega,by repeat (first|exact JAr|assumption|refine JAn ?_ ?_|refine JAp ?_|refine JAt ?_|exact JAq (fun _=>rfl)|exact JAs rfl|refine JAo rfl ?_)⟩ ?_;simp only [go_sem,X.h,List.map_cons,List.length_cons,List.length_map,List.getElem?_cons_zero,List.getElem?_cons_succ,Int.toNat_zero,Int.toNat_one,List.drop_succ_cons,List.drop_zero]<;>rfl)|(refine JAy ⟨by (try simp only [List.length_append,List.length_drop,List.length_take,List.length_map,List.length_cons,List.length_nil,List.length_replicate,List.length_set,List.length_range,Nat.zero_add]);omega,by repeat (first|exact JAr|assumption|refine JAn ?_ ?_|refine JAp ?_|refine JAt ?_|exact JAq (fun _=>rfl)|exact JAs rfl|refine JAo rfl ?_)⟩ ?_;simp only [go_sem,X.h,List.map_cons,List.length_cons,List.length_map,List.getElem?_cons_zero,List.getElem?_cons_succ,Int.toNat_zero,Int.toNat_one,List.drop_succ_cons,List.drop_zero]<;>rfl)|rfl):p:=h
theorem V2 {p:Prop}(h:p:=by simp only [go_sem,X.h,if_true,List.drop_zero,Int.toNat_zero,List.map_nil,List.length_nil];(try simp (disch:=omega) only [if_pos]);(try simp only [go_sem,X.h,if_true,List.drop_zero,Int.toNat_zero,List.map_nil,List.length_nil])<;>first|(refine JAy ⟨by (try simp only [List.length_append,List.length_drop,List.length_take,List.length_map,List.length_cons,List.length_nil,List.length_replicate,List.length_set,List.length_range,Nat.zero_add]);omega,by (try simp only [List.length_append,List.length_drop,List.length_take,List.length_map,List.length_cons,List.length_nil,List.length_replicate,List.length_set,List.length_range,Nat.zero_add]);omega,by repeat (first|exact JAr|assumption|refine JAn ?_ ?_|refine JAp ?_|refine JAt ?_|exact JAq (fun _=>rfl)|exact JAs rfl|refine JAo rfl ?_)⟩ ?_;simp only [go_sem,X.h,if_true,List.drop_zero,Int.toNat_zero,List.map_nil,List.length_nil]<;>rfl)|(refine JAy ⟨by (try simp only [List.length_append,List.length_drop,List.length_take,List.length_map,List.length_cons,List.length_nil,List.length_replicate,List.length_set,List.length_range,Nat.zero_add]);omega,by repeat (first|exact JAr|assumption|refine JAn ?_ ?_|refine JAp ?_|refine JAt ?_|exact JAq (fun _=>rfl)|exact JAs rfl|refine JAo rfl ?_)⟩ ?_;simp only [go_sem,X.h,if_true,List.drop_zero,Int.toNat_zero,List.map_nil,List.length_nil]<;>rfl)|rfl):p:=h
theorem V3 {p:Prop}(h:p:=by simp only [go_sem,X.h,if_true,List.drop_zero,Int.toNat_zero,JCO];(try simp (disch:=omega) only [if_pos]);(try simp only [go_sem,X.h,if_true,List.drop_zero,Int.toNat_zero,JCO])<;>first|(refine JAy ⟨by (try simp only [List.length_append,List.length_drop,List.length_take,List.length_map,List.length_cons,List.length_nil,List.length_replicate,List.length_set,List.length_range,Nat.zero_add]);omega,by (try simp only [List.length_append,List.length_drop,List.length_take,List.length_map,List.length_cons,List.length_nil,List.length_replicate,List.length_set,List.length_range,Nat.zero_add]);omega,by repeat (first|exact JAr|assumption|refine JAn ?_ ?_|refine JAp ?_|refine JAt ?_|exact JAq (fun _=>rfl)|exact JAs rfl|refine JAo rfl ?_)⟩ ?_;simp only [go_sem,X.h,if_true,List.drop_zero,Int.toNat_zero,JCO]<;>rfl)|(refine JAy ⟨by (try simp only [List.length_append,List.length_drop,List.length_take,List.length_map,List.length_cons,List.length_nil,List.length_replicate,List.length_set,List.length_range,Nat.zero_add]);omega,by repeat (first|exact JAr|assumption|refine JAn ?_ ?_|refine JAp ?_|refine JAt ?_|exact JAq (fun _=>rfl)|exact JAs rfl|refine JAo rfl ?_)⟩ ?_;simp only [go_sem,X.h,if_true,List.drop_zero,Int.toNat_zero,JCO]<;>rfl)|rfl):p:=h
theorem V4 {p:Prop}(h:p:=by simp only [go_sem,X.h,if_true,List.drop_zero,Int.toNat_zero];(try simp (disch:=omega) only [if_pos]);(try simp only [go_sem,X.h,if_true,List.drop_zero,Int.toNat_zero])<;>first|(refine JAy ⟨by (try simp only [List.length_append,List.length_drop,List.length_take,List.length_map,List.length_cons,List.length_nil,List.length_replicate,List.length_set,List.length_range,Nat.zero_add]);omega,by (try simp only [List.length_append,List.length_drop,List.length_take,List.length_map,List.length_cons,List.length_nil,List.length_replicate,List.length_set,List.length_range,Nat.zero_add]);omega,by repeat (first|exact JAr|assumption|refine JAn ?_ ?_|refine JAp ?_|refine JAt ?_|exact JAq (fun _=>rfl)|exact JAs rfl|refine JAo rfl ?_)⟩ ?_;simp only [go_sem,X.h,if_true,List.drop_zero,Int.toNat_zero]<;>rfl)|(refine JAy ⟨by (try simp only [List.length_append,List.length_drop,List.length_take,List.length_map,List.length_cons,List.length_nil,List.length_replicate,List.length_set,List.length_range,Nat.zero_add]);omega,by repeat (first|exact JAr|assumption|refine JAn ?_ ?_|refine JAp ?_|refine JAt ?_|exact JAq (fun _=>rfl)|exact JAs rfl|refine JAo rfl ?_)⟩ ?_;simp only [go_sem,X.h,if_true,List.drop_zero,Int.toNat_zero]<;>rfl)|rfl):p:=h
theorem V5 {p:Prop}(h:p:=by exact ⟨by first|exact Jj.pure rfl|exact Jj.of rfl rfl|exact Jj.nil _|exact Jj.int (by first|omega|(simp;done)|(simp;omega))|exact Jj.fptW rfl ⟨by first|exact .inl rfl|exact .inr rfl,by first|exact .inl rfl|exact .inr rfl,by first|exact .inl rfl|exact .inr rfl,by first|exact .inl rfl|exact .inr rfl,by first|exact .inl rfl|exact .inr rfl,by first|exact .inl rfl|exact .inr rfl,trivial⟩,by first|exact Jj.pure rfl|exact Jj.of rfl rfl|exact Jj.nil _|exact Jj.int (by first|omega|(simp;done)|(simp;omega))|exact Jj.fptW rfl ⟨by first|exact .inl rfl|exact .inr rfl,by first|exact .inl rfl|exact .inr rfl,by first|exact .inl rfl|exact .inr rfl,by first|exact .inl rfl|exact .inr rfl,by first|exact .inl rfl|exact .inr rfl,by first|exact .inl rfl|exact .inr rfl,trivial⟩,by first|exact Jj.pure rfl|exact Jj.of rfl rfl|exact Jj.nil _|exact Jj.int (by first|omega|(simp;done)|(simp;omega))|exact Jj.fptW rfl ⟨by first|exact .inl rfl|exact .inr rfl,by first|exact .inl rfl|exact .inr rfl,by first|exact .inl rfl|exact .inr rfl,by first|exact .inl rfl|exact .inr rfl,by first|exact .inl rfl|exact .inr rfl,by first|exact .inl rfl|exact .inr rfl,trivial⟩,trivial⟩):p:=h
theorem V6 {p:Prop}(h:p:=by simp only [go_sem,X.h,Int.toNat_zero];(try simp (disch:=omega) only [if_pos]);(try simp only [go_sem,X.h,Int.toNat_zero])<;>first|(refine JAy ⟨by (try simp only [List.length_append,List.length_drop,List.length_take,List.length_map,List.length_cons,List.length_nil,List.length_replicate,List.length_set,List.length_range,Nat.zero_add]);omega,by (try simp only [List.length_append,List.length_drop,List.length_take,List.length_map,List.length_cons,List.length_nil,List.length_replicate,List.length_set,List.length_range,Nat.zero_add]);omega,by repeat (first|exact JAr|assumption|refine JAn ?_ ?_|refine JAp ?_|refine JAt ?_|exact JAq (fun _=>rfl)|exact JAs rfl|refine JAo rfl ?_)⟩ ?_;simp only [go_sem,X.h,Int.toNat_zero]<;>rfl)|(refine JAy ⟨by (try simp only [List.length_append,List.length_drop,List.length_take,List.length_map,List.length_cons,List.length_nil,List.length_replicate,List.length_set,List.length_range,Nat.zero_add]);omega,by repeat (first|exact JAr|assumption|refine JAn ?_ ?_|refine JAp ?_|refine JAt ?_|exact JAq (fun _=>rfl)|exact JAs rfl|refine JAo rfl ?_)⟩ ?_;simp only [go_sem,X.h,Int.toNat_zero]<;>rfl)|rfl):p:=h
theorem V7 {p:Prop}(h:p:=by simp only [go_sem,X.h];(try simp (disch:=omega) only [if_pos]);(try simp only [go_sem,X.h])<;>first|(refine JAy ⟨by (try simp only [List.length_append,List.length_drop,List.length_take,List.length_map,List.length_cons,List.length_nil,List.length_replicate,List.length_set,List.length_range,Nat.zero_add]);omega,by (try simp only [List.length_append,List.length_drop,List.length_take,List.length_map,List.length_cons,List.length_nil,List.length_replicate,List.length_set,List.length_range,Nat.zero_add]);omega,by repeat (first|exact JAr|assumption|refine JAn ?_ ?_|refine JAp ?_|refine JAt ?_|exact JAq (fun _=>rfl)|exact JAs rfl|refine JAo rfl ?_)⟩ ?_;simp only [go_sem,X.h]<;>rfl)|(refine JAy ⟨by (try simp only [List.length_append,List.length_drop,List.length_take,List.length_map,List.length_cons,List.length_nil,List.length_replicate,List.length_set,List.length_range,Nat.zero_add]);omega,by repeat (first|exact JAr|assumption|refine JAn ?_ ?_|refine JAp ?_|refine JAt ?_|exact JAq (fun _=>rfl)|exact JAs rfl|refine JAo rfl ?_)⟩ ?_;simp only [go_sem,X.h]<;>rfl)|rfl):p:=h
theorem V8 {p:Prop}(h:p:=by exact ⟨by first|exact Jj.pure rfl|exact Jj.of rfl rfl|exact Jj.nil _|exact Jj.int (by first|omega|(simp;done)|(simp;omega))|exact Jj.fptW rfl ⟨by first|exact .inl rfl|exact .inr rfl,by first|exact .inl rfl|exact .inr rfl,by first|exact .inl rfl|exact .inr rfl,by first|exact .inl rfl|exact .inr rfl,by first|exact .inl rfl|exact .inr rfl,by first|exact .inl rfl|exact .inr rfl,trivial⟩,by first|exact Jj.pure rfl|exact Jj.of rfl rfl|exact Jj.nil _|exact Jj.int (by first|omega|(simp;done)|(simp;omega))|exact Jj.fptW rfl ⟨by first|exact .inl rfl|exact .inr rfl,by first|exact .inl rfl|exact .inr rfl,by first|exact .inl rfl|exact .inr rfl,by first|exact .inl rfl|exact .inr rfl,by first|exact .inl rfl|exact .inr rfl,by first|exact .inl rfl|exact .inr rfl,trivial⟩,trivial⟩):p:=h
theorem V9 {p:Prop}(h:p:=by simp only [go_sem,X.h,List.map_cons,List.length_cons,List.length_map,List.getElem?_cons_zero,List.getElem?_cons_succ,Int.toNat_zero,Int.toNat_one,List.drop_succ_cons,List.drop_zero]<;>first|((repeat' (first|with_reducible_and_instances rfl|refine YJ ?_ ?_ ?_|refine YI ?_|refine YT ?_|refine YK ?_ ?_|refine YC ?_|refine YD ?_|refine YU ?_|refine YH ?_ ?_|refine YQ ?_ ?_|refine YS ?_|refine YP ?_|(refine YG ?_;omega)));all_goals (first|omega|(simp [Zi];done)))|rfl):p:=h
theorem V10 {p:Prop}(h:p:=by simp only [go_sem,X.h,if_true,List.drop_zero,Int.toNat_zero,JCO]<;>first|((repeat' (first|with_reducible_and_instances rfl|refine YJ ?_ ?_ ?_|refine YI ?_|refine YT ?_|refine YK ?_ ?_|refine YC ?_|refine YD ?_|refine YU ?_|refine YH ?_ ?_|refine YQ ?_ ?_|refine YS ?_|refine YP ?_|(refine YG ?_;omega)));all_goals (first|omega|(rw [hlt2];simp [Ye];done)|(rw [JBv];done)|(simp;done)|(simp [hlt2];done)))|rfl):p:=h
theorem V11 {p:Prop}(h:p:=by simp only [go_sem,X.h,rk,rv,cond_true,cond_false,JDO,JDP,JDQ,JDR,Int.toNat_zero,List.drop_zero,Int.reduceAdd]<;>first|((repeat' (first|with_reducible_and_instances rfl|refine YJ ?_ ?_ ?_|refine YI ?_|refine YT ?_|refine YK ?_ ?_|refine YC ?_|refine YD ?_|refine YU ?_|refine YH ?_ ?_|refine YQ ?_ ?_|refine YS ?_|refine YP ?_|(refine YG ?_;omega)));all_goals rfl)|rfl):p:=h
theorem V12 {p:Prop}(h:p:=by simp only [go_sem,X.h,if_true,List.drop_zero,Int.toNat_zero,List.map_nil,List.length_nil]<;>first|((repeat' (first|with_reducible_and_instances rfl|refine YJ ?_ ?_ ?_|refine YI ?_|refine YT ?_|refine YK ?_ ?_|refine YC ?_|refine YD ?_|refine YU ?_|refine YH ?_ ?_|refine YQ ?_ ?_|refine YS ?_|refine YP ?_|(refine YG ?_;omega)));all_goals (first|omega|(simp;done)))|rfl):p:=h
theorem ZC {p:Prop}(h:p:=by exact ⟨by first|exact Jj.pure rfl|exact Jj.of rfl rfl|exact Jj.nil _|exact Jj.int (by first|omega|(simp;done)|(simp;omega))|exact Jj.fptW rfl ⟨by first|exact .inl rfl|exact .inr rfl,by first|exact .inl rfl|exact .inr rfl,by first|exact .inl rfl|exact .inr rfl,by first|exact .inl rfl|exact .inr rfl,by first|exact .inl rfl|exact .inr rfl,by first|exact .inl rfl|exact .inr rfl,trivial⟩,trivial⟩):p:=h
theorem V14 {p:Prop}(h:p:=by simp only [go_sem,X.h,if_true,List.drop_zero,Int.toNat_zero]<;>first|((repeat' (first|with_reducible_and_instances rfl|refine YJ ?_ ?_ ?_|refine YI ?_|refine YT ?_|refine YK ?_ ?_|refine YC ?_|refine YD ?_|refine YU ?_|refine YH ?_ ?_|refine YQ ?_ ?_|refine YS ?_|refine YP ?_|(refine YG ?_;omega)));all_goals (first|omega|(simp [JCN,Yu,Ye];done)))|rfl):p:=h
theorem V15 {p:Prop}(h:p:=by simp only [go_sem,X.h,List.map_cons,List.length_cons,List.length_map,List.getElem?_cons_zero,List.getElem?_cons_succ,Int.toNat_zero,Int.toNat_one,List.drop_succ_cons,List.drop_zero];(try simp (disch:=omega) only [if_pos]);(try simp only [go_sem,X.h,List.map_cons,List.length_cons,List.length_map,List.getElem?_cons_zero,List.getElem?_cons_succ,Int.toNat_zero,Int.toNat_one,List.drop_succ_cons,List.drop_zero])<;> rfl):p:=h
theorem V16 {p:Prop}(h:p:=by simp only [go_sem,X.h,Bool.not_false,Bool.not_true,Int.toNat_zero]<;>first|((repeat' (first|with_reducible_and_instances rfl|refine YJ ?_ ?_ ?_|refine YI ?_|refine YT ?_|refine YK ?_ ?_|refine YC ?_|refine YD ?_|refine YU ?_|refine YH ?_ ?_|refine YQ ?_ ?_|refine YS ?_|refine YP ?_|(refine YG ?_;omega)));all_goals (first|omega|(rw [hvt];omega)))|rfl):p:=h
theorem V17 {p:Prop}(h:p:=by simp only [go_sem]<;>first|((repeat' (first|with_reducible_and_instances rfl|refine YJ ?_ ?_ ?_|refine YI ?_|refine YT ?_|refine YK ?_ ?_|refine YC ?_|refine YD ?_|refine YU ?_|refine YH ?_ ?_|refine YQ ?_ ?_|refine YS ?_|refine YP ?_|(refine YG ?_;omega)));all_goals (first|omega|(rw [hon];omega)|(rw [hvl];omega)))|rfl):p:=h
theorem V18 {p:Prop}(h:p:=by simp only [go_sem,X.h]<;>first|((repeat' (first|with_reducible_and_instances rfl|refine YJ ?_ ?_ ?_|refine YI ?_|refine YT ?_|refine YK ?_ ?_|refine YC ?_|refine YD ?_|refine YU ?_|refine YH ?_ ?_|refine YQ ?_ ?_|refine YS ?_|refine YP ?_|(refine YG ?_;omega)));all_goals (first|omega|(rw [hts];simp [JAb];done)))|rfl):p:=h
theorem V19 {p:Prop}(h:p:=by simp only [go_sem,X.h]<;>first|((repeat' (first|with_reducible_and_instances rfl|refine YJ ?_ ?_ ?_|refine YI ?_|refine YT ?_|refine YK ?_ ?_|refine YC ?_|refine YD ?_|refine YU ?_|refine YH ?_ ?_|refine YQ ?_ ?_|refine YS ?_|refine YP ?_|(refine YG ?_;omega)));all_goals (first|omega|(rw [hts];simp [JAa];done)))|rfl):p:=h
theorem V20 {p:Prop}(h:p:=by simp only [go_sem,X.h,List.map_cons,List.length_cons,List.length_map,List.getElem?_cons_zero,List.drop_succ_cons,List.drop_zero,Int.natCast_add,Int.natCast_one];(try simp (disch:=omega) only [if_pos]);(try simp only [go_sem,X.h,List.map_cons,List.length_cons,List.length_map,List.getElem?_cons_zero,List.drop_succ_cons,List.drop_zero,Int.natCast_add,Int.natCast_one])<;> rfl):p:=h
theorem V21 {p:Prop}(h:p:=by simp only [go_sem,X.h,rk,ZQ]<;>first|((repeat' (first|with_reducible_and_instances rfl|refine YJ ?_ ?_ ?_|refine YI ?_|refine YT ?_|refine YK ?_ ?_|refine YC ?_|refine YD ?_|refine YU ?_|refine YH ?_ ?_|refine YQ ?_ ?_|refine YS ?_|refine YP ?_|(refine YG ?_;omega)));all_goals rfl)|rfl):p:=h
theorem V22 {p:Prop}(h:p:=by simp only [go_sem,X.h,List.map_cons,List.length_cons,List.length_map,List.getElem?_cons_zero,List.getElem?_cons_succ,Int.toNat_zero,Int.toNat_one];(try simp (disch:=omega) only [if_pos]);(try simp only [go_sem,X.h,List.map_cons,List.length_cons,List.length_map,List.getElem?_cons_zero,List.getElem?_cons_succ,Int.toNat_zero,Int.toNat_one])<;> rfl):p:=h
theorem Zb {p:Prop}(h:p:=by exact ⟨by first|exact Jj.pure rfl|exact Jj.nil _|exact Jj.int (by first|omega|(simp;done)|(simp;omega)),by first|exact Jj.pure rfl|exact Jj.nil _|exact Jj.int (by first|omega|(simp;done)|(simp;omega)),by first|exact Jj.pure rfl|exact Jj.nil _|exact Jj.int (by first|omega|(simp;done)|(simp;omega)),trivial⟩):p:=h
theorem Yo {p:Prop}(h:p:=by simp only [go_sem,X.h,rk,rv,cond_true,cond_false,JDO,JDP,JDQ,JDR,Int.toNat_zero,List.drop_zero,Int.reduceAdd];(try simp (disch:=omega) only [if_pos]);(try simp only [go_sem,X.h,rk,rv,cond_true,cond_false,JDO,JDP,JDQ,JDR,Int.toNat_zero,List.drop_zero,Int.reduceAdd])<;> rfl):p:=h
theorem V25 {p:Prop}(h:p:=by simp only [go_sem,X.h,List.map_cons,List.map_nil,List.length_cons,List.length_nil,List.getElem?_cons_zero,Int.toNat_zero];(try simp (disch:=omega) only [if_pos]);(try simp only [go_sem,X.h,List.map_cons,List.map_nil,List.length_cons,List.length_nil,List.getElem?_cons_zero,Int.toNat_zero])<;> rfl):p:=h
theorem ZG {p:Prop}(h:p:=by simp only [go_sem,X.h,List.map_cons,List.length_cons,List.length_map,List.getElem?_cons_zero,List.getElem?_cons_succ,Int.toNat_zero,Int.toNat_one,List.drop_succ_cons,List.drop_zero];(try simp (disch:=omega) only [IntWalk.i64_in,IntWalk.u64_in,IntWalk.i32_in,IntWalk.u8_in,if_neg,if_pos])<;> rfl):p:=h
theorem V27 {p:Prop}(h:p:=by exact ⟨by first|exact Jj.pure rfl|exact Jj.of rfl rfl|exact Jj.nil _|exact Jj.int (by first|omega|(simp;done)|(simp;omega)),by first|exact Jj.pure rfl|exact Jj.of rfl rfl|exact Jj.nil _|exact Jj.int (by first|omega|(simp;done)|(simp;omega)),trivial⟩):p:=h
theorem V28 {p:Prop}(h:p:=by simp only [go_sem,X.h,List.map_cons,List.length_cons,List.length_map,List.getElem?_cons_zero,List.getElem?_cons_succ,Int.toNat_zero,Int.toNat_one,List.drop_succ_cons,List.drop_zero,Int.natCast_zero,JCP,List.map_cons,List.map_nil,List.length_cons,List.length_nil]<;>rfl):p:=h
theorem V29 {p:Prop}(h:p:=by intro p hp;simp only [List.mem_cons,List.not_mem_nil,or_false] at hp;rcases hp with rfl|rfl<;>(first|exact ⟨_,rfl,JD1 _⟩|exact ⟨_,rfl,_,rfl,by simp [Jy,JES];omega⟩|exact ⟨_,rfl,_,rfl,by simp [Jy,JES]⟩|exact ⟨_,rfl,_,rfl⟩)):p:=h
theorem Zm {p:Prop}(h:p:=by simp only [go_sem,X.h,rk,rv,cond_true,cond_false,JDO,JDP,JDQ,JDR,Int.toNat_zero,List.drop_zero,Int.reduceAdd];(try simp (disch:=omega) only [IntWalk.i64_in,IntWalk.u64_in,IntWalk.i32_in,IntWalk.u8_in,if_neg,if_pos])<;> rfl):p:=h
theorem V31 {p:Prop}(h:p:=by simp only [go_sem,X.h,if_true,List.drop_zero,Int.toNat_zero,List.map_nil,List.length_nil];(try simp (disch:=omega) only [if_pos]);(try simp only [go_sem,X.h,if_true,List.drop_zero,Int.toNat_zero,List.map_nil,List.length_nil])<;> rfl):p:=h
theorem V32 {p:Prop}(h:p:=by exact ⟨by first|exact Jj.pure rfl|exact Jj.nil _|exact Jj.int (by first|omega|(simp;done)|(simp;omega)),by first|exact Jj.pure rfl|exact Jj.nil _|exact Jj.int (by first|omega|(simp;done)|(simp;omega)),trivial⟩):p:=h
theorem V33 {p:Prop}(h:p:=by simp only [go_sem,X.h,Bool.toNat_false,Bool.toNat_true,Int.natCast_zero,Int.natCast_one,Int.add_zero];(try simp (disch:=omega) only [IntWalk.i64_in,IntWalk.u64_in,IntWalk.i32_in,IntWalk.u8_in,if_neg,if_pos])<;> rfl):p:=h
theorem V34 {p:Prop}(h:p:=by exact ⟨by first|exact Jj.pure rfl|exact Jj.of rfl rfl|exact Jj.int (by first|omega|(simp;done)),by first|exact Jj.pure rfl|exact Jj.of rfl rfl|exact Jj.int (by first|omega|(simp;done)),trivial⟩):p:=h
theorem V35 {p:Prop}(h:p:=by simp only [go_sem,X.h,List.map_cons,List.length_cons,List.length_map,List.getElem?_cons_zero,List.getElem?_cons_succ,Int.toNat_zero,Int.toNat_one,List.drop_succ_cons,List.drop_zero,Int.natCast_zero,J5]<;>rfl):p:=h
theorem V36 {p:Prop}(h:p:=by simp only [go_sem,X.h,List.map_cons,List.length_cons,List.length_map,List.getElem?_cons_zero,List.getElem?_cons_succ,Int.toNat_zero,Int.toNat_one,List.drop_succ_cons,List.drop_zero]<;>first|exact QV|rfl):p:=h
theorem V37 {p:Prop}(h:p:=by simp only [go_sem,X.h,if_true,List.drop_zero,Int.toNat_zero,List.map_nil,List.length_nil];(try simp (disch:=omega) only [IntWalk.i64_in,IntWalk.u64_in,IntWalk.i32_in,IntWalk.u8_in,if_neg,if_pos])<;> rfl):p:=h
theorem V38 {p:Prop}(h:p:=by intro p hp n hn;simp only [List.mem_cons,List.not_mem_nil,or_false] at hp;rcases hp with rfl<;>(simp [look] at hn;subst hn;simp only [go_sem,X.h,Nat.sub_self,List.replicate_zero,List.nil_append]<;>rfl)):p:=h
theorem V39 {p:Prop}(h:p:=by simp only [go_sem,X.h,if_true,List.drop_zero,Int.toNat_zero,JCO];(try simp (disch:=omega) only [if_pos]);(try simp only [go_sem,X.h,if_true,List.drop_zero,Int.toNat_zero,JCO])<;> rfl):p:=h
theorem V40 {p:Prop}(h:p:=by intro p hp;simp only [List.mem_cons,List.not_mem_nil,or_false] at hp;rcases hp with rfl|rfl<;>(first|exact ⟨_,rfl,JD1 _⟩|exact ⟨_,rfl,_,rfl,by simp [Jy]⟩|exact ⟨_,rfl,_,rfl⟩)):p:=h
theorem JY {p:Prop}(h:p:=by simp only [go_sem,X.h,List.map_cons,List.length_cons,List.length_map,List.getElem?_cons_zero,List.getElem?_cons_succ,Int.toNat_zero,Int.toNat_one,List.drop_succ_cons,List.drop_zero]<;>rfl):p:=h
theorem V42 {p:Prop}(h:p:=by intro p hp;simp only [List.mem_cons,List.not_mem_nil,or_false] at hp;rcases hp with rfl|rfl<;>(first|exact ⟨_,rfl,JD1 _⟩|exact ⟨_,rfl,_,rfl,by simp⟩|exact ⟨_,rfl,_,rfl⟩)):p:=h
theorem V43 {p:Prop}(h:p:=by simp only [go_sem,X.h,Nat.zero_mul,List.drop_zero,Int.toNat_zero];(try simp (disch:=omega) only [if_pos]);(try simp only [go_sem,X.h,Nat.zero_mul,List.drop_zero,Int.toNat_zero])<;> rfl):p:=h
theorem V44 {p:Prop}(h:p:=by simp only [go_sem,X.h,Bool.not_true,Bool.not_true,Bool.not_false];(try simp (disch:=omega) only [if_pos]);(try simp only [go_sem,X.h,Bool.not_true,Bool.not_true,Bool.not_false])<;> rfl):p:=h
theorem V45 {p:Prop}(h:p:=by simp only [go_sem,X.h,if_true,List.drop_zero,Int.toNat_zero,JCO];(try simp (disch:=omega) only [IntWalk.i64_in,IntWalk.u64_in,IntWalk.i32_in,IntWalk.u8_in,if_neg,if_pos])<;> rfl):p:=h
theorem V46 {p:Prop}(h:p:=by simp only [go_sem,X.h,Bool.not_true,Bool.not_true,Bool.not_true];(try simp (disch:=omega) only [if_pos]);(try simp only [go_sem,X.h,Bool.not_true,Bool.not_true,Bool.not_true])<;> rfl):p:=h
theorem YV {p:Prop}(h:p:=by intro p hp;simp only [List.mem_cons,List.not_mem_nil,or_false] at hp;rcases hp with rfl<;>(first|exact ⟨_,rfl,JD1 _⟩|exact ⟨_,rfl,_,rfl,by simp⟩|exact ⟨_,rfl,_,rfl⟩)):p:=h
theorem V48 {p:Prop}(h:p:=by simp only [go_sem,X.h,Bool.not_false,Bool.not_true,Int.toNat_zero];(try simp (disch:=omega) only [IntWalk.i64_in,IntWalk.u64_in,IntWalk.i32_in,IntWalk.u8_in,if_neg,if_pos])<;> rfl):p:=h
theorem YM {p:Prop}(h:p:=by first|rfl|(simp only [List.all_cons,List.all_nil,inn_bk,Bool.and_true,Bool.true_and];done)|(simp only [List.all_cons,List.all_nil,inn_bk,Bool.and_true,Bool.true_and]<;>rfl)):p:=h
theorem V50 {p:Prop}(h:p:=by simp only [go_sem,X.h,if_true,List.drop_zero,Int.toNat_zero];(try simp (disch:=omega) only [if_pos]);(try simp only [go_sem,X.h,if_true,List.drop_zero,Int.toNat_zero])<;> rfl):p:=h
theorem V51 {p:Prop}(h:p:=by simp only [go_sem,X.h,if_true,List.drop_zero,Int.toNat_zero];(try simp (disch:=omega) only [IntWalk.i64_in,IntWalk.u64_in,IntWalk.i32_in,IntWalk.u8_in,if_neg,if_pos])<;> rfl):p:=h
theorem V52 {p:Prop}(h:p:=by intro p hp n hn;simp only [List.mem_cons,List.not_mem_nil,or_false] at hp;rcases hp with rfl<;>(simp [look] at hn;subst hn;simp only [go_sem,X.h,List.append_assoc]<;>rfl)):p:=h
theorem V53 {p:Prop}(h:p:=by intro p hp n hn;simp only [List.mem_cons,List.not_mem_nil,or_false] at hp;rcases hp with rfl<;>(simp [look] at hn;subst hn;simp only [go_sem,X.h,List.cons_append]<;>rfl)):p:=h
theorem V54 {p:Prop}(h:p:=by simp only [go_sem,X.h,List.map_cons,List.length_cons,List.length_map,List.getElem?_cons_zero,List.drop_succ_cons,List.drop_zero,Int.natCast_add,Int.natCast_one]<;>rfl):p:=h
theorem V55 {p:Prop}(h:p:=by simp only [go_sem,X.h,Bool.not_false,Bool.not_true];(try simp (disch:=omega) only [IntWalk.i64_in,IntWalk.u64_in,IntWalk.i32_in,IntWalk.u8_in,if_neg,if_pos])<;> rfl):p:=h
theorem V56 {p:Prop}(h:p:=by simp only [go_sem,X.h,Bool.not_true,Bool.not_true];(try simp (disch:=omega) only [IntWalk.i64_in,IntWalk.u64_in,IntWalk.i32_in,IntWalk.u8_in,if_neg,if_pos])<;> rfl):p:=h
theorem V57 {p:Prop}(h:p:=by simp only [go_sem,X.h,reduceCtorEq,if_false];(try simp (disch:=omega) only [IntWalk.i64_in,IntWalk.u64_in,IntWalk.i32_in,IntWalk.u8_in,if_neg,if_pos])<;> rfl):p:=h
theorem V58 {p:Prop}(h:p:=by simp only [go_sem,X.h,Bool.not_true,Bool.not_false];(try simp (disch:=omega) only [if_pos]);(try simp only [go_sem,X.h,Bool.not_true,Bool.not_false])<;> rfl):p:=h
theorem Zc {p:Prop}(h:p:=by intro p hp n hn;simp only [List.mem_cons,List.not_mem_nil,or_false] at hp;rcases hp with rfl|rfl<;>(simp [look] at hn;subst hn;simp only [go_sem]<;>rfl)):p:=h
theorem V60 {p:Prop}(h:p:=by simp only [go_sem,X.h,JBE,gt_iff_lt];(try simp (disch:=omega) only [IntWalk.i64_in,IntWalk.u64_in,IntWalk.i32_in,IntWalk.u8_in,if_neg,if_pos])<;> rfl):p:=h
theorem V61 {p:Prop}(h:p:=by simp only [go_sem,X.h,Bool.not_true,Bool.not_true];(try simp (disch:=omega) only [if_pos]);(try simp only [go_sem,X.h,Bool.not_true,Bool.not_true])<;> rfl):p:=h
theorem V62 {p:Prop}(h:p:=by intro p hp n hn;simp only [List.mem_cons,List.not_mem_nil,or_false] at hp;rcases hp with rfl<;>(simp [look] at hn;subst hn;simp only [go_sem,X.h]<;>rfl)):p:=h
theorem V63 {p:Prop}(h:p:=by simp only [go_sem,X.h,rk,rv,cond_true,cond_false,JDO,JDP,JDQ,JDR,Int.toNat_zero,List.drop_zero,Int.reduceAdd,Int.natCast_zero]<;>rfl):p:=h
theorem V64 {p:Prop}(h:p:=by simp only [go_sem,X.h,List.map_cons,List.length_cons,List.length_map,List.getElem?_cons_zero,List.getElem?_cons_succ,Int.toNat_zero,Int.toNat_one]<;>rfl):p:=h
theorem V65 {p:Prop}(h:p:=by simp only [go_sem,X.h,Int.toNat_zero];(try simp (disch:=omega) only [IntWalk.i64_in,IntWalk.u64_in,IntWalk.i32_in,IntWalk.u8_in,if_neg,if_pos])<;> rfl):p:=h
theorem V66 {p:Prop}(h:p:=by simp only [go_sem,X.h,Bool.not_true];(try simp (disch:=omega) only [IntWalk.i64_in,IntWalk.u64_in,IntWalk.i32_in,IntWalk.u8_in,if_neg,if_pos])<;> rfl):p:=h
theorem Zd {p:Prop}(h:p:=by intro p hp n hn;simp only [List.mem_cons,List.not_mem_nil,or_false] at hp;rcases hp with rfl<;>(simp [look] at hn;subst hn;simp only [go_sem]<;>rfl)):p:=h
theorem V68 {p:Prop}(h:p:=by simp only [go_sem,X.h,rk,ZQ];(try simp (disch:=omega) only [IntWalk.i64_in,IntWalk.u64_in,IntWalk.i32_in,IntWalk.u8_in,if_neg,if_pos])<;> rfl):p:=h
theorem V69 {p:Prop}(h:p:=by simp only [go_sem,X.h,List.drop_zero,if_true];(try simp (disch:=omega) only [if_pos]);(try simp only [go_sem,X.h,List.drop_zero,if_true])<;> rfl):p:=h
theorem V70 {p:Prop}(h:p:=by simp only [go_sem,Int.zero_add];(try simp (disch:=omega) only [IntWalk.i64_in,IntWalk.u64_in,IntWalk.i32_in,IntWalk.u8_in,if_neg,if_pos])<;> rfl):p:=h
theorem V71 {p:Prop}(h:p:=by simp only [go_sem,X.h,pad];(try simp (disch:=omega) only [IntWalk.i64_in,IntWalk.u64_in,IntWalk.i32_in,IntWalk.u8_in,if_neg,if_pos])<;> rfl):p:=h
theorem V72 {p:Prop}(h:p:=by simp only [go_sem,X.h,Bool.toNat_false,Bool.toNat_true,Int.natCast_zero,Int.natCast_one,Int.add_zero,Int.natCast_zero,Nat.sub_zero]<;>rfl):p:=h
theorem Ja {p:Prop}(h:p:=by simp only [go_sem,X.h,rk,rv,cond_true,cond_false,JDO,JDP,JDQ,JDR,Int.toNat_zero,List.drop_zero,Int.reduceAdd]<;>rfl):p:=h
theorem QC {p:Prop}(h:p:=by simp only [go_sem,X.h];(try simp (disch:=omega) only [IntWalk.i64_in,IntWalk.u64_in,IntWalk.i32_in,IntWalk.u8_in,if_neg,if_pos])<;> rfl):p:=h
theorem V75 {p:Prop}(h:p:=by simp only [go_sem,X.h,JBE,gt_iff_lt];(try simp (disch:=omega) only [if_pos]);(try simp only [go_sem,X.h,JBE,gt_iff_lt])<;> rfl):p:=h
theorem V76 {p:Prop}(h:p:=by simp only [go_sem];(try simp (disch:=omega) only [IntWalk.i64_in,IntWalk.u64_in,IntWalk.i32_in,IntWalk.u8_in,if_neg,if_pos])<;> rfl):p:=h
theorem V77 {p:Prop}(h:p:=by simp only [go_sem,X.h,Int.toNat_zero];(try simp (disch:=omega) only [if_pos]);(try simp only [go_sem,X.h,Int.toNat_zero])<;> rfl):p:=h
theorem ZH {p:Prop}(h:p:=by simp only [go_sem,X.h,List.map_cons,List.map_nil,List.length_cons,List.length_nil,List.getElem?_cons_zero,Int.toNat_zero]<;>rfl):p:=h
theorem V79 {p:Prop}(h:p:=by simp only [go_sem,X.h,Bool.not_false];(try simp (disch:=omega) only [if_pos]);(try simp only [go_sem,X.h,Bool.not_false])<;> rfl):p:=h
theorem V80 {p:Prop}(h:p:=by simp only [go_sem,X.h,Bool.toNat_false,Bool.toNat_true,Int.natCast_zero,Int.natCast_one,Int.add_zero]<;>first|exact QV|rfl):p:=h
theorem V81 {p:Prop}(h:p:=by simp only [go_sem,X.h,Int.toNat_one];(try simp (disch:=omega) only [if_pos]);(try simp only [go_sem,X.h,Int.toNat_one])<;> rfl):p:=h
theorem V82 {p:Prop}(h:p:=by simp only [go_sem,X.h,Bool.not_true];(try simp (disch:=omega) only [if_pos]);(try simp only [go_sem,X.h,Bool.not_true])<;> rfl):p:=h
theorem J6 {p:Prop}(h:p:=by exact ⟨by first|exact Jj.pure rfl|exact Jj.nil _|exact Jj.int (by first|omega|(simp;done)|(simp;omega)),trivial⟩):p:=h
theorem V84 {p:Prop}(h:p:=by simp only [go_sem,X.h,rk,ZQ];(try simp (disch:=omega) only [if_pos]);(try simp only [go_sem,X.h,rk,ZQ])<;> rfl):p:=h
theorem V85 {p:Prop}(h:p:=by simp only [go_sem,X.h,List.nil_append,List.length_map,Int.natCast_zero,List.take_zero,List.drop_zero,JHX]<;>rfl):p:=h
theorem Z0 {p:Prop}(h:p:=by intro p hp hn;simp only [List.mem_cons,List.not_mem_nil,or_false] at hp;rcases hp with rfl|rfl<;>simp [look] at hn):p:=h
theorem V87 {p:Prop}(h:p:=by exact ⟨by first|exact Jj.pure rfl|exact Jj.of rfl rfl|exact Jj.int (by first|omega|(simp;done)),trivial⟩):p:=h
theorem V88 {p:Prop}(h:p:=by simp only [go_sem,X.h,Int.natCast_zero,List.take_zero,List.drop_zero,JR0,JSD,List.map_nil]<;>rfl):p:=h
theorem V89 {p:Prop}(h:p:=by have hs:=hA (.slot 56) (by simp);simp only [Mw.agree] at hs;refine Eq.trans hs ?_;simp only [go_sem,rk]<;>rfl):p:=h
theorem V90 {p:Prop}(h:p:=by have hs:=hA (.slot 57) (by simp);simp only [Mw.agree] at hs;refine Eq.trans hs ?_;simp only [go_sem,rk]<;>rfl):p:=h
theorem YX {p:Prop}(h:p:=by intro p hp hn;simp only [List.mem_cons,List.not_mem_nil,or_false] at hp;rcases hp with rfl<;>simp [look] at hn):p:=h
theorem QR {p:Prop}(h:p:=by simp only [go_sem,X.h,Bool.toNat_false,Bool.toNat_true,Int.natCast_zero,Int.natCast_one,Int.add_zero]<;>rfl):p:=h
theorem V93 {p:Prop}(h:p:=by first|exact .inr ⟨rfl,hs,by simp only [go_sem]<;>rfl⟩|exact .inl (by simp only [go_sem]<;>rfl)):p:=h
theorem QQ {p:Prop}(h:p:=by simp only [go_sem,X.h];(try simp (disch:=omega) only [if_pos]);(try simp only [go_sem,X.h])<;> rfl):p:=h
theorem V95 {p:Prop}(h:p:=by simp only [go_sem,X.h,if_true,List.drop_zero,Int.toNat_zero,List.map_nil,List.length_nil]<;>rfl):p:=h
theorem V96 {p:Prop}(h:p:=by intro q q' n h h';by_cases e:q=911<;>by_cases e':q'=911<;>simp [look,e,e'] at h h' ⊢):p:=h
theorem V97 {p:Prop}(h:p:=by exact ⟨by first|exact Jj.pure rfl|exact Jj.nil _|exact Jj.int (by omega),JOm _ _ _⟩):p:=h
theorem Ze {p:Prop}(h:p:=by simp only [go_sem,X.h,Bool.not_true,Bool.not_true,Bool.not_true,Bool.not_false]<;>rfl):p:=h
theorem Zf {p:Prop}(h:p:=by simp only [go_sem,X.h,Bool.not_true,Bool.not_true,Bool.not_true,Bool.not_true]<;>rfl):p:=h
theorem JGM {p:Prop}(h:p:=by simp only [go_sem,X.h,Nat.sub_self,List.replicate_zero,List.nil_append]<;>rfl):p:=h
theorem JEq {p:Prop}(h:p:=by simp only [go_sem,X.h,List.nil_append,List.length_map,Int.natCast_zero]<;>rfl):p:=h
theorem Y3 {p:Prop}(h:p:=by simp only [go_sem,X.h,if_true,List.drop_zero,Int.toNat_zero,JCO]<;>rfl):p:=h
theorem JH2 {p:Prop}(h:p:=by simp only [go_sem,X.h,Bool.not_true,Bool.not_false]<;>first|rfl|exact QV):p:=h
theorem Qd {p:Prop}(h:p:=by simp only [go_sem,X.h,Bool.not_false,Bool.not_true,Int.toNat_zero]<;>rfl):p:=h
theorem Zz {p:Prop}(h:p:=by simp only [go_sem,X.h,Int.toNat_zero,List.drop_zero,Int.reduceAdd]<;>rfl):p:=h
theorem JBV {p:Prop}(h:p:=by simp only [go_sem,X.h,Nat.zero_mul,List.drop_zero,Int.toNat_zero]<;>rfl):p:=h
theorem YA {p:Prop}(h:p:=by simp only [go_sem,X.h,Bool.not_true,Bool.not_true,Bool.not_false]<;>rfl):p:=h
theorem ZF {p:Prop}(h:p:=by simp only [go_sem,X.h,Bool.not_true,Bool.not_true,Bool.not_true]<;>rfl):p:=h
theorem JGN {p:Prop}(h:p:=by simp only [go_sem,Int.natCast_zero,List.take_zero,List.map_nil]<;>rfl):p:=h
theorem QP {p:Prop}(h:p:=by simp only [go_sem,X.h,if_true,List.drop_zero,Int.toNat_zero]<;>rfl):p:=h
theorem JAi {p:Prop}(h:p:=by simp only [go_sem,X.h,JBE,gt_iff_lt]<;>first|rfl|exact QV):p:=h
theorem JDn {p:Prop}(h:p:=by simp only [go_sem,X.h,JBE,gt_iff_lt]<;>first|exact QV|rfl):p:=h
theorem JGO {p:Prop}(h:p:=by simp only [List.length_cons,List.length_nil,Tryz.ntmps146];omega):p:=h
theorem JGP {p:Prop}(h:p:=by simp only [List.length_cons,List.length_nil,Tryz.ntmps127];omega):p:=h
theorem JEr {p:Prop}(h:p:=by simp only [List.length_cons,List.length_nil,Tryz.ntmps109];omega):p:=h
theorem JDo {p:Prop}(h:p:=by simp only [List.length_cons,List.length_nil,Tryz.ntmps110];omega):p:=h
theorem JH3 {p:Prop}(h:p:=by simp only [go_sem,X.h,Bool.not_false]<;>first|rfl|exact QV):p:=h
theorem JDp {p:Prop}(h:p:=by simp only [List.length_cons,List.length_nil,Tryz.ntmps75];omega):p:=h
theorem JGQ {p:Prop}(h:p:=by simp only [List.length_cons,List.length_nil,Tryz.ntmps72];omega):p:=h
theorem JGR {p:Prop}(h:p:=by simp only [go_sem,X.h,Bool.not_true]<;>first|rfl|exact QV):p:=h
theorem JH4 {p:Prop}(h:p:=by simp only [List.length_cons,List.length_nil,Tryz.ntmps53];omega):p:=h
theorem JEs {p:Prop}(h:p:=by simp only [List.length_cons,List.length_nil,Tryz.ntmps54];omega):p:=h
theorem JGS {p:Prop}(h:p:=by simp only [List.length_cons,List.length_nil,Tryz.ntmps52];omega):p:=h
theorem JGT {p:Prop}(h:p:=by simp only [List.length_cons,List.length_nil,Tryz.ntmps92];omega):p:=h
theorem JEt {p:Prop}(h:p:=by simp only [List.length_cons,List.length_nil,Tryz.ntmps93];omega):p:=h
theorem JH5 {p:Prop}(h:p:=by simp only [List.length_cons,List.length_nil,Tryz.ntmps91];omega):p:=h
theorem JAK {p:Prop}(h:p:=by simp only [go_sem,X.h,Bool.not_true]<;>first|exact QV|rfl):p:=h
theorem JEu {p:Prop}(h:p:=by simp only [go_sem,JMW,JMB]<;>first|rfl|exact QV):p:=h
theorem Q0 {p:Prop}(h:p:=by simp only [go_sem,X.h,List.nil_append,List.length_map]<;>rfl):p:=h
theorem JAL {p:Prop}(h:p:=by simp only [go_sem,X.h,Ym,JBE,Bool.not_not]<;>rfl):p:=h
theorem JDC {p:Prop}(h:p:=by simp only [go_sem,X.h,Bool.not_false,Int.toNat_zero]<;>rfl):p:=h
theorem JGU {p:Prop}(h:p:=by simp only [go_sem,JKt,JKs]<;>first|rfl|exact QV):p:=h
theorem Zk {p:Prop}(h:p:=by simp only [go_sem,X.h,YW,JBE,Bool.not_not]<;>rfl):p:=h
theorem Yr {p:Prop}(h:p:=by simp only [go_sem,X.h,Bool.not_false,Bool.not_true]<;>rfl):p:=h
theorem YL {p:Prop}(h:p:=by simp only [go_sem,X.h,Bool.not_true,Bool.not_false]<;>rfl):p:=h
theorem Yd {p:Prop}(h:p:=by simp only [go_sem,X.h,Bool.not_true,Bool.not_true]<;>rfl):p:=h
theorem JH6 {p:Prop}(h:p:=by simp only [go_sem,Int.natCast_zero,Int.add_zero]<;>rfl):p:=h
theorem JBW {p:Prop}(h:p:=by simp only [go_sem,X.h,JCF]<;>first|rfl|exact QV):p:=h
theorem JGV {p:Prop}(h:p:=by simp only [go_sem,X.h,JHq]<;>first|rfl|exact QV):p:=h
theorem JH7 {p:Prop}(h:p:=by simp only [go_sem,List.map_nil,List.length_nil]<;>rfl):p:=h
theorem JBX {p:Prop}(h:p:=by first|exact JLH _ _ _ _ _ _ _ (fun _=>rfl)|rfl):p:=h
theorem JAM {p:Prop}(h:p:=by simp only [go_sem,X.h,List.drop_zero,if_true]<;>rfl):p:=h
theorem JAj {p:Prop}(h:p:=by simp only [go_sem,X.h,reduceCtorEq,if_false]<;>rfl):p:=h
theorem Qp {p:Prop}(h:p:=by simp only [go_sem,X.h]<;>first|rfl|exact QV):p:=h
theorem Zl {p:Prop}(h:p:=by simp only [go_sem,X.h]<;>first|exact QV|rfl):p:=h
theorem Jx {p:Prop}(h:p:=by simp only [go_sem,X.h,JBE,gt_iff_lt]<;>rfl):p:=h
theorem JDq {p:Prop}(h:p:=by simp only [go_sem,X.h,List.append_assoc]<;>rfl):p:=h
theorem JGW {p:Prop}(h:p:=by simp only [go_sem,X.h,Int.natCast_zero]<;>rfl):p:=h
theorem JBY {p:Prop}(h:p:=by simp only [go_sem,X.h,List.cons_append]<;>rfl):p:=h
theorem JAC {p:Prop}(h:p:=by simp only [go_sem,ZB,Bool.not_and]<;>rfl):p:=h
theorem ZD {p:Prop}(h:p:=by simp only [go_sem,X.h,Int.toNat_zero]<;>rfl):p:=h
theorem YN {p:Prop}(h:p:=by simp only [go_sem,X.h,Bool.not_false]<;>rfl):p:=h
theorem Yn {p:Prop}(h:p:=by simp only [go_sem]<;>first|rfl|exact QV):p:=h
theorem YB {p:Prop}(h:p:=by simp only [go_sem,JBE,gt_iff_lt]<;>rfl):p:=h
theorem JX {p:Prop}(h:p:=by simp only [go_sem,X.h,Bool.not_true]<;>rfl):p:=h
theorem Qu {p:Prop}(h:p:=by simp only [go_sem,X.h,Int.toNat_one]<;>rfl):p:=h
theorem Ya {p:Prop}(h:p:=by simp only [go_sem,JMW,JMB]<;>rfl):p:=h
theorem JCV {p:Prop}(h:p:=by simp only [go_sem,Int.natCast_zero]<;>rfl):p:=h
theorem ZS {p:Prop}(h:p:=by simp only [go_sem,JKt,JKs]<;>rfl):p:=h
theorem Q1 {p:Prop}(h:p:=by simp only [go_sem,X.h,rk,ZQ]<;>rfl):p:=h
theorem ZP {p:Prop}(h:p:=by simp only [go_sem,Bool.not_false]<;>rfl):p:=h
theorem Ys {p:Prop}(h:p:=by simp only [go_sem,Bool.not_true]<;>rfl):p:=h
theorem JAD {p:Prop}(h:p:=by simp only [go_sem,Int.zero_add]<;>rfl):p:=h
theorem JDD {p:Prop}(h:p:=by first|rfl|exact JNF _ _ _ _ _ _):p:=h
theorem JDr {p:Prop}(h:p:=by have:=of_decide_eq_false hb41;omega):p:=h
theorem ZT {p:Prop}(h:p:=by simp only [go_sem,X.h,JCF]<;>rfl):p:=h
theorem JBZ {p:Prop}(h:p:=by simp only [go_sem,X.h,JHq]<;>rfl):p:=h
theorem JBa {p:Prop}(h:p:=by simp only [go_sem,gt_iff_lt]<;>rfl):p:=h
theorem JAk {p:Prop}(h:p:=by simp only [go_sem,X.h,pad]<;>rfl):p:=h
theorem JAN {p:Prop}(h:p:=by simp only [go_sem,YR]<;>rfl):p:=h
theorem JDs {p:Prop}(h:p:=by simp only [go_sem,Y9]<;>rfl):p:=h
theorem JDt {p:Prop}(h:p:=by simp only [go_sem,ZL]<;>rfl):p:=h
theorem JDu {p:Prop}(h:p:=by simp only [go_sem,Y1]<;>rfl):p:=h
theorem JC {p:Prop}(h:p:=by simp only [go_sem,X.h]<;>rfl):p:=h
theorem JBb {p:Prop}(h:p:=by simp only [go_sem,Qj]<;>rfl):p:=h
theorem JB4 {p:Prop}(h:p:=by rw [List.length_take];omega):p:=h
theorem JAY {p:Prop}(h:p:=by rw [JHZ];simp [hl]):p:=h
theorem JD {p:Prop}(h:p:=by simp only [go_sem]<;>rfl):p:=h
theorem JBc {p:Prop}(h:p:=by intro d hd;cases hd):p:=h
theorem JW {p:Prop}(h:p:=by simp only [go_sem]):p:=h
theorem JB5 {p:Prop}(h:p:=by simpa using hl):p:=h
theorem J4 {p:Prop}(h:p:=by decide +kernel):p:=h
theorem JAO {p:Prop}(h:p:=by rw [h1];rfl):p:=h
theorem JAG {p:Prop}(h:p:=by simp;omega):p:=h
theorem JH {p:Prop}(h:p:=by kernel_rfl):p:=h
theorem Za {p:Prop}(h:p:=by simp [hl]):p:=h
end Go

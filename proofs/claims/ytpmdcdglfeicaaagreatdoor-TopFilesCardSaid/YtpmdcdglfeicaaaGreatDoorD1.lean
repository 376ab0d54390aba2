/- Tactics that stand in many places, each by a name. -/
import Derived.WalkKit
namespace Go
theorem V3 {p:Prop}(h:p:=by simp only [go_sem,X.h,List.map_cons,List.length_cons,List.length_map,List.getElem?_cons_zero,List.getElem?_cons_succ,Int.toNat_zero,Int.toNat_one,List.drop_succ_cons,List.drop_zero];(try simp (disch:=omega) only [if_pos]);(try simp only [go_sem,X.h,List.map_cons,List.length_cons,List.length_map,List.getElem?_cons_zero,List.getElem?_cons_succ,Int.toNat_zero,Int.toNat_one,List.drop_succ_cons,List.drop_zero])<;>first|(refine ZQ ⟨by (try simp only [List.length_append,List.length_drop,List.length_take,List.length_map,List.length_cons,List.length_nil,List.length_replicate,List.length_set,List.length_range,Nat.zero_add]);omega,by (try simp only [List.length_append,List.length_drop,List.length_take,List.length_map,List.length_cons,List.length_nil,List.length_replicate,List.length_set,List.length_range,Nat.zero_add]);omega,by repeat (first|exact ZB|assumption|refine Y6 ?_ ?_|refine Y8 ?_|refine ZD ?_|exact ZA (fun _=>rfl)|exact ZC rfl|refine Y7 rfl ?_)⟩ ?_;simp only [go_sem,X.h,List.map_cons,List.length_cons,List.length_map,List.getElem?_cons_zero,List.getElem?_cons_succ,Int.toNat_zero,Int.toNat_one,List.drop_succ_cons,List.drop_zero]<;>rfl)|(refine ZQ ⟨by (try simp only [List.length_append,List.length_drop,List.length_take,List.length_map,List.length_cons,List.length_nil,List.length_replicate,List.length_set,List.length_range,Nat.zero_add]);omega,by repeat (first|exact ZB|assumption|refine Y6 ?_ ?_|refine Y8 ?_|refine ZD ?_|exact ZA (fun _=>rfl)|exact ZC rfl|refine Y7 rfl ?_)⟩ ?_;simp only [go_sem,X.h,List.map_cons,List.length_cons,List.length_map,List.getElem?_cons_zero,List.getElem?_cons_succ,Int.toNat_zero,Int.toNat_one,List.drop_succ_cons,List.drop_zero]<;>rfl)|rfl):p:=h
theorem V4 {p:Prop}(h:p:=by simp only [go_sem,X.h,Int.toNat_zero];(try simp (disch:=omega) only [if_pos]);(try simp only [go_sem,X.h,Int.toNat_zero])<;>first|(refine ZQ ⟨by (try simp only [List.length_append,List.length_drop,List.length_take,List.length_map,List.length_cons,List.length_nil,List.length_replicate,List.length_set,List.length_range,Nat.zero_add]);omega,by (try simp only [List.length_append,List.length_drop,List.length_take,List.length_map,List.length_cons,List.length_nil,List.length_replicate,List.length_set,List.length_range,Nat.zero_add]);omega,by repeat (first|exact ZB|assumption|refine Y6 ?_ ?_|refine Y8 ?_|refine ZD ?_|exact ZA (fun _=>rfl)|exact ZC rfl|refine Y7 rfl ?_)⟩ ?_;simp only [go_sem,X.h,Int.toNat_zero]<;>rfl)|(refine ZQ ⟨by (try simp only [List.length_append,List.length_drop,List.length_take,List.length_map,List.length_cons,List.length_nil,List.length_replicate,List.length_set,List.length_range,Nat.zero_add]);omega,by repeat (first|exact ZB|assumption|refine Y6 ?_ ?_|refine Y8 ?_|refine ZD ?_|exact ZA (fun _=>rfl)|exact ZC rfl|refine Y7 rfl ?_)⟩ ?_;simp only [go_sem,X.h,Int.toNat_zero]<;>rfl)|rfl):p:=h
theorem V5 {p:Prop}(h:p:=by simp only [go_sem,X.h,repD,JAA];(try simp (disch:=omega) only [if_pos]);(try simp only [go_sem,X.h,repD,JAA])<;>first|(refine ZQ ⟨by (try simp only [List.length_append,List.length_drop,List.length_take,List.length_map,List.length_cons,List.length_nil,List.length_replicate,List.length_set,List.length_range,Nat.zero_add]);omega,by (try simp only [List.length_append,List.length_drop,List.length_take,List.length_map,List.length_cons,List.length_nil,List.length_replicate,List.length_set,List.length_range,Nat.zero_add]);omega,by repeat (first|exact ZB|assumption|refine Y6 ?_ ?_|refine Y8 ?_|refine ZD ?_|exact ZA (fun _=>rfl)|exact ZC rfl|refine Y7 rfl ?_)⟩ ?_;simp only [go_sem,X.h,repD,JAA]<;>rfl)|(refine ZQ ⟨by (try simp only [List.length_append,List.length_drop,List.length_take,List.length_map,List.length_cons,List.length_nil,List.length_replicate,List.length_set,List.length_range,Nat.zero_add]);omega,by repeat (first|exact ZB|assumption|refine Y6 ?_ ?_|refine Y8 ?_|refine ZD ?_|exact ZA (fun _=>rfl)|exact ZC rfl|refine Y7 rfl ?_)⟩ ?_;simp only [go_sem,X.h,repD,JAA]<;>rfl)|rfl):p:=h
theorem V6 {p:Prop}(h:p:=by simp only [go_sem,X.h];(try simp (disch:=omega) only [if_pos]);(try simp only [go_sem,X.h])<;>first|(refine ZQ ⟨by (try simp only [List.length_append,List.length_drop,List.length_take,List.length_map,List.length_cons,List.length_nil,List.length_replicate,List.length_set,List.length_range,Nat.zero_add]);omega,by (try simp only [List.length_append,List.length_drop,List.length_take,List.length_map,List.length_cons,List.length_nil,List.length_replicate,List.length_set,List.length_range,Nat.zero_add]);omega,by repeat (first|exact ZB|assumption|refine Y6 ?_ ?_|refine Y8 ?_|refine ZD ?_|exact ZA (fun _=>rfl)|exact ZC rfl|refine Y7 rfl ?_)⟩ ?_;simp only [go_sem,X.h]<;>rfl)|(refine ZQ ⟨by (try simp only [List.length_append,List.length_drop,List.length_take,List.length_map,List.length_cons,List.length_nil,List.length_replicate,List.length_set,List.length_range,Nat.zero_add]);omega,by repeat (first|exact ZB|assumption|refine Y6 ?_ ?_|refine Y8 ?_|refine ZD ?_|exact ZA (fun _=>rfl)|exact ZC rfl|refine Y7 rfl ?_)⟩ ?_;simp only [go_sem,X.h]<;>rfl)|rfl):p:=h
theorem V7 {p:Prop}(h:p:=by exact ⟨by first|exact JV.pure rfl|exact JV.of rfl rfl|exact JV.nil _|exact JV.int (by first|omega|(simp;done)|(simp;omega))|exact JV.fptW rfl ⟨by first|exact .inl rfl|exact .inr rfl,by first|exact .inl rfl|exact .inr rfl,by first|exact .inl rfl|exact .inr rfl,by first|exact .inl rfl|exact .inr rfl,by first|exact .inl rfl|exact .inr rfl,by first|exact .inl rfl|exact .inr rfl,trivial⟩,by first|exact JV.pure rfl|exact JV.of rfl rfl|exact JV.nil _|exact JV.int (by first|omega|(simp;done)|(simp;omega))|exact JV.fptW rfl ⟨by first|exact .inl rfl|exact .inr rfl,by first|exact .inl rfl|exact .inr rfl,by first|exact .inl rfl|exact .inr rfl,by first|exact .inl rfl|exact .inr rfl,by first|exact .inl rfl|exact .inr rfl,by first|exact .inl rfl|exact .inr rfl,trivial⟩,trivial⟩):p:=h
theorem V8 {p:Prop}(h:p:=by exact ⟨by first|exact JV.pure rfl|exact JV.of rfl rfl|exact JV.nil _|exact JV.int (by first|omega|(simp;done)|(simp;omega)),by first|exact JV.pure rfl|exact JV.of rfl rfl|exact JV.nil _|exact JV.int (by first|omega|(simp;done)|(simp;omega)),by first|exact JV.pure rfl|exact JV.of rfl rfl|exact JV.nil _|exact JV.int (by first|omega|(simp;done)|(simp;omega)),by first|exact JV.pure rfl|exact JV.of rfl rfl|exact JV.nil _|exact JV.int (by first|omega|(simp;done)|(simp;omega)),by first|exact JV.pure rfl|exact JV.of rfl rfl|exact JV.nil _|exact JV.int (by first|omega|(simp;done)|(simp;omega)),trivial⟩):p:=h
theorem V9 {p:Prop}(h:p:=by exact ⟨by first|exact JV.pure rfl|exact JV.of rfl rfl|exact JV.nil _|exact JV.int (by first|omega|(simp;done)|(simp;omega)),by first|exact JV.pure rfl|exact JV.of rfl rfl|exact JV.nil _|exact JV.int (by first|omega|(simp;done)|(simp;omega)),by first|exact JV.pure rfl|exact JV.of rfl rfl|exact JV.nil _|exact JV.int (by first|omega|(simp;done)|(simp;omega)),by first|exact JV.pure rfl|exact JV.of rfl rfl|exact JV.nil _|exact JV.int (by first|omega|(simp;done)|(simp;omega)),trivial⟩):p:=h
theorem V10 {p:Prop}(h:p:=by simp only [go_sem,X.h,List.map_cons,List.length_cons,List.length_map,List.getElem?_cons_zero,List.getElem?_cons_succ,Int.toNat_zero,Int.toNat_one,List.drop_succ_cons,List.drop_zero]<;>first|((repeat' (first|with_reducible_and_instances rfl|refine Q6 ?_ ?_ ?_|refine Q4 ?_|refine Q8 ?_|refine Q7 ?_ ?_|refine Qw ?_|refine Qy ?_|refine Q9 ?_|refine Q1 ?_ ?_|refine Q3 ?_ ?_|refine Q5 ?_|refine Qx ?_|(refine Qz ?_;omega)));all_goals (first|omega|(simp [JAK];done)))|rfl):p:=h
theorem V11 {p:Prop}(h:p:=by simp only [go_sem,X.h]<;>first|((repeat' (first|with_reducible_and_instances rfl|refine Q6 ?_ ?_ ?_|refine Q4 ?_|refine Q8 ?_|refine Q7 ?_ ?_|refine Qw ?_|refine Qy ?_|refine Q9 ?_|refine Q1 ?_ ?_|refine Q3 ?_ ?_|refine Q5 ?_|refine Qx ?_|(refine Qz ?_;omega)));(rw [J5,if_pos hh,Zi,List.take_of_length_le (by simp [List.length_take,List.length_drop];omega)];simp [List.map_take,List.map_drop,JAy]))|rfl):p:=h
theorem V12 {p:Prop}(h:p:=by simp only [go_sem,l5,l7,l42,l43,l91,l11,hend,List.nil_append,hend,List.nil_append,hs,ZG,hlk,JBR,hg,hls,List.nil_append]<;>first|((repeat' (first|with_reducible_and_instances rfl|refine Q6 ?_ ?_ ?_|refine Q4 ?_|refine Q8 ?_|refine Q7 ?_ ?_|refine Qw ?_|refine Qy ?_|refine Q9 ?_|refine Q1 ?_ ?_|refine Q3 ?_ ?_|refine Q5 ?_|refine Qx ?_|(refine Qz ?_;omega)));all_goals rfl)|rfl):p:=h
theorem V13 {p:Prop}(h:p:=by simp only [go_sem,YK]<;>first|rfl|((repeat' (first|with_reducible_and_instances rfl|refine Q6 ?_ ?_ ?_|refine Q4 ?_|refine Q8 ?_|refine Q7 ?_ ?_|refine Qw ?_|refine Qy ?_|refine Q9 ?_|refine Q1 ?_ ?_|refine Q3 ?_ ?_|refine Q5 ?_|refine Qx ?_|(refine Qz ?_;omega)));(first|rfl|(refine Eq.trans ?_ (List.take_of_length_le (by simp)).symm;simp [YK,List.map_set,Qr])))):p:=h
theorem V14 {p:Prop}(h:p:=by simp only [go_sem,l5,l7,l42,l43,l91,l11,hend,List.nil_append,hend,List.nil_append,hs,ZG,hlk,JBR,hg]<;>first|((repeat' (first|with_reducible_and_instances rfl|refine Q6 ?_ ?_ ?_|refine Q4 ?_|refine Q8 ?_|refine Q7 ?_ ?_|refine Qw ?_|refine Qy ?_|refine Q9 ?_|refine Q1 ?_ ?_|refine Q3 ?_ ?_|refine Q5 ?_|refine Qx ?_|(refine Qz ?_;omega)));all_goals rfl)|rfl):p:=h
theorem V15 {p:Prop}(h:p:=by exact ⟨by first|exact JV.pure rfl|exact JV.of rfl rfl|exact JV.nil _|exact JV.int (by first|omega|(simp;done)|(simp;omega))|exact JV.fptW rfl ⟨by first|exact .inl rfl|exact .inr rfl,by first|exact .inl rfl|exact .inr rfl,by first|exact .inl rfl|exact .inr rfl,by first|exact .inl rfl|exact .inr rfl,by first|exact .inl rfl|exact .inr rfl,by first|exact .inl rfl|exact .inr rfl,trivial⟩,trivial⟩):p:=h
theorem Z3 {p:Prop}(h:p:=by simp only [go_sem,X.h,List.map_cons,List.length_cons,List.length_map,List.getElem?_cons_zero,List.getElem?_cons_succ,Int.toNat_zero,Int.toNat_one,List.drop_succ_cons,List.drop_zero];(try simp (disch:=omega) only [if_pos]);(try simp only [go_sem,X.h,List.map_cons,List.length_cons,List.length_map,List.getElem?_cons_zero,List.getElem?_cons_succ,Int.toNat_zero,Int.toNat_one,List.drop_succ_cons,List.drop_zero])<;> rfl):p:=h
theorem V17 {p:Prop}(h:p:=by simp only [go_sem,X.h,Bool.not_false,Bool.not_true,Int.toNat_zero]<;>first|((repeat' (first|with_reducible_and_instances rfl|refine Q6 ?_ ?_ ?_|refine Q4 ?_|refine Q8 ?_|refine Q7 ?_ ?_|refine Qw ?_|refine Qy ?_|refine Q9 ?_|refine Q1 ?_ ?_|refine Q3 ?_ ?_|refine Q5 ?_|refine Qx ?_|(refine Qz ?_;omega)));all_goals (first|omega|(rw [hvt];omega)))|rfl):p:=h
theorem V18 {p:Prop}(h:p:=by exact ⟨by first|exact JV.pure rfl|exact JV.of rfl rfl|exact JV.nil _|exact JV.int (by first|omega|(simp;done)|(simp;omega)),by first|exact JV.pure rfl|exact JV.of rfl rfl|exact JV.nil _|exact JV.int (by first|omega|(simp;done)|(simp;omega)),by first|exact JV.pure rfl|exact JV.of rfl rfl|exact JV.nil _|exact JV.int (by first|omega|(simp;done)|(simp;omega)),trivial⟩):p:=h
theorem V19 {p:Prop}(h:p:=by simp only [go_sem,X.h]<;>first|((repeat' (first|with_reducible_and_instances rfl|refine Q6 ?_ ?_ ?_|refine Q4 ?_|refine Q8 ?_|refine Q7 ?_ ?_|refine Qw ?_|refine Qy ?_|refine Q9 ?_|refine Q1 ?_ ?_|refine Q3 ?_ ?_|refine Q5 ?_|refine Qx ?_|(refine Qz ?_;omega)));all_goals (first|omega|(rw [hts];simp [Zt];done)))|rfl):p:=h
theorem V20 {p:Prop}(h:p:=by simp only [go_sem,X.h,repD,JAA]<;>first|((repeat' (first|with_reducible_and_instances rfl|refine Q6 ?_ ?_ ?_|refine Q4 ?_|refine Q8 ?_|refine Q7 ?_ ?_|refine Qw ?_|refine Qy ?_|refine Q9 ?_|refine Q1 ?_ ?_|refine Q3 ?_ ?_|refine Q5 ?_|refine Qx ?_|(refine Qz ?_;omega)));all_goals (simp [e,JGv]))|rfl):p:=h
theorem V21 {p:Prop}(h:p:=by simp only [go_sem,X.h]<;>first|((repeat' (first|with_reducible_and_instances rfl|refine Q6 ?_ ?_ ?_|refine Q4 ?_|refine Q8 ?_|refine Q7 ?_ ?_|refine Qw ?_|refine Qy ?_|refine Q9 ?_|refine Q1 ?_ ?_|refine Q3 ?_ ?_|refine Q5 ?_|refine Qx ?_|(refine Qz ?_;omega)));(all_goals (first|rfl|omega)))|rfl):p:=h
theorem V22 {p:Prop}(h:p:=by simp only [go_sem,X.h,List.map_cons,List.length_cons,List.length_map,List.getElem?_cons_zero,List.getElem?_cons_succ,Int.toNat_zero,Int.toNat_one];(try simp (disch:=omega) only [if_pos]);(try simp only [go_sem,X.h,List.map_cons,List.length_cons,List.length_map,List.getElem?_cons_zero,List.getElem?_cons_succ,Int.toNat_zero,Int.toNat_one])<;> rfl):p:=h
theorem V23 {p:Prop}(h:p:=by exact ⟨by first|exact JV.pure rfl|exact JV.nil _|exact JV.int (by first|omega|(simp;done)|(simp;omega)),by first|exact JV.pure rfl|exact JV.nil _|exact JV.int (by first|omega|(simp;done)|(simp;omega)),by first|exact JV.pure rfl|exact JV.nil _|exact JV.int (by first|omega|(simp;done)|(simp;omega)),trivial⟩):p:=h
theorem V24 {p:Prop}(h:p:=by simp only [go_sem,YK];(try simp (disch:=omega) only [if_pos]);(try simp only [go_sem,YK]);rw [if_pos];(focus (simp only [go_sem,YK]<;>rfl));repeat (first|exact ZB|assumption|refine Y6 ?_ ?_|refine Y8 ?_|refine ZD ?_|exact ZA (fun _=>rfl)|exact ZC rfl|refine Y7 rfl ?_)):p:=h
theorem V25 {p:Prop}(h:p:=by simp only [go_sem,X.h,List.map_cons,List.map_nil,List.length_cons,List.length_nil,List.getElem?_cons_zero,Int.toNat_zero];(try simp (disch:=omega) only [if_pos]);(try simp only [go_sem,X.h,List.map_cons,List.map_nil,List.length_cons,List.length_nil,List.getElem?_cons_zero,Int.toNat_zero])<;> rfl):p:=h
theorem Yw {p:Prop}(h:p:=by simp only [go_sem,X.h,List.map_cons,List.length_cons,List.length_map,List.getElem?_cons_zero,List.getElem?_cons_succ,Int.toNat_zero,Int.toNat_one,List.drop_succ_cons,List.drop_zero];(try simp (disch:=omega) only [IntWalk.i64_in,IntWalk.u64_in,IntWalk.i32_in,IntWalk.u8_in,if_neg,if_pos])<;> rfl):p:=h
theorem V27 {p:Prop}(h:p:=by exact ⟨by first|exact JV.pure rfl|exact JV.of rfl rfl|exact JV.nil _|exact JV.int (by first|omega|(simp;done)|(simp;omega)),by first|exact JV.pure rfl|exact JV.of rfl rfl|exact JV.nil _|exact JV.int (by first|omega|(simp;done)|(simp;omega)),trivial⟩):p:=h
theorem V28 {p:Prop}(h:p:=by simp only [go_sem,X.h,List.map_cons,List.length_cons,List.length_map,List.getElem?_cons_zero,List.getElem?_cons_succ,Int.toNat_zero,Int.toNat_one,List.drop_succ_cons,List.drop_zero,Int.natCast_zero,JB2,List.map_cons,List.map_nil,List.length_cons,List.length_nil]<;>rfl):p:=h
theorem V29 {p:Prop}(h:p:=by simp only [go_sem,l5,l7,l42,l43,l91,l11,hend,List.nil_append,hend,List.nil_append,hs,ZG,hlk,JBR,hg,hls,List.nil_append];(try simp (disch:=omega) only [IntWalk.i64_in,IntWalk.u64_in,IntWalk.i32_in,IntWalk.u8_in,if_neg,if_pos])<;> rfl):p:=h
theorem V30 {p:Prop}(h:p:=by simp only [go_sem,l5,l7,l42,l43,l91,l11,hs,Ym,hf,Nat.add_zero,hG,hb,hsb,hmul];(try simp (disch:=omega) only [if_pos]);(try simp only [go_sem,l5,l7,l42,l43,l91,l11,hs,Ym,hf,Nat.add_zero,hG,hb,hsb,hmul])<;> rfl):p:=h
theorem V31 {p:Prop}(h:p:=by simp only [go_sem,l5,l7,l42,l43,l91,l11,hend,List.nil_append,hend,List.nil_append,hs,ZG,hlk,JBR,hg];(try simp (disch:=omega) only [IntWalk.i64_in,IntWalk.u64_in,IntWalk.i32_in,IntWalk.u8_in,if_neg,if_pos])<;> rfl):p:=h
theorem Z4 {p:Prop}(h:p:=by exact ⟨by first|exact JV.pure rfl|exact JV.nil _|exact JV.int (by first|omega|(simp;done)|(simp;omega)),by first|exact JV.pure rfl|exact JV.nil _|exact JV.int (by first|omega|(simp;done)|(simp;omega)),trivial⟩):p:=h
theorem V33 {p:Prop}(h:p:=by simp only [go_sem,X.h,List.map_cons,List.length_cons,List.length_map,List.getElem?_cons_zero,List.getElem?_cons_succ,Int.toNat_zero,Int.toNat_one,List.drop_succ_cons,List.drop_zero,Int.natCast_zero,Jy]<;>rfl):p:=h
theorem V34 {p:Prop}(h:p:=by simp only [go_sem,l5,l7,l42,l43,l91,l11,hs,Ym,hf,Nat.add_zero,hG,hb,hsb,hmul,hg];(try simp (disch:=omega) only [IntWalk.i64_in,IntWalk.u64_in,IntWalk.i32_in,IntWalk.u8_in,if_neg,if_pos])<;> rfl):p:=h
theorem V35 {p:Prop}(h:p:=by simp only [go_sem,X.h,List.map_cons,List.length_cons,List.length_map,List.getElem?_cons_zero,List.getElem?_cons_succ,Int.toNat_zero,Int.toNat_one,List.drop_succ_cons,List.drop_zero]<;>first|exact QB|rfl):p:=h
theorem V36 {p:Prop}(h:p:=by simp only [go_sem,hc1,hc2,gx,gy,gl,t1,t2,List.getElem?_set_ne hne];(try simp (disch:=omega) only [if_pos]);(try simp only [go_sem,hc1,hc2,gx,gy,gl,t1,t2,List.getElem?_set_ne hne])<;> rfl):p:=h
theorem V37 {p:Prop}(h:p:=by intro p hp;simp only [List.mem_cons,List.not_mem_nil,or_false] at hp;rcases hp with rfl|rfl<;>(first|exact ⟨_,rfl,JIb _⟩|exact ⟨_,rfl,_,rfl,by simp [Qp]⟩|exact ⟨_,rfl,_,rfl⟩)):p:=h
theorem JQ {p:Prop}(h:p:=by simp only [go_sem,X.h,List.map_cons,List.length_cons,List.length_map,List.getElem?_cons_zero,List.getElem?_cons_succ,Int.toNat_zero,Int.toNat_one,List.drop_succ_cons,List.drop_zero]<;>rfl):p:=h
theorem V39 {p:Prop}(h:p:=by intro p hp;simp only [List.mem_cons,List.not_mem_nil,or_false] at hp;rcases hp with rfl|rfl<;>(first|exact ⟨_,rfl,JIb _⟩|exact ⟨_,rfl,_,rfl,by simp⟩|exact ⟨_,rfl,_,rfl⟩)):p:=h
theorem V40 {p:Prop}(h:p:=by simp only [go_sem,hg1,t1,t2,fl,fx,fy,List.getElem?_set_ne hne];(try simp (disch:=omega) only [if_pos]);(try simp only [go_sem,hg1,t1,t2,fl,fx,fy,List.getElem?_set_ne hne])<;> rfl):p:=h
theorem V41 {p:Prop}(h:p:=by simp only [go_sem,hc1,hc2,gx,gy,gl,t1,t2,List.getElem?_set_ne hne];(try simp (disch:=omega) only [IntWalk.i64_in,IntWalk.u64_in,IntWalk.i32_in,IntWalk.u8_in,if_neg,if_pos])<;> rfl):p:=h
theorem V42 {p:Prop}(h:p:=by simp only [go_sem,X.h,Bool.not_false,Bool.not_true,Int.toNat_zero];(try simp (disch:=omega) only [IntWalk.i64_in,IntWalk.u64_in,IntWalk.i32_in,IntWalk.u8_in,if_neg,if_pos])<;> rfl):p:=h
theorem V43 {p:Prop}(h:p:=by simp only [go_sem,hg1,t1,t2,fl,fx,fy,List.getElem?_set_ne hne];(try simp (disch:=omega) only [IntWalk.i64_in,IntWalk.u64_in,IntWalk.i32_in,IntWalk.u8_in,if_neg,if_pos])<;> rfl):p:=h
theorem V44 {p:Prop}(h:p:=by simp only [go_sem,List.nil_append,List.append_nil,if_neg h10,hmg];(try simp (disch:=omega) only [IntWalk.i64_in,IntWalk.u64_in,IntWalk.i32_in,IntWalk.u8_in,if_neg,if_pos])<;> rfl):p:=h
theorem V45 {p:Prop}(h:p:=by first|rfl|(simp only [List.all_cons,List.all_nil,inn_bk,Bool.and_true,Bool.true_and];done)|(simp only [List.all_cons,List.all_nil,inn_bk,Bool.and_true,Bool.true_and]<;>rfl)):p:=h
theorem V46 {p:Prop}(h:p:=by simp only [go_sem,ga,gb,gl,t1,t2,List.getElem?_set_ne hne];(try simp (disch:=omega) only [if_pos]);(try simp only [go_sem,ga,gb,gl,t1,t2,List.getElem?_set_ne hne])<;> rfl):p:=h
theorem V47 {p:Prop}(h:p:=by simp only [go_sem,gx,gy,gl,t1,t2,List.getElem?_set_ne hne];(try simp (disch:=omega) only [if_pos]);(try simp only [go_sem,gx,gy,gl,t1,t2,List.getElem?_set_ne hne])<;> rfl):p:=h
theorem V48 {p:Prop}(h:p:=by simp only [go_sem,X.h,and_false,Int.toNat_zero,Nat.sub_zero];(try simp (disch:=omega) only [if_pos]);(try simp only [go_sem,X.h,and_false,Int.toNat_zero,Nat.sub_zero])<;> rfl):p:=h
theorem V49 {p:Prop}(h:p:=by simp only [go_sem,ga,gb,gl,t1,t2,List.getElem?_set_ne hne];(try simp (disch:=omega) only [IntWalk.i64_in,IntWalk.u64_in,IntWalk.i32_in,IntWalk.u8_in,if_neg,if_pos])<;> rfl):p:=h
theorem V50 {p:Prop}(h:p:=by simp only [go_sem,gx,gy,gl,t1,t2,List.getElem?_set_ne hne];(try simp (disch:=omega) only [IntWalk.i64_in,IntWalk.u64_in,IntWalk.i32_in,IntWalk.u8_in,if_neg,if_pos])<;> rfl):p:=h
theorem V51 {p:Prop}(h:p:=by simp only [go_sem,X.h,Bool.not_false,Bool.not_true];(try simp (disch:=omega) only [IntWalk.i64_in,IntWalk.u64_in,IntWalk.i32_in,IntWalk.u8_in,if_neg,if_pos])<;> rfl):p:=h
theorem V52 {p:Prop}(h:p:=by simp only [go_sem,JD5 JDG,JD4 JDG,kgs.1,kgs.2.1,kgs.2.2.1,kgs.2.2.2.1,kgs.2.2.2.2.1,kgs.2.2.2.2.2,JDG,Bool.false_eq_true,if_false,List.map_append]<;>rfl):p:=h
theorem V53 {p:Prop}(h:p:=by exact ⟨by first|exact JV.pure rfl|exact JV.nil _|exact JV.int (by omega),by first|exact JV.pure rfl|exact JV.nil _|exact JV.int (by omega),JKr _ _ _⟩):p:=h
theorem V54 {p:Prop}(h:p:=by simp only [go_sem,X.h,List.length_map,Option.map_some];(try simp (disch:=omega) only [if_pos]);(try simp only [go_sem,X.h,List.length_map,Option.map_some])<;> rfl):p:=h
theorem V55 {p:Prop}(h:p:=by intro p hp n hn;simp only [List.mem_cons,List.not_mem_nil,or_false] at hp;rcases hp with rfl|rfl<;>(simp [look] at hn;subst hn;simp only [go_sem]<;>rfl)):p:=h
theorem V56 {p:Prop}(h:p:=by simp only [go_sem,X.h,JBU,gt_iff_lt];(try simp (disch:=omega) only [IntWalk.i64_in,IntWalk.u64_in,IntWalk.i32_in,IntWalk.u8_in,if_neg,if_pos])<;> rfl):p:=h
theorem V57 {p:Prop}(h:p:=by simp only [go_sem,X.h,List.map_cons,List.length_cons,List.length_map,List.getElem?_cons_zero,List.getElem?_cons_succ,Int.toNat_zero,Int.toNat_one]<;>rfl):p:=h
theorem V58 {p:Prop}(h:p:=by simp only [go_sem,ha,hb,List.getElem?_set_ne hab];(try simp (disch:=omega) only [if_pos]);(try simp only [go_sem,ha,hb,List.getElem?_set_ne hab])<;> rfl):p:=h
theorem V59 {p:Prop}(h:p:=by simp only [go_sem,X.h,Int.toNat_zero];(try simp (disch:=omega) only [IntWalk.i64_in,IntWalk.u64_in,IntWalk.i32_in,IntWalk.u8_in,if_neg,if_pos])<;> rfl):p:=h
theorem V60 {p:Prop}(h:p:=by simp only [go_sem,X.h,repD,JAA];(try simp (disch:=omega) only [IntWalk.i64_in,IntWalk.u64_in,IntWalk.i32_in,IntWalk.u8_in,if_neg,if_pos])<;> rfl):p:=h
theorem V61 {p:Prop}(h:p:=by simp only [go_sem,l5,l7,l42,l43,l91,l11,hend,List.nil_append,hend,List.nil_append,hs,ZG,hlk,JBR,hg,hls,List.nil_append]<;>rfl):p:=h
theorem V62 {p:Prop}(h:p:=by simp only [go_sem,l5,l7,l42,l43,l91,l11,hend,List.nil_append,e,numOf,hg,hla,hset,hnx,List.map_append,List.map_cons,List.map_nil]<;>rfl):p:=h
theorem V63 {p:Prop}(h:p:=by simp only [go_sem,l5,l7,l42,l43,l91,l11,hend,List.nil_append,hend,List.nil_append,hs,ZG,hlk,JBR,hg]<;>first|rfl|exact QB):p:=h
theorem V64 {p:Prop}(h:p:=by simp only [go_sem,X.h,numOf];(try simp (disch:=omega) only [IntWalk.i64_in,IntWalk.u64_in,IntWalk.i32_in,IntWalk.u8_in,if_neg,if_pos])<;> rfl):p:=h
theorem V65 {p:Prop}(h:p:=by simp only [go_sem,l5,l7,l42,l43,l91,l11,hend,List.nil_append,hend,List.nil_append,hs,ZG,hlk,e1,Nat.sub_zero,Nat.zero_add]<;>rfl):p:=h
theorem Jx {p:Prop}(h:p:=by simp only [go_sem,X.h];(try simp (disch:=omega) only [IntWalk.i64_in,IntWalk.u64_in,IntWalk.i32_in,IntWalk.u8_in,if_neg,if_pos])<;> rfl):p:=h
theorem V67 {p:Prop}(h:p:=by simp only [go_sem,X.h,JBU,gt_iff_lt];(try simp (disch:=omega) only [if_pos]);(try simp only [go_sem,X.h,JBU,gt_iff_lt])<;> rfl):p:=h
theorem V68 {p:Prop}(h:p:=by simp only [go_sem];(try simp (disch:=omega) only [IntWalk.i64_in,IntWalk.u64_in,IntWalk.i32_in,IntWalk.u8_in,if_neg,if_pos])<;> rfl):p:=h
theorem V69 {p:Prop}(h:p:=by simp only [go_sem,X.h,List.length_map];(try simp (disch:=omega) only [if_pos]);(try simp only [go_sem,X.h,List.length_map])<;> rfl):p:=h
theorem V70 {p:Prop}(h:p:=by simp only [go_sem,X.h,Int.toNat_zero];(try simp (disch:=omega) only [if_pos]);(try simp only [go_sem,X.h,Int.toNat_zero])<;> rfl):p:=h
theorem Yx {p:Prop}(h:p:=by simp only [go_sem,X.h,List.map_cons,List.map_nil,List.length_cons,List.length_nil,List.getElem?_cons_zero,Int.toNat_zero]<;>rfl):p:=h
theorem YO {p:Prop}(h:p:=by simp only [go_sem,l5,l7,l42,l43,l91,l11,hend,List.nil_append,hend,List.nil_append,hs,ZG,hlk,JBR,hg]<;>rfl):p:=h
theorem YQ {p:Prop}(h:p:=by exact ⟨by first|exact JV.pure rfl|exact JV.nil _|exact JV.int (by first|omega|(simp;done)|(simp;omega)),trivial⟩):p:=h
theorem V74 {p:Prop}(h:p:=by simp only [go_sem,X.h,repD,JAA];(try simp (disch:=omega) only [if_pos]);(try simp only [go_sem,X.h,repD,JAA])<;> rfl):p:=h
theorem V75 {p:Prop}(h:p:=by simp only [go_sem,List.nil_append,List.append_nil,if_neg h10,if_pos,Int.natCast_zero,Int.mul_zero,Int.add_zero]<;>rfl):p:=h
theorem V76 {p:Prop}(h:p:=by simp only [go_sem,l5,l7,l42,l43,l91,l11,hend,List.nil_append,e,numOf,hg,List.take_zero,List.append_nil]<;>rfl):p:=h
theorem V77 {p:Prop}(h:p:=by intro p hp hn;simp only [List.mem_cons,List.not_mem_nil,or_false] at hp;rcases hp with rfl|rfl<;>simp [look] at hn):p:=h
theorem V78 {p:Prop}(h:p:=by first|(simp [Z8];done)|(simp only [List.length_append,List.length_nil,Z8,List.length_map];omega)):p:=h
theorem V79 {p:Prop}(h:p:=by simp only [go_sem,l5,l7,l42,l43,l91,l11,hend,List.nil_append,hend,List.nil_append,hs,ZG,hlk]<;>rfl):p:=h
theorem V80 {p:Prop}(h:p:=by simp only [go_sem,X.h,numOf];(try simp (disch:=omega) only [if_pos]);(try simp only [go_sem,X.h,numOf])<;> rfl):p:=h
theorem V81 {p:Prop}(h:p:=by simp only [go_sem,YK];(try simp (disch:=omega) only [if_pos]);(try simp only [go_sem,YK])<;> rfl):p:=h
theorem Zq {p:Prop}(h:p:=by simp only [go_sem,l5,l7,l42,l43,l91,l11,hs,Ym,hf,Nat.add_zero,hG,hb,hsb,hmul,hg]<;>rfl):p:=h
theorem V83 {p:Prop}(h:p:=by simp only [go_sem,l5,l7,l42,l43,l91,l11,hend,List.nil_append,hs,ZG,hlk,hg,hcs]<;>rfl):p:=h
theorem V84 {p:Prop}(h:p:=by first|exact .inr ⟨rfl,hs,by simp only [go_sem]<;>rfl⟩|exact .inl (by simp only [go_sem]<;>rfl)):p:=h
theorem QG {p:Prop}(h:p:=by simp only [go_sem,X.h];(try simp (disch:=omega) only [if_pos]);(try simp only [go_sem,X.h])<;> rfl):p:=h
theorem V86 {p:Prop}(h:p:=by simp only [go_sem,l5,l7,l42,l43,l91,l11,hs,Ym,hf,Nat.add_zero,hG,hb,hsb,hmul]<;>rfl):p:=h
theorem V87 {p:Prop}(h:p:=by simp only [go_sem,l5,l7,l42,l43,l91,l11,hend,List.nil_append,hs,ZG,hlk,hcs]<;>rfl):p:=h
theorem V88 {p:Prop}(h:p:=by simp only [go_sem,l5,l7,l42,l43,l91,l11,hend,List.nil_append,hs,ZG,hlk,hg]<;>rfl):p:=h
theorem V89 {p:Prop}(h:p:=by simp only [go_sem,l5,l7,l42,l43,l91,l11,hend,List.nil_append,hend,List.nil_append]<;>rfl):p:=h
theorem V90 {p:Prop}(h:p:=by exact ⟨by first|exact JV.pure rfl|exact JV.nil _|exact JV.int (by omega),JKr _ _ _⟩):p:=h
theorem V91 {p:Prop}(h:p:=by simp only [go_sem,l5,l7,l42,l43,l91,l11,hs,Ym,hf,Nat.add_zero,hG,hset]<;>rfl):p:=h
theorem V92 {p:Prop}(h:p:=by simp only [go_sem,l5,l7,l42,l43,l91,l11,hs,Ym,hf,Nat.add_zero,hset]<;>rfl):p:=h
theorem V93 {p:Prop}(h:p:=by simp only [go_sem,l5,l7,l42,l43,l91,l11,hs,Ym,hf,Nat.add_zero,hG]<;>rfl):p:=h
theorem V94 {p:Prop}(h:p:=by simp only [go_sem,X.h,and_false,Int.toNat_zero,Nat.sub_zero,List.tail_cons]<;>rfl):p:=h
theorem ZW {p:Prop}(h:p:=by simp only [go_sem,List.nil_append,List.append_nil,JFT,if_neg h10]<;>rfl):p:=h
theorem V96 {p:Prop}(h:p:=by simp only [go_sem,hc1,hc2,gx,gy,gl,t1,t2,List.getElem?_set_ne hne]<;>rfl):p:=h
theorem QV {p:Prop}(h:p:=by simp only [go_sem,X.h,Bool.not_false,Bool.not_true,Int.toNat_zero]<;>rfl):p:=h
theorem V98 {p:Prop}(h:p:=by simp only [go_sem,hg1,t1,t2,fl,fx,fy,List.getElem?_set_ne hne]<;>rfl):p:=h
theorem V99 {p:Prop}(h:p:=by simp only [go_sem,List.nil_append,List.append_nil,if_neg h10,hmg]<;>rfl):p:=h
theorem JAr {p:Prop}(h:p:=by simp only [go_sem,l5,l7,l42,l43,l91,l11,hend,List.nil_append]<;>rfl):p:=h
theorem JAs {p:Prop}(h:p:=by simp only [go_sem,if_pos,if_neg,List.nil_append,List.append_nil]<;>rfl):p:=h
theorem JHw {p:Prop}(h:p:=by simp only [go_sem,Int.natCast_zero,List.take_zero,List.map_nil]<;>rfl):p:=h
theorem JBj {p:Prop}(h:p:=by simp only [go_sem,ga,gb,gl,t1,t2,List.getElem?_set_ne hne]<;>rfl):p:=h
theorem JCB {p:Prop}(h:p:=by simp only [go_sem,gx,gy,gl,t1,t2,List.getElem?_set_ne hne]<;>rfl):p:=h
theorem Zb {p:Prop}(h:p:=by simp only [go_sem,List.nil_append,List.append_nil,if_neg h10]<;>rfl):p:=h
theorem JCC {p:Prop}(h:p:=by simp only [go_sem,X.h,and_false,Int.toNat_zero,Nat.sub_zero]<;>rfl):p:=h
theorem JF4 {p:Prop}(h:p:=by simp only [go_sem,X.h,JBU,gt_iff_lt]<;>first|rfl|exact QB):p:=h
theorem JF5 {p:Prop}(h:p:=by simp only [List.length_cons,List.length_nil,Tryz.ntmps146];omega):p:=h
theorem JEe {p:Prop}(h:p:=by simp only [List.length_cons,List.length_nil,Tryz.ntmps109];omega):p:=h
theorem JDd {p:Prop}(h:p:=by simp only [List.length_cons,List.length_nil,Tryz.ntmps110];omega):p:=h
theorem JHx {p:Prop}(h:p:=by simp only [List.length_cons,List.length_nil,Tryz.ntmps152];omega):p:=h
theorem JHy {p:Prop}(h:p:=by simp only [List.length_cons,List.length_nil,Tryz.ntmps112];omega):p:=h
theorem JHz {p:Prop}(h:p:=by simp only [go_sem,X.h,List.length_map,List.length_range]<;>rfl):p:=h
theorem JH0 {p:Prop}(h:p:=by simp only [List.length_cons,List.length_nil,Tryz.ntmps53];omega):p:=h
theorem JEf {p:Prop}(h:p:=by simp only [List.length_cons,List.length_nil,Tryz.ntmps54];omega):p:=h
theorem JF6 {p:Prop}(h:p:=by simp only [List.length_cons,List.length_nil,Tryz.ntmps52];omega):p:=h
theorem JH1 {p:Prop}(h:p:=by first|(simp [JKg hlen];done)|(simp [JKg hlen];omega)):p:=h
theorem JF7 {p:Prop}(h:p:=by simp only [go_sem,JMn,JMW]<;>first|rfl|exact QB):p:=h
theorem JCu {p:Prop}(h:p:=by simp only [go_sem,X.h,List.length_map,Option.map_some]<;>rfl):p:=h
theorem JCv {p:Prop}(h:p:=by simp only [go_sem,X.h,Bool.not_false,Int.toNat_zero]<;>rfl):p:=h
theorem JF8 {p:Prop}(h:p:=by simp only [go_sem,JLQ,JLP]<;>first|rfl|exact QB):p:=h
theorem Zc {p:Prop}(h:p:=by simp only [go_sem,X.h,Yb,JBU,Bool.not_not]<;>rfl):p:=h
theorem YX {p:Prop}(h:p:=by simp only [go_sem,X.h,Bool.not_false,Bool.not_true]<;>rfl):p:=h
theorem JF9 {p:Prop}(h:p:=by first|(simp [Z8];done)|(simp [Z8];omega)):p:=h
theorem JAt {p:Prop}(h:p:=by simp only [go_sem,List.length_map,List.length_range]<;>rfl):p:=h
theorem JCw {p:Prop}(h:p:=by simp only [go_sem,ha,hb,List.getElem?_set_ne hab]<;>rfl):p:=h
theorem JGA {p:Prop}(h:p:=by simp only [go_sem,X.h,numOf]<;>first|exact QB|rfl):p:=h
theorem JH3 {p:Prop}(h:p:=by simp only [go_sem,X.h,JAA]<;>first|rfl|exact QB):p:=h
theorem Qe {p:Prop}(h:p:=by simp only [go_sem,List.length_map,Bool.not_true]<;>rfl):p:=h
theorem JCD {p:Prop}(h:p:=by simp only [go_sem,X.h,JCZ]<;>first|rfl|exact QB):p:=h
theorem JCx {p:Prop}(h:p:=by simp only [go_sem,l5,l7,l42,l43,l91,l11]<;>rfl):p:=h
theorem Qk {p:Prop}(h:p:=by simp only [go_sem,X.h]<;>first|rfl|exact QB):p:=h
theorem Yi {p:Prop}(h:p:=by simp only [go_sem,X.h]<;>first|exact QB|rfl):p:=h
theorem YN {p:Prop}(h:p:=by simp only [go_sem,X.h,JBU,gt_iff_lt]<;>rfl):p:=h
theorem JGB {p:Prop}(h:p:=by simp only [go_sem,X.h,List.append_assoc]<;>rfl):p:=h
theorem JGC {p:Prop}(h:p:=by have:=(List.getElem?_eq_some_iff.1 hi).1;omega):p:=h
theorem Zz {p:Prop}(h:p:=by simp only [go_sem,X.h,List.length_map]<;>rfl):p:=h
theorem Yq {p:Prop}(h:p:=by simp only [go_sem,X.h,Int.toNat_zero]<;>rfl):p:=h
theorem JDe {p:Prop}(h:p:=by simp only [go_sem,X.h,Bool.not_false]<;>rfl):p:=h
theorem JCy {p:Prop}(h:p:=by simp only [go_sem,JA8,Bool.not_not]<;>rfl):p:=h
theorem Z0 {p:Prop}(h:p:=by simp only [go_sem,Zl,Bool.not_and]<;>rfl):p:=h
theorem Y3 {p:Prop}(h:p:=by simp only [go_sem]<;>first|rfl|exact QB):p:=h
theorem JAu {p:Prop}(h:p:=by simp only [go_sem,JBU,gt_iff_lt]<;>rfl):p:=h
theorem QF {p:Prop}(h:p:=by simp only [go_sem,X.h,Bool.not_true]<;>rfl):p:=h
theorem Z1 {p:Prop}(h:p:=by simp only [go_sem,X.h,JA5,JAm]<;>rfl):p:=h
theorem Yj {p:Prop}(h:p:=by simp only [go_sem,JMn,JMW]<;>rfl):p:=h
theorem Y4 {p:Prop}(h:p:=by simp only [go_sem,X.h,Bool.not_not]<;>rfl):p:=h
theorem JCE {p:Prop}(h:p:=by simp only [go_sem,X.h,JAm,JAA]<;>rfl):p:=h
theorem J8 {p:Prop}(h:p:=by simp only [go_sem,X.h,repD,JAA]<;>rfl):p:=h
theorem JCF {p:Prop}(h:p:=by simp only [go_sem,List.length_map]<;>rfl):p:=h
theorem ZN {p:Prop}(h:p:=by simp only [go_sem,JLQ,JLP]<;>rfl):p:=h
theorem Y5 {p:Prop}(h:p:=by simp only [go_sem,Bool.not_false]<;>rfl):p:=h
theorem YY {p:Prop}(h:p:=by simp only [go_sem,Bool.not_true]<;>rfl):p:=h
theorem JGD {p:Prop}(h:p:=by first|rfl|exact JTO _ _ _ _ _ _):p:=h
theorem Qi {p:Prop}(h:p:=by simp only [go_sem,X.h,numOf]<;>rfl):p:=h
theorem Zd {p:Prop}(h:p:=by simp only [go_sem,X.h,JAA]<;>rfl):p:=h
theorem Z2 {p:Prop}(h:p:=by simp only [go_sem,X.h,JCZ]<;>rfl):p:=h
theorem JEg {p:Prop}(h:p:=by simp only [go_sem,X.h,JHj]<;>rfl):p:=h
theorem JEh {p:Prop}(h:p:=by simp only [go_sem,gt_iff_lt]<;>rfl):p:=h
theorem JBk {p:Prop}(h:p:=by simp only [go_sem,X.h,JAm]<;>rfl):p:=h
theorem JDf {p:Prop}(h:p:=by simp only [go_sem,Yg]<;>rfl):p:=h
theorem Yk {p:Prop}(h:p:=by simp only [go_sem,YK]<;>rfl):p:=h
theorem JC {p:Prop}(h:p:=by simp only [go_sem,X.h]<;>rfl):p:=h
theorem JEi {p:Prop}(h:p:=by simp only [go_sem,inD]<;>rfl):p:=h
theorem JEj {p:Prop}(h:p:=by simp only [go_sem,Q0]<;>rfl):p:=h
theorem JBD {p:Prop}(h:p:=by rw [JHP];simp [hl]):p:=h
theorem JF {p:Prop}(h:p:=by simp only [go_sem]<;>rfl):p:=h
theorem JBl {p:Prop}(h:p:=by intro d hd;cases hd):p:=h
theorem Jr {p:Prop}(h:p:=by simp only [go_sem]):p:=h
theorem JBm {p:Prop}(h:p:=by simpa using hl):p:=h
theorem Qb {p:Prop}(h:p:=by decide +kernel):p:=h
theorem JAW {p:Prop}(h:p:=by rw [h1];rfl):p:=h
theorem YF {p:Prop}(h:p:=by simp;omega):p:=h
theorem JL {p:Prop}(h:p:=by kernel_rfl):p:=h
theorem Ze {p:Prop}(h:p:=by simp [hl]):p:=h
end Go

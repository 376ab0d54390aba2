/- Contracts of the card: all repairs that can be made. -/
import Derived.Test.YtpmdcdglfeicaaaGreatDoorD1
import Derived.Test.YtpmdcdglfeicaaaGreatDoorB13
import Derived.Test.YtpmdcdglfeicaaaGreatDoorB5
import Derived.Test.YtpmdcdglfeicaaaGreatDoorB12
import Derived.Test.YtpmdcdglfeicaaaGreatDoorB7
import Derived.Test.YtpmdcdglfeicaaaGreatDoorB9
import Derived.Test.YtpmdcdglfeicaaaGreatDoorB11
set_option maxRecDepth 20000
set_option maxHeartbeats 16000000
set_option linter.unusedSimpArgs false
set_option linter.unusedVariables false
set_option linter.unusedSectionVars false
set_option linter.deprecated false
namespace Go.Mw.Cd
open Go.Proofs
theorem JQJ (w:JP):Jf Tryz.prog 111 [JAU w] (.leaf (.d (.fn 151 [.pt (JAp w)]))) []:=by
 refine Jq Jj Tryz.func111 rfl (by simp only [List.length_cons,List.length_nil,Tryz.ntmps111];omega) JL rfl ?_
 refine JB.reg ?_
 iterate 2 (refine JA.o ?_)
 refine JA.nil (JB.reg ?_)
 refine JA.frz 1 JF ?_
 iterate 2 (refine JA.o ?_)
 refine JA.nil ?_
 exact Ends.fin [] (rs:=[.tmp 2]) rfl JF Y3
theorem JLO (d:Int)(x:Nat):∀G:List (Int × List Nat),(Yy d x G).length≤G.length+1
 |[]=>by simp [Yy]
 |g::r=>by
  unfold Yy
  split
  ·simp
  ·have:=JLO d x r
   simp only [List.length_cons];omega
theorem JMm (w:JP):∀k,(Yn w k).length≤k
 |0=>Nat.le_refl _
 |k+1=>by
  have:=JMm w k
  have:=JLO (rd w k).day k (Yn w k)
  show (Yy (rd w k).day k (Yn w k)).length≤k+1
  omega
theorem JMy (w:JP){f:AL→AL}(hf:∀x,f (.d x)=.d x):∀l:List (Nat × Nat),(ZO w l).map (fun p=>(p.1,p.2.1,p.2.2.map f))=ZO w l
 |[]=>rfl
 |p::r=>by
  have ih:=JMy w hf r
  simp only [ZO,List.map_cons,ih,hf,List.map_nil]
@[go_sem] theorem JXe (w:JP){f:AL→AL}(hf:(fun x=>f (AL.d x))=AL.d)(l:List (Nat × Nat)):(ZO w l).map (fun p=>(p.1,p.2.1,p.2.2.map f))=ZO w l:=JMy w (congrFun hf) l
theorem JRA (w:JP):ZO w []=[]:=rfl
theorem JPX (w:JP):JAG w 0=[]:=rfl
theorem JPW (w:JP)(k:Nat):JAG w (k+1)=JAG w k++(ZK (Jo w (k:Int))).take ((ofV w (k:Int)).length-1):=by
 rw [JA5,←JJT,List.take_length]
 unfold JAG
 rw [List.range_succ,List.flatMap_append];simp
theorem JRB {w:JP}{k j p i:Nat}(hp:(Jo w (k:Int))[j-1]? = some p)(hi:(Jo w (k:Int))[j]? = some i)(hj:0<j) :
  ZO w (JAG w k++(ZK (Jo w (k:Int))).take (j+1-1))=ZO w (JAG w k++(ZK (Jo w (k:Int))).take (j-1))++[(.int .i64 (i:Int),true,[.d (.i (rd w p).house),.d (.i (rd w p).day),.d (.i (rd w p).shows)])]:=by
 obtain ⟨j,rfl⟩:∃j',j=j'+1:=⟨j-1,by omega⟩
 have hg:=JJz (l:=Jo w (k:Int)) (k:=j) hp hi
 have e:(ZK (Jo w (k:Int))).take (j+1+1-1)=(ZK (Jo w (k:Int))).take (j+1-1)++[(i,p)]:=by
  rw [Nat.add_sub_cancel,Nat.add_sub_cancel,List.take_add_one,hg];rfl
 rw [e,←List.append_assoc,JQ9 w (_++_) [(i,p)]]
 rfl
def ZL (l:List YL):List (List AV):=l.map fun r=>[.leaf (.d (repD r))]
theorem JM5 {w:JP}{a f d:Nat}(h:YT w a d=true):Z7 w a (f+1) d=.lt a d::Z7 w a f (d+1):=by rw [Z7,if_pos h]
theorem JJN {w:JP}{a f d:Nat}(h:¬YT w a d=true):Z7 w a (f+1) d=[]:=by rw [Z7,if_neg h]
theorem kgs:JAY 900=true∧JAY 25=true∧JAY 43=true∧JAY 5=false∧JAY 42=false∧JAY 7=false:=by decide
theorem khs:JCc 900=true∧JCc 25=true∧JCc 7=true:=by decide
theorem JQh (w:JP)(h1:w.rates.length≤1000)(h2:w.readings.length≤1000)(h20:∀h,(Jo w h).length≤39)(hw:QM w=true):Qg Tryz.prog 151 [.leaf (.obj 900),.leaf (.d (.pt (JAp w)))] [(900,.yl)] (lB (ZL (Zw w))):=by
 have l5:∀k,look (Q2 3 0 (Yn w k)) 5=none:=fun k=>JD9 (by omega)
 have l7:∀k,look (Q2 3 0 (Yn w k)) 7=none:=fun k=>JD9 (by omega)
 have l42:∀k,look (Q2 3 0 (Yn w k)) 42=none:=fun k=>JD9 (by omega)
 have l43:∀k,look (Q2 3 0 (Yn w k)) 43=none:=fun k=>JD9 (by omega)
 have l91:∀k,look (Q2 3 0 (Yn w k)) 91=none:=fun k=>JD9 (by omega)
 have l11:∀k,look (Q2 3 0 (Yn w k)) 11=none:=fun k=>JD9 (by omega)
 refine Jq Jj Tryz.func151 rfl (by simp only [List.length_cons,List.length_nil,Tryz.ntmps151];omega) JL rfl ?_
 refine JB.reg ?_
 iterate 2 (refine JA.o1 JCx ?_)
 refine JA.nil (JB.assocS (JB.reg ?_))
 iterate 4 (refine JA.o1 JCx ?_)
 refine JA.nil (JB.blk ?_)
 refine JB.for (w.readings.length) (fun k=>⟨[(0,.leaf (.obj 900)),(1,.leaf (.d (.pt (JAp w)))),(3,.leaf (.obj 25)),(27,.leaf (.d (.sl 3 (w.readings.map Qr)))),(28,.int w.readings.length),(29,.int k)],(900,.yl)::(25,.map (YG 0 (Yn w k)))::Q2 3 0 (Yn w k),lB (ZL (Zw w))⟩) (fun _=>True) ?_ ?_ (fun k hk hX=>?_)
 ·exact JN.trans (JN.kpp [0,1,3,27,28,29] JAY V52) (JN.ob (fun o=>JST (by omega)))
 ·trivial
 ·skip
  refine JB.reg ?_
  refine JA.o1 JCx ?_
  refine JA.nil ?_
  refine JB.cndS JCx (fun hb30=>?_) (fun hb30=>?_)
  ·skip
   have hlt:=Yo hb30
   have hs:=ZU hlt
   refine JB.skipS (JB.blk (JB.reg ?_))
   refine JA.o1 (by simp only [go_sem,l5,l7,l42,l43,l91,l11,hs]<;>rfl) ?_
   refine JA.o1 (by simp only [go_sem,l5,l7,l42,l43,l91,l11,hs];(try simp (disch:=omega) only [if_pos]);(try simp only [go_sem,l5,l7,l42,l43,l91,l11,hs])<;> rfl) ?_
   iterate 4 (refine JA.o1 (by simp only [go_sem,l5,l7,l42,l43,l91,l11,hs]<;>rfl) ?_)
   refine JA.nil ?_
   by_cases hf:∃p,Qh (rd w k).day (Yn w k)=some p
   ·skip
    obtain ⟨⟨i,l⟩,hf⟩:=hf
    have hG:=JJa (e:=3) (JIy hf)
    have hll:l.length≤1000:=by
     have:=JIx w (rd w k).day k
     rw [hf] at this
     simp only [Option.map_some,Option.getD_some] at this
     rw [this]
     exact Nat.le_trans (List.length_filter_le _ _) YF
    have hset:=JOZ (x:=k) (j:=0) hf
    rw [Nat.add_zero] at hset
    refine JB.opk1 13 ?_
    iterate 9 (refine JG.o1 V91 ?_)
    refine JG.o1 (by simp only [go_sem,l5,l7,l42,l43,l91,l11,hs,Ym,hf,Nat.add_zero,hG,hset];(try simp (disch:=omega) only [if_pos]);(try simp only [go_sem,l5,l7,l42,l43,l91,l11,hs,Ym,hf,Nat.add_zero,hG,hset])<;>first|(refine ZQ ⟨by (try simp only [List.length_append,List.length_drop,List.length_take,List.length_map,List.length_cons,List.length_nil,List.length_replicate,List.length_set,List.length_range,Nat.zero_add]);omega,by (try simp only [List.length_append,List.length_drop,List.length_take,List.length_map,List.length_cons,List.length_nil,List.length_replicate,List.length_set,List.length_range,Nat.zero_add]);omega,by repeat (first|exact ZB|assumption|refine Y6 ?_ ?_|refine Y8 ?_|refine ZD ?_|exact ZA (fun _=>rfl)|exact ZC rfl|refine Y7 rfl ?_)⟩ ?_;simp only [go_sem,l5,l7,l42,l43,l91,l11,hs,Ym,hf,Nat.add_zero,hG,hset]<;>rfl)|(refine ZQ ⟨by (try simp only [List.length_append,List.length_drop,List.length_take,List.length_map,List.length_cons,List.length_nil,List.length_replicate,List.length_set,List.length_range,Nat.zero_add]);omega,by repeat (first|exact ZB|assumption|refine Y6 ?_ ?_|refine Y8 ?_|refine ZD ?_|exact ZA (fun _=>rfl)|exact ZC rfl|refine Y7 rfl ?_)⟩ ?_;simp only [go_sem,l5,l7,l42,l43,l91,l11,hs,Ym,hf,Nat.add_zero,hG,hset]<;>rfl)|rfl) ?_
    refine JG.o1 V91 ?_
    refine JG.nil (QK.fin JL JL ?_)
    refine JR.nrm (JB.reg1 ?_)
    refine JA.o1 (by simp only [go_sem,l5,l7,l42,l43,l91,l11,hs,Ym,hf,Nat.add_zero,hG,hset];(try simp (disch:=omega) only [IntWalk.i64_in,IntWalk.u64_in,IntWalk.i32_in,IntWalk.u8_in,if_neg,if_pos])<;> rfl) ?_
    refine JA.o1 V91 ?_
    refine JA.nil ?_
    refine JU.nxt ?_ ?_ ?_
    ·omega
    ·exact JN.trans (JN.kpp [0,1,3,27,28,29] JAY V52) (JRm hf)
    ·trivial
   ·skip
    have hf:Qh (rd w k).day (Yn w k)=none:=by
     cases h:Qh (rd w k).day (Yn w k) with
     |none=>rfl
     |some p=>exact absurd ⟨p,h⟩ hf
    have hset:=fun v=>JOW (x:=v) (j:=0) hf
    refine JB.opk1 13 ?_
    iterate 9 (refine JG.o1 V92 ?_)
    refine JG.o1 (by simp only [go_sem,l5,l7,l42,l43,l91,l11,hs,Ym,hf,Nat.add_zero,hset];(try simp (disch:=omega) only [if_pos]);(try simp only [go_sem,l5,l7,l42,l43,l91,l11,hs,Ym,hf,Nat.add_zero,hset])<;>first|(refine ZQ ⟨by (try simp only [List.length_append,List.length_drop,List.length_take,List.length_map,List.length_cons,List.length_nil,List.length_replicate,List.length_set,List.length_range,Nat.zero_add]);omega,by (try simp only [List.length_append,List.length_drop,List.length_take,List.length_map,List.length_cons,List.length_nil,List.length_replicate,List.length_set,List.length_range,Nat.zero_add]);omega,by repeat (first|exact ZB|assumption|refine Y6 ?_ ?_|refine Y8 ?_|refine ZD ?_|exact ZA (fun _=>rfl)|exact ZC rfl|refine Y7 rfl ?_)⟩ ?_;simp only [go_sem,l5,l7,l42,l43,l91,l11,hs,Ym,hf,Nat.add_zero,hset]<;>rfl)|(refine ZQ ⟨by (try simp only [List.length_append,List.length_drop,List.length_take,List.length_map,List.length_cons,List.length_nil,List.length_replicate,List.length_set,List.length_range,Nat.zero_add]);omega,by repeat (first|exact ZB|assumption|refine Y6 ?_ ?_|refine Y8 ?_|refine ZD ?_|exact ZA (fun _=>rfl)|exact ZC rfl|refine Y7 rfl ?_)⟩ ?_;simp only [go_sem,l5,l7,l42,l43,l91,l11,hs,Ym,hf,Nat.add_zero,hset]<;>rfl)|rfl) ?_
    refine JG.o1 V92 ?_
    refine JG.nil (QK.fin JL JL ?_)
    refine JR.nrm (JB.reg1 ?_)
    refine JA.o1 (by simp only [go_sem,l5,l7,l42,l43,l91,l11,hs,Ym,hf,Nat.add_zero,hset];(try simp (disch:=omega) only [IntWalk.i64_in,IntWalk.u64_in,IntWalk.i32_in,IntWalk.u8_in,if_neg,if_pos])<;> rfl) ?_
    refine JA.o1 V92 ?_
    refine JA.nil ?_
    refine JU.nxt ?_ ?_ ?_
    ·omega
    ·exact JN.trans (JN.kpp [0,1,3,27,28,29] JAY V52) (JRl hf rfl ⟨_,rfl⟩ (by have:=JMm w k;have:=(JDW hw).2.2;omega))
    ·trivial
  ·skip
   have hek:k=w.readings.length:=by have:=Ys hb30;omega
   subst hek
   refine JB.exitS (JU.ext (JR.hit (JB.assocS (JB.reg ?_))))
   iterate 4 (refine JA.o1 JCx ?_)
   refine JA.nil (JB.blk ?_)
   refine JB.for (w.readings.length) (fun k=>⟨[(0,.leaf (.obj 900)),(1,.leaf (.d (.pt (JAp w)))),(3,.leaf (.obj 25)),(46,.leaf (.d (.sl 3 (w.readings.map Qr)))),(47,.int w.readings.length),(48,.int k)],(900,.yl)::(25,.map (YG 0 (Yn w w.readings.length)))::Q2 3 0 (Yn w w.readings.length),lB (ZL (JAS w k (w.readings.length-k)++(Yz w 0 w.readings.length++ZS w 0 w.readings.length)))⟩) (fun _=>True) ?_ ?_ (fun k hk hX=>?_)
   ·exact JN.kpp [0,1,3,46,47,48] JAY V52
   ·trivial
   ·skip
    refine JB.reg ?_
    refine JA.o1 JCx ?_
    refine JA.nil ?_
    refine JB.cndS JCx (fun hb49=>?_) (fun hb49=>?_)
    ·skip
     have hlt:=Yo hb49
     have hs:=ZU hlt
     obtain ⟨i,hf⟩:=JRO hlt
     have hG:=JJa (e:=3) (JIy hf)
     have e1:=JVK hlt
     have hrk:=JAo hw hlt
     refine JB.skipS (JB.blk (JB.reg ?_))
     refine JA.o1 V93 ?_
     refine JA.o1 (by simp only [go_sem,l5,l7,l42,l43,l91,l11,hs,Ym,hf,Nat.add_zero,hG];(try simp (disch:=omega) only [if_pos]);(try simp only [go_sem,l5,l7,l42,l43,l91,l11,hs,Ym,hf,Nat.add_zero,hG])<;> rfl) ?_
     iterate 4 (refine JA.o1 V93 ?_)
     refine JA.nil (JB.reg ?_)
     iterate 6 (refine JA.o1 V93 ?_)
     refine JA.nil (JB.blk1 ?_)
     refine JB.for ((Yu w (rd w k).day w.readings.length).length) (fun j=>⟨[(0,.leaf (.obj 900)),(1,.leaf (.d (.pt (JAp w)))),(3,.leaf (.obj 25)),(6,.int k),(7,.leaf (.ptr 7 0)),(46,.leaf (.d (.sl 3 (w.readings.map Qr)))),(47,.int w.readings.length),(48,.int k),(56,.leaf (.own (i+2000) 0 (Yu w (rd w k).day w.readings.length).length (Yu w (rd w k).day w.readings.length).length)),(57,.int (Yu w (rd w k).day w.readings.length).length),(58,.int j)],(7,.cells [.d (.i (rd w k).house),.d (.i (rd w k).day),.d (.i (rd w k).shows)])::(900,.yl)::(25,.map (YG 0 (Yn w w.readings.length)))::Q2 3 0 (Yn w w.readings.length),lB (ZL (Zo w k ((Yu w (rd w k).day w.readings.length).drop j)++(JAS w (k+1) (w.readings.length-(k+1))++(Yz w 0 w.readings.length++ZS w 0 w.readings.length))))⟩) (fun _=>True) ?_ ?_ (fun j hj Xj=>?_)
     ·exact JN.trans (JN.kpp [0,1,3,6,7,46,47,48,56,57,58] JCc (by simp only [go_sem,JD5 JBu,JD4 JBu,khs.1,khs.2.1,khs.2.2,JBu,e1,List.append_assoc,List.drop_zero]<;>rfl)) (JN.ob (fun o=>JSS))
     ·trivial
     ·skip
      refine JB.reg ?_
      refine JA.o1 V93 ?_
      refine JA.nil ?_
      refine JB.cndS V93 (fun hb59=>?_) (fun hb59=>?_)
      ·skip
       have hjl:=Yo hb59
       obtain ⟨b,hb⟩:=JAh hb59
       have hbm:=JJm.1 (List.mem_of_getElem? hb)
       have hsb:=ZU hbm.1
       have hrb:=JAo hw hbm.1
       have hdr:=JEw hb
       have hmul:=i64_mul (a:=(rd w k).house-(rd w b).house) (b:=(rd w k).house-(rd w b).house) (by omega) (by omega)
       have hsl:(Yu w (rd w k).day w.readings.length).length≤1000:=Nat.le_trans (List.length_filter_le _ _) YF
       refine JB.skipS (JB.blk (JB.reg ?_))
       refine JA.o1 V30 ?_
       iterate 2 (refine JA.o1 V86 ?_)
       refine JA.nil ?_
       refine JB.opk 12 ?_
       iterate 5 (refine JG.o1 V86 ?_)
       refine JG.o1 V30 ?_
       iterate 2 (refine JG.o1 V86 ?_)
       refine JG.o1 (by simp only [go_sem,l5,l7,l42,l43,l91,l11,hs,Ym,hf,Nat.add_zero,hG,hb,hsb,hmul];(try simp (disch:=omega) only [IntWalk.i64_in,IntWalk.u64_in,IntWalk.i32_in,IntWalk.u8_in,if_neg,if_pos])<;> rfl) ?_
       refine JG.o1 V86 ?_
       refine JG.nil (QK.fin Qb Qb ?_)
       by_cases hsw:k<b∧((rd w k).house-(rd w b).house)*((rd w k).house-(rd w b).house)=1
       ·skip
        have hg:(decide ((b:Int)>(k:Int))&&((rd w k).house-(rd w b).house)*((rd w k).house-(rd w b).house)==1)=true:=by simp [hsw.1,hsw.2]
        refine JB.reg ?_
        iterate 4 (refine JA.o1 Zq ?_)
        iterate 2 (refine JA.gop JF Zq JF ?_)
        refine JA.gop JF V34 JF ?_
        refine JA.gop JF Zq JF ?_
        iterate 2 (refine JA.o1 Zq ?_)
        iterate 5 (refine JA.y1 Zq ?_)
        refine JA.yldw (args:=[.leaf (.d (repD (.sw k b)))]) JF JF JF JF (by exact ⟨Zr.refl rfl,trivial⟩) (by simp only [hdr,JVI hsw,List.cons_append,List.nil_append,ZL,List.map_cons,JDI]<;>rfl) (fun t=>?_)
        refine JA.y1 Zq ?_
        refine JA.o1 Zq ?_
        refine JA.nil ?_
        refine JB.cnd Zq (fun hb88=>?_) (fun hb88=>?_)
        ·skip
         have ht:t=false:=by simpa using hb88
         subst ht
         refine JR.ret (JU.ret (QA.ret (JR.ret (JU.ret (JR.ret ?_)))))
         exact Ends.fin [] (rs:=[]) rfl Zq (by simp only [go_sem,l5,l7,l42,l43,l91,l11,hs,Ym,hf,Nat.add_zero,hG,hb,hsb,hmul,hg]<;>first|rfl|exact QB)
        ·skip
         have ht:t=true:=by simpa using hb88
         subst ht
         refine JR.nrm (JB.reg1 ?_)
         refine JA.o1 V34 ?_
         refine JA.o1 Zq ?_
         refine JA.nil ?_
         refine JU.nxt ?_ ?_ ?_
         ·omega
         ·exact JN.kpp [0,1,3,6,7,46,47,48,56,57,58] JCc (by simp only [go_sem,JD5 JBu,JD4 JBu,khs.1,khs.2.1,khs.2.2,JBu]<;>rfl)
         ·trivial
       ·skip
        have hg:(decide ((b:Int)>(k:Int))&&((rd w k).house-(rd w b).house)*((rd w k).house-(rd w b).house)==1)=false:=by
         rw [←Bool.not_eq_true]
         intro hc
         simp at hc
         exact hsw hc
        have e:Zo w k ((Yu w (rd w k).day w.readings.length).drop j)=Zo w k ((Yu w (rd w k).day w.readings.length).drop (j+1)):=by rw [hdr,JVH hsw]
        refine JB.reg ?_
        iterate 4 (refine JA.o1 Zq ?_)
        iterate 2 (refine JA.gop JF Zq JF ?_)
        refine JA.gop JF V34 JF ?_
        refine JA.gop JF Zq JF ?_
        iterate 2 (refine JA.o1 Zq ?_)
        iterate 7 (refine JA.s ?_)
        refine JA.o1 Zq ?_
        refine JA.nil ?_
        refine JB.cnd Zq (fun hb88=>?_) (fun hb88=>?_)
        ·exact absurd hb88 (by simp)
        ·skip
         refine JR.nrm (JB.reg1 ?_)
         refine JA.o1 V34 ?_
         refine JA.o1 Zq ?_
         refine JA.nil ?_
         refine JU.nxt ?_ ?_ ?_
         ·omega
         ·exact JN.kpp [0,1,3,6,7,46,47,48,56,57,58] JCc (by simp only [go_sem,JD5 JBu,JD4 JBu,khs.1,khs.2.1,khs.2.2,JBu,e]<;>rfl)
         ·trivial
      ·skip
       have hd0:(Yu w (rd w k).day w.readings.length).drop j=[]:=List.drop_eq_nil_of_le (Ys hb59)
       refine JB.exitS (JU.ext (QA.hit (JR.nrm (JB.reg1 ?_))))
       refine JA.o1 (by simp only [go_sem,l5,l7,l42,l43,l91,l11,hs,Ym,hf,Nat.add_zero,hG];(try simp (disch:=omega) only [IntWalk.i64_in,IntWalk.u64_in,IntWalk.i32_in,IntWalk.u8_in,if_neg,if_pos])<;> rfl) ?_
       refine JA.o1 V93 ?_
       refine JA.nil ?_
       refine JU.nxt ?_ ?_ ?_
       ·omega
       ·exact JN.kpp [0,1,3,46,47,48] JAY (by simp only [go_sem,JD5 JDG,JD4 JDG,kgs.1,kgs.2.1,kgs.2.2.1,kgs.2.2.2.1,kgs.2.2.2.2.1,kgs.2.2.2.2.2,JDG,Bool.false_eq_true,if_false,List.map_append,hd0,JVG,List.nil_append]<;>rfl)
       ·trivial
    ·skip
     have hek:k=w.readings.length:=by have:=Ys hb49;omega
     have hend:JAS w k (w.readings.length-k)=[]:=JVJ (by omega)
     refine JB.exitS (JU.ext (JR.hit (JB.reg ?_)))
     iterate 3 (refine JA.o1 JAr ?_)
     refine JA.nil (JB.assocS (JB.reg ?_))
     iterate 4 (refine JA.o1 JAr ?_)
     refine JA.nil (JB.blk ?_)
     refine JB.forA [0,1,11,94,95] [900,11,91] (w.rates.length) (fun k=>[.slot 95 (.int k),.obj 91 (.map (ZO w (JAG w k)))]) (fun _=>True) (fun k=>by simp only [go_sem]<;>rfl) (by simp only [go_sem,l5,l7,l42,l43,l91,l11,hend,List.nil_append,JPX,JRA,Int.natCast_zero]<;>rfl) ?_ (fun k hk hX=>?_)
     ·trivial
     ·skip
      refine JB.reg ?_
      refine JA.o1 JAr ?_
      refine JA.nil ?_
      refine JB.cndS JAr (fun hb96=>?_) (fun hb96=>?_)
      ·skip
       have hlt:=Yo hb96
       refine JB.skipS (JB.blk (JB.reg ?_))
       iterate 2 (refine JA.o1 JAr ?_)
       refine JA.nil (JB.reg ?_)
       refine JA.o1 JAr ?_
       refine JA.nil (JB.reg ?_)
       iterate 2 (refine JA.o1 JAr ?_)
       refine JA.c1 (JIf w k) JAr JAr ?_
       refine JA.nil (JB.blk1 ?_)
       refine JB.rangeL 113 [.pt (JAp w),.pt [.i k]] 900 (ofV w k) [0,1,11,13,94,95,100] [900,11,91,13] (fun j=>[.obj 13 (.cells [.d (.i (Z6 w k j).1.house),.d (.i (Z6 w k j).1.day),.d (.i (Z6 w k j).1.shows),.d (.i ((Z6 w k j).2:Int))]),.obj 91 (.map (ZO w (JAG w k++(ZK (Jo w k)).take (j-1))))]) (fun _=>True) (fun j=>by simp only [go_sem]<;>rfl) (by simp only [go_sem,l5,l7,l42,l43,l91,l11,hend,List.nil_append,Nat.zero_sub,List.take_zero,List.append_nil]<;>rfl) (fun _=>by rfl) (fun _=>by rfl) rfl JF Jr (JIi w k h1 h2 h20) Qb ?_ (fun j v hv Xj=>?_) (fun Xj=>?_)
       ·trivial
       ·skip
        obtain ⟨i,hi,rfl⟩:=JJu hv
        have hil:=(JAN.1 (List.mem_of_getElem? hi)).1
        have hri:=JAo hw hil
        have e:Z6 w k (j+1)=numOf w i:=JM4 hi
        refine ⟨rfl,?_⟩
        refine JB.reg ?_
        refine JA.o1 (by simp only [go_sem,l5,l7,l42,l43,l91,l11,hend,List.nil_append,e,numOf]<;>rfl) ?_
        refine JA.nil (JB.reg1 ?_)
        iterate 2 (refine JA.o1 (by simp only [go_sem,l5,l7,l42,l43,l91,l11,hend,List.nil_append,e,numOf]<;>rfl) ?_)
        refine JA.nil ?_
        refine ⟨rfl,?_⟩
        refine JB.blk1 (JB.assocS ?_)
        by_cases hj0:j=0
        ·skip
         subst hj0
         have hg:decide (((0:Nat):Int)>0)=false:=by decide
         refine JB.reg ?_
         iterate 2 (refine JA.o1 V76 ?_)
         refine JA.nil ?_
         refine JB.cndS V76 (fun hb104=>?_) (fun hb104=>?_)
         ·exact absurd hb104 (by simp)
         ·skip
          refine JB.skipS (JB.reg1 ?_)
          iterate 2 (refine JA.o1 V76 ?_)
          refine JA.nil (QA.nrm ?_)
          refine ZM.nrm ?_ ?_
          ·exact JN.kl [900,11,91,13] (by simp only [go_sem,l5,l7,l42,l43,l91,l11,hend,List.nil_append,e,numOf,hg,List.take_zero,List.append_nil]<;>first|exact QB|rfl)
          ·trivial
        ·skip
         obtain ⟨p,hp⟩:∃p,(Jo w (k:Int))[j-1]? = some p:=⟨_,List.getElem?_eq_getElem JGC⟩
         have hla:Z6 w k j=numOf w p:=by unfold Z6;rw [if_neg hj0,hp];rfl
         have hset:=fun v=>JOV (w:=w) (v:=v) (JSQ hi)
         have hnx:=JRB hp hi (by omega)
         have hg:decide ((j:Int)>0)=true:=by simp;omega
         refine JB.reg ?_
         iterate 2 (refine JA.o1 V62 ?_)
         refine JA.nil ?_
         refine JB.cndS V62 (fun hb104=>?_) (fun hb104=>?_)
         ·skip
          refine JB.reg ?_
          iterate 6 (refine JA.o1 V62 ?_)
          refine JA.nil (JB.reg1 ?_)
          iterate 2 (refine JA.o1 V62 ?_)
          refine JA.nil (QA.nrm ?_)
          refine ZM.nrm ?_ ?_
          ·exact JN.kl [900,11,91,13] (by simp only [go_sem,l5,l7,l42,l43,l91,l11,hend,List.nil_append,e,numOf,hg,hla,hset,hnx,List.map_append,List.map_cons,List.map_nil]<;>first|exact QB|rfl)
          ·trivial
         ·exact absurd hb104 (by simp)
       ·skip
        have e:=JPW w k
        refine QA.nrm (JR.nrm (JB.reg1 ?_))
        refine JA.o1 (by simp only [go_sem,l5,l7,l42,l43,l91,l11,hend,List.nil_append,e];(try simp (disch:=omega) only [IntWalk.i64_in,IntWalk.u64_in,IntWalk.i32_in,IntWalk.u8_in,if_neg,if_pos])<;> rfl) ?_
        refine JA.o1 (by simp only [go_sem,l5,l7,l42,l43,l91,l11,hend,List.nil_append,e]<;>rfl) ?_
        refine JA.nil ?_
        refine JU.nxt ?_ ?_ ?_
        ·omega
        ·exact JN.kp [0,1,11,94,95] [900,11,91] (by simp only [go_sem,l5,l7,l42,l43,l91,l11,hend,List.nil_append,e]<;>first|exact QB|rfl)
        ·trivial
      ·skip
       have hek:k=w.rates.length:=by have:=Ys hb96;omega
       subst hek
       refine JB.exitS (JU.ext (JR.hit (JB.assocS (JB.reg ?_))))
       iterate 4 (refine JA.o1 JAr ?_)
       refine JA.nil (JB.blk ?_)
       refine JB.forY [0,1,11,113,114,115] [900,11,91] (w.readings.length) (fun k=>[.slot 115 (.int k)]) (fun k=>lB (ZL (Yz w k (w.readings.length-k)++(ZS w 0 w.readings.length)))) (fun _=>True) (fun k=>by simp only [go_sem]<;>rfl) (by simp only [go_sem,l5,l7,l42,l43,l91,l11,hend,List.nil_append,Nat.sub_zero,Int.natCast_zero]<;>rfl) ?_ (fun k hk hX=>?_)
       ·trivial
       ·skip
        refine JB.reg ?_
        refine JA.o1 JAr ?_
        refine JA.nil ?_
        refine JB.cndS JAr (fun hb116=>?_) (fun hb116=>?_)
        ·skip
         have hlt:=Yo hb116
         have hs:=ZU hlt
         have hrk:=JAo hw hlt
         refine JB.skipS (JB.blk (JB.reg ?_))
         refine JA.o1 (by simp only [go_sem,l5,l7,l42,l43,l91,l11,hend,List.nil_append,hs]<;>rfl) ?_
         refine JA.o1 (by simp only [go_sem,l5,l7,l42,l43,l91,l11,hend,List.nil_append,hs];(try simp (disch:=omega) only [if_pos]);(try simp only [go_sem,l5,l7,l42,l43,l91,l11,hend,List.nil_append,hs])<;> rfl) ?_
         iterate 4 (refine JA.o1 (by simp only [go_sem,l5,l7,l42,l43,l91,l11,hend,List.nil_append,hs]<;>rfl) ?_)
         refine JA.nil ?_
         by_cases hbf:∃p,YR w k=some p
         ·skip
          have hlk:=JHJ hw hlt
          obtain ⟨p,hbf⟩:=hbf
          rw [hbf] at hlk
          have hpl:=JLe hbf
          have hrp:=JAo hw hpl
          refine JB.reg ?_
          iterate 9 (refine JA.o1 (by simp only [go_sem,l5,l7,l42,l43,l91,l11,hend,List.nil_append,hs,ZG,hlk]<;>rfl) ?_)
          refine JA.nil ?_
          by_cases heq:(rd w p).shows=(rd w k).shows
          ·skip
           have hg:((rd w p).shows==(rd w k).shows)=true:=by simpa using heq
           have hcs:Yz w k (w.readings.length-k)=.cp k::Yz w (k+1) (w.readings.length-(k+1)):=by rw [JIn hlt,JBG,hbf];simp only;rw [if_pos heq];rfl
           refine JB.reg ?_
           iterate 2 (refine JA.o1 V88 ?_)
           iterate 5 (refine JA.y1 V88 ?_)
           iterate 2 (refine JA.o1 V88 ?_)
           iterate 4 (refine JA.y1 V88 ?_)
           refine JA.yldw (args:=[.leaf (.d (repD (.cp k)))]) JF JF JF JF (by exact ⟨Zr.refl rfl,trivial⟩) (by simp only [hcs,List.cons_append,List.nil_append,ZL,List.map_cons,JDI]<;>rfl) (fun t=>?_)
           refine JA.y1 V88 ?_
           refine JA.o1 V88 ?_
           refine JA.nil ?_
           refine JB.cnd V88 (fun hb141=>?_) (fun hb141=>?_)
           ·skip
            have ht:t=false:=by simpa using hb141
            subst ht
            refine JR.ret (JU.ret (JR.ret ?_))
            exact Ends.fin [] (rs:=[]) rfl V88 (by simp only [go_sem,l5,l7,l42,l43,l91,l11,hend,List.nil_append,hs,ZG,hlk,hg]<;>first|rfl|exact QB)
           ·skip
            have ht:t=true:=by simpa using hb141
            subst ht
            refine JR.nrm (JB.reg1 ?_)
            refine JA.o1 (by simp only [go_sem,l5,l7,l42,l43,l91,l11,hend,List.nil_append,hs,ZG,hlk,hg];(try simp (disch:=omega) only [IntWalk.i64_in,IntWalk.u64_in,IntWalk.i32_in,IntWalk.u8_in,if_neg,if_pos])<;> rfl) ?_
            refine JA.o1 V88 ?_
            refine JA.nil ?_
            refine JU.nxt ?_ ?_ ?_
            ·omega
            ·exact JN.kp [0,1,11,113,114,115] [900,11,91] (by simp only [go_sem,l5,l7,l42,l43,l91,l11,hend,List.nil_append,hs,ZG,hlk,hg]<;>first|((repeat' (first|with_reducible_and_instances rfl|refine Q6 ?_ ?_ ?_|refine Q4 ?_|refine Q8 ?_|refine Q7 ?_ ?_|refine Qw ?_|refine Qy ?_|refine Q9 ?_|refine Q1 ?_ ?_|refine Q3 ?_ ?_|refine Q5 ?_|refine Qx ?_|(refine Qz ?_;omega)));all_goals rfl)|rfl)
            ·trivial
          ·skip
           have hg:((rd w p).shows==(rd w k).shows)=false:=by simpa using heq
           have hcs:Yz w k (w.readings.length-k)=Yz w (k+1) (w.readings.length-(k+1)):=by rw [JIn hlt,JBG,hbf];simp only;rw [if_neg heq];rfl
           refine JB.reg ?_
           iterate 2 (refine JA.o1 V83 ?_)
           iterate 5 (refine JA.y1 V83 ?_)
           iterate 2 (refine JA.o1 V83 ?_)
           iterate 6 (refine JA.s ?_)
           refine JA.o1 V83 ?_
           refine JA.nil ?_
           refine JB.cnd V83 (fun hb141=>?_) (fun hb141=>?_)
           ·exact absurd hb141 (by simp)
           ·skip
            refine JR.nrm (JB.reg1 ?_)
            refine JA.o1 (by simp only [go_sem,l5,l7,l42,l43,l91,l11,hend,List.nil_append,hs,ZG,hlk,hg,hcs];(try simp (disch:=omega) only [IntWalk.i64_in,IntWalk.u64_in,IntWalk.i32_in,IntWalk.u8_in,if_neg,if_pos])<;> rfl) ?_
            refine JA.o1 V83 ?_
            refine JA.nil ?_
            refine JU.nxt ?_ ?_ ?_
            ·omega
            ·exact JN.kp [0,1,11,113,114,115] [900,11,91] (by simp only [go_sem,l5,l7,l42,l43,l91,l11,hend,List.nil_append,hs,ZG,hlk,hg,hcs]<;>first|((repeat' (first|with_reducible_and_instances rfl|refine Q6 ?_ ?_ ?_|refine Q4 ?_|refine Q8 ?_|refine Q7 ?_ ?_|refine Qw ?_|refine Qy ?_|refine Q9 ?_|refine Q1 ?_ ?_|refine Q3 ?_ ?_|refine Q5 ?_|refine Qx ?_|(refine Qz ?_;omega)));all_goals rfl)|rfl)
            ·trivial
         ·skip
          have hbf:YR w k=none:=by
           cases h:YR w k with
           |none=>rfl
           |some p=>exact absurd ⟨p,h⟩ hbf
          have hlk:=JHJ hw hlt
          rw [hbf] at hlk
          have hcs:Yz w k (w.readings.length-k)=Yz w (k+1) (w.readings.length-(k+1)):=by rw [JIn hlt,JBG,hbf];rfl
          refine JB.reg ?_
          iterate 9 (refine JA.o1 V87 ?_)
          refine JA.nil (JB.reg ?_)
          iterate 2 (refine JA.o1 V87 ?_)
          iterate 5 (refine JA.s ?_)
          iterate 2 (refine JA.o1 V87 ?_)
          iterate 6 (refine JA.s ?_)
          refine JA.o1 V87 ?_
          refine JA.nil ?_
          refine JB.cnd V87 (fun hb141=>?_) (fun hb141=>?_)
          ·exact absurd hb141 (by simp)
          ·skip
           refine JR.nrm (JB.reg1 ?_)
           refine JA.o1 (by simp only [go_sem,l5,l7,l42,l43,l91,l11,hend,List.nil_append,hs,ZG,hlk,hcs];(try simp (disch:=omega) only [IntWalk.i64_in,IntWalk.u64_in,IntWalk.i32_in,IntWalk.u8_in,if_neg,if_pos])<;> rfl) ?_
           refine JA.o1 V87 ?_
           refine JA.nil ?_
           refine JU.nxt ?_ ?_ ?_
           ·omega
           ·exact JN.kp [0,1,11,113,114,115] [900,11,91] (by simp only [go_sem,l5,l7,l42,l43,l91,l11,hend,List.nil_append,hs,ZG,hlk,hcs]<;>first|((repeat' (first|with_reducible_and_instances rfl|refine Q6 ?_ ?_ ?_|refine Q4 ?_|refine Q8 ?_|refine Q7 ?_ ?_|refine Qw ?_|refine Qy ?_|refine Q9 ?_|refine Q1 ?_ ?_|refine Q3 ?_ ?_|refine Q5 ?_|refine Qx ?_|(refine Qz ?_;omega)));all_goals rfl)|rfl)
           ·trivial
        ·skip
         have hend:Yz w k (w.readings.length-k)=[]:=JQw (Ys hb116)
         refine JB.exitS (JU.ext (JR.hit (JB.reg ?_)))
         iterate 4 (refine JA.o1 V89 ?_)
         refine JA.nil (JB.blk1 ?_)
         refine JB.forY [0,11,144,145,146] [900,11,91] (w.readings.length) (fun k=>[.slot 146 (.int k)]) (fun k=>lB (ZL (ZS w k (w.readings.length-k)))) (fun _=>True) (fun k=>by simp only [go_sem]<;>rfl) (by simp only [go_sem,l5,l7,l42,l43,l91,l11,hend,List.nil_append,hend,List.nil_append,Nat.sub_zero,Int.natCast_zero]<;>rfl) ?_ (fun k hk hX=>?_)
         ·trivial
         ·skip
          refine JB.reg ?_
          refine JA.o1 V89 ?_
          refine JA.nil ?_
          refine JB.cndS V89 (fun hb147=>?_) (fun hb147=>?_)
          ·skip
           have hlt:=Yo hb147
           have hs:=ZU hlt
           have hrk:=JAo hw hlt
           have e1:=JSA hlt
           refine JB.skipS (JB.blk (JB.reg ?_))
           refine JA.o1 (by simp only [go_sem,l5,l7,l42,l43,l91,l11,hend,List.nil_append,hend,List.nil_append,hs]<;>rfl) ?_
           refine JA.o1 (by simp only [go_sem,l5,l7,l42,l43,l91,l11,hend,List.nil_append,hend,List.nil_append,hs];(try simp (disch:=omega) only [if_pos]);(try simp only [go_sem,l5,l7,l42,l43,l91,l11,hend,List.nil_append,hend,List.nil_append,hs])<;> rfl) ?_
           iterate 4 (refine JA.o1 (by simp only [go_sem,l5,l7,l42,l43,l91,l11,hend,List.nil_append,hend,List.nil_append,hs]<;>rfl) ?_)
           refine JA.nil ?_
           by_cases hbf:∃p,YR w k=some p
           ·skip
            have hlk:=JHJ hw hlt
            obtain ⟨p,hbf⟩:=hbf
            rw [hbf] at hlk
            have hpl:=JLe hbf
            have hrp:=JAo hw hpl
            refine JB.reg ?_
            iterate 9 (refine JA.o1 V79 ?_)
            refine JA.nil (JB.reg ?_)
            refine JA.o1 V79 ?_
            refine JA.nil (JB.blk1 ?_)
            refine JB.forY [0,11,20,21,22,23,24,144,145,146] [900,11,91,21,22] (30) (fun d=>[.slot 24 (.int ((d+1:Nat):Int))]) (fun d=>lB (ZL (Z7 w k (31-d) (d+1)++ZS w (k+1) (w.readings.length-(k+1))))) (fun _=>True) (fun d=>by simp only [go_sem]<;>rfl) V65 ?_ (fun d hd Xd=>?_)
            ·trivial
            ·skip
             refine JB.assocS ?_
             by_cases hm:((d+1:Nat):Int)≤min 30 (rd w k).day
             ·skip
              have hg:decide (((d+1:Nat):Int)≤min 30 (rd w k).day)=true:=by simpa using hm
              refine JB.reg ?_
              iterate 6 (refine JA.o1 YO ?_)
              iterate 6 (refine JA.y1 YO ?_)
              refine JA.y1 V31 ?_
              iterate 4 (refine JA.y1 YO ?_)
              refine JA.o1 YO ?_
              refine JA.nil ?_
              refine JB.cndS YO (fun hb174=>?_) (fun hb174=>?_)
              ·skip
               have hok:YT w k (d+1)=true:=by simp only [YT,hbf,Bool.and_eq_true,decide_eq_true_eq];simp only [decide_eq_true_eq] at hb174;omega
               have hls:=JM5 (w:=w) (a:=k) (f:=30-d) hok
               rw [show 30-d+1=31-d by omega,show 30-d=31-(d+1) by omega] at hls
               have hd30:d<30:=by omega
               refine JB.skipS (JB.blk (JB.reg ?_))
               iterate 5 (refine JA.o1 YO ?_)
               refine JA.yldw (args:=[.leaf (.d (repD (.lt k (d+1))))]) JF JF JF JF (by exact ⟨Zr.refl rfl,trivial⟩) (by simp only [hls,List.cons_append,List.nil_append,ZL,List.map_cons,JDI]<;>rfl) (fun t=>?_)
               refine JA.o1 YO ?_
               refine JA.nil ?_
               refine JB.cnd YO (fun hb183=>?_) (fun hb183=>?_)
               ·skip
                have ht:t=false:=by simpa using hb183
                subst ht
                refine JR.ret (JU.ret (QA.ret (JR.ret (JU.ret (QA.ret ?_)))))
                exact Ends.fin [] (rs:=[]) rfl YO V63
               ·skip
                have ht:t=true:=by simpa using hb183
                subst ht
                refine JR.nrm (JB.reg1 ?_)
                refine JA.o1 YO ?_
                refine JA.o1 V31 ?_
                refine JA.o1 YO ?_
                refine JA.nil ?_
                refine JU.nxt ?_ ?_ ?_
                ·omega
                ·exact JN.kp [0,11,20,21,22,23,24,144,145,146] [900,11,91,21,22] V14
                ·trivial
              ·skip
               have hok:¬YT w k (d+1)=true:=by simp only [YT,hbf,Bool.and_eq_true,decide_eq_true_eq];simp only [decide_eq_false_iff_not] at hb174;omega
               have hls:=JJN (w:=w) (a:=k) (f:=30-d) hok
               rw [show 30-d+1=31-d by omega] at hls
               refine JB.exitS (JU.ext (QA.hit (JR.nrm (JB.reg1 ?_))))
               refine JA.o1 V29 ?_
               refine JA.o1 V61 ?_
               refine JA.nil ?_
               refine JU.nxt ?_ ?_ ?_
               ·omega
               ·exact JN.kp [0,11,144,145,146] [900,11,91] V12
               ·trivial
             ·skip
              have hg:decide (((d+1:Nat):Int)≤min 30 (rd w k).day)=false:=by simpa using hm
              refine JB.reg ?_
              iterate 6 (refine JA.o1 YO ?_)
              iterate 11 (refine JA.s ?_)
              refine JA.o1 YO ?_
              refine JA.nil ?_
              refine JB.cndS YO (fun hb174=>?_) (fun hb174=>?_)
              ·exact absurd hb174 (by simp)
              ·skip
               have hok:¬YT w k (d+1)=true:=by simp only [YT,Bool.and_eq_true,decide_eq_true_eq];omega
               have hls:=JJN (w:=w) (a:=k) (f:=30-d) hok
               rw [show 30-d+1=31-d by omega] at hls
               refine JB.exitS (JU.ext (QA.hit (JR.nrm (JB.reg1 ?_))))
               refine JA.o1 V29 ?_
               refine JA.o1 V61 ?_
               refine JA.nil ?_
               refine JU.nxt ?_ ?_ ?_
               ·omega
               ·exact JN.kp [0,11,144,145,146] [900,11,91] V12
               ·trivial
           ·skip
            have hbf:YR w k=none:=by
             cases h:YR w k with
             |none=>rfl
             |some p=>exact absurd ⟨p,h⟩ hbf
            have hlk:=JHJ hw hlt
            rw [hbf] at hlk
            refine JB.reg ?_
            iterate 9 (refine JA.o1 V79 ?_)
            refine JA.nil (JB.reg ?_)
            refine JA.o1 V79 ?_
            refine JA.nil (JB.blk1 ?_)
            refine JB.forY [0,11,20,21,22,23,24,144,145,146] [900,11,91,21,22] (30) (fun d=>[.slot 24 (.int ((d+1:Nat):Int))]) (fun d=>lB (ZL (Z7 w k (31-d) (d+1)++ZS w (k+1) (w.readings.length-(k+1))))) (fun _=>True) (fun d=>by simp only [go_sem]<;>rfl) V65 ?_ (fun d hd Xd=>?_)
            ·trivial
            ·skip
             refine JB.assocS ?_
             by_cases hm:((d+1:Nat):Int)≤min 30 (rd w k).day
             ·skip
              have hg:decide (((d+1:Nat):Int)≤min 30 (rd w k).day)=true:=by simpa using hm
              refine JB.reg ?_
              iterate 6 (refine JA.o1 YO ?_)
              iterate 3 (refine JA.y1 YO ?_)
              iterate 7 (refine JA.s ?_)
              refine JA.y1 YO ?_
              refine JA.o1 YO ?_
              refine JA.nil ?_
              refine JB.cndS YO (fun hb174=>?_) (fun hb174=>?_)
              ·skip
               have hok:YT w k (d+1)=true:=by simp only [YT,hbf,Bool.and_true,decide_eq_true_eq];omega
               have hls:=JM5 (w:=w) (a:=k) (f:=30-d) hok
               rw [show 30-d+1=31-d by omega,show 30-d=31-(d+1) by omega] at hls
               have hd30:d<30:=by omega
               refine JB.skipS (JB.blk (JB.reg ?_))
               iterate 5 (refine JA.o1 YO ?_)
               refine JA.yldw (args:=[.leaf (.d (repD (.lt k (d+1))))]) JF JF JF JF (by exact ⟨Zr.refl rfl,trivial⟩) (by simp only [hls,List.cons_append,List.nil_append,ZL,List.map_cons,JDI]<;>rfl) (fun t=>?_)
               refine JA.o1 YO ?_
               refine JA.nil ?_
               refine JB.cnd YO (fun hb183=>?_) (fun hb183=>?_)
               ·skip
                have ht:t=false:=by simpa using hb183
                subst ht
                refine JR.ret (JU.ret (QA.ret (JR.ret (JU.ret (QA.ret ?_)))))
                exact Ends.fin [] (rs:=[]) rfl YO V63
               ·skip
                have ht:t=true:=by simpa using hb183
                subst ht
                refine JR.nrm (JB.reg1 ?_)
                refine JA.o1 YO ?_
                refine JA.o1 V31 ?_
                refine JA.o1 YO ?_
                refine JA.nil ?_
                refine JU.nxt ?_ ?_ ?_
                ·omega
                ·exact JN.kp [0,11,20,21,22,23,24,144,145,146] [900,11,91,21,22] V14
                ·trivial
              ·exact absurd hb174 (by simp)
             ·skip
              have hg:decide (((d+1:Nat):Int)≤min 30 (rd w k).day)=false:=by simpa using hm
              refine JB.reg ?_
              iterate 6 (refine JA.o1 YO ?_)
              iterate 11 (refine JA.s ?_)
              refine JA.o1 YO ?_
              refine JA.nil ?_
              refine JB.cndS YO (fun hb174=>?_) (fun hb174=>?_)
              ·exact absurd hb174 (by simp)
              ·skip
               have hok:¬YT w k (d+1)=true:=by simp only [YT,Bool.and_eq_true,decide_eq_true_eq];omega
               have hls:=JJN (w:=w) (a:=k) (f:=30-d) hok
               rw [show 30-d+1=31-d by omega] at hls
               refine JB.exitS (JU.ext (QA.hit (JR.nrm (JB.reg1 ?_))))
               refine JA.o1 V29 ?_
               refine JA.o1 V61 ?_
               refine JA.nil ?_
               refine JU.nxt ?_ ?_ ?_
               ·omega
               ·exact JN.kp [0,11,144,145,146] [900,11,91] V12
               ·trivial
          ·skip
           have hend:ZS w k (w.readings.length-k)=[]:=JR9 (Ys hb147)
           refine JB.exitS (JU.ext (QA.hit ?_))
           exact Ends.fin0 [] (rs:=[]) rfl (by simp only [go_sem,l5,l7,l42,l43,l91,l11,hend,List.nil_append,hend,List.nil_append,hend,ZL,List.map_nil]<;>rfl) (by simp only [go_sem,l5,l7,l42,l43,l91,l11,hend,List.nil_append,hend,List.nil_append,hend,ZL,List.map_nil]<;>first|rfl|exact QB)
end Go.Mw.Cd
namespace Go.Mw.Cd
open Go.Proofs
theorem JTk {l:List YL}{k:Nat}{v:List AV}(h:(ZL l)[k]? = some v):∃r,l[k]? = some r∧v=[.leaf (.d (repD r))]:=by
 unfold ZL at h
 rw [List.getElem?_map] at h
 cases hi:l[k]? with
 |none=>simp [hi] at h
 |some r=>exact ⟨r,rfl,by simpa [hi] using h.symm⟩
theorem JKF (l:List YL):(ZL l).length=l.length:=by unfold ZL;simp
theorem JQI (w:JP)(h1:w.rates.length≤1000)(h2:w.readings.length≤1000)(h20:∀h,(Jo w h).length≤39)(hw:QM w=true):Jf Tryz.prog 56 [JAU w] (.leaf (.d (JHW (JDv w)))) []:=by
 have hn:=(JDW hw).2.2
 have hlr:=JSG hn
 refine Jq Jj Tryz.func56 rfl (by simp only [List.length_cons,List.length_nil,Tryz.ntmps56];omega) JL rfl ?_
 refine JB.reg ?_
 iterate 2 (refine JA.o ?_)
 refine JA.nil (JB.scp (JB.lblS (JB.assocS (JB.reg ?_))))
 refine JA.nilC 2 0 1000 105 4 JF JF JF (by omega) (by omega) JF ?_
 refine JA.o ?_
 refine JA.c1 (JQJ w) JF JF ?_
 refine JA.nil (JB.blk ?_)
 refine JB.rangeL 151 [.pt (JAp w)] 900 (ZL (Zw w)) [1,2,13] [1,2,1000] (fun k=>[.obj 2 (.cells [.own 1000 0 (Qs w k).length (Qs w k).length]),.obj 1000 (.arr 105 4 ((Qs w k).map JGv))]) (fun _=>True) (fun k=>by simp only [go_sem]<;>rfl) (by simp only [go_sem,JRJ]<;>rfl) (fun _=>by rfl) (fun _=>by rfl) rfl JF Jr (JQh w h1 h2 h20 hw) Qb ?_ (fun k v hv hX=>?_) (fun hX=>?_)
 ·trivial
 ·skip
  obtain ⟨r,hr,rfl⟩:=JTk hv
  have hkl:=(List.getElem?_eq_some_iff.1 hr).1
  have hlk:=JJR w k (by omega)
  have hrm:=List.mem_of_getElem? hr
  obtain ⟨hok,-⟩:=JN3 hrm
  have hwk:=JVg hw hrm
  refine ⟨rfl,?_⟩
  refine JB.reg1 ?_
  refine JA.o1 (by simp only [go_sem,repD]<;>rfl) ?_
  refine JA.nil ?_
  refine ⟨rfl,?_⟩
  refine JB.blk1 (JB.assocS ?_)
  by_cases hf:Zj (YK w r)=none
  ·skip
   have hft:JBK w r=true:=by unfold JBK;rw [hf];rfl
   have e0:=JIt hr
   refine JB.reg ?_
   have X:=Fx.mk hf
   iterate 2 (refine JA.o1 J8 ?_)
   refine JA.c1 (JLv w r h1 h2 hw hok) J8 J8 ?_
   refine JA.c1 (JGh (YK w r) (by rw [hwk.2.1];exact h1) (by omega) (fun h=>Nat.le_trans (JNG hok h) (h20 h)) hwk.1) J8 J8 ?_
   iterate 7 (refine JA.o1 J8 ?_)
   refine JA.nil (JB.assocS (JB.reg ?_))
   refine JA.o1 J8 ?_
   refine JA.nil ?_
   refine JB.cndS J8 (fun hb23=>?_) (fun hb23=>?_)
   ·exact absurd hb23 (by simp)
   ·skip
    refine JB.skipS ?_
    by_cases hsw:∃a b,r=.sw a b
    ·skip
     obtain ⟨a,b,rfl⟩:=hsw
     have e:Qs w (k+1)=Qs w k++[⟨0,a,b,0⟩]:=by rw [e0];unfold JAQ;rw [if_pos hft];rfl
     refine JB.reg ?_
     refine JA.o1 J8 ?_
     refine JA.nil (JB.assocS (JB.reg ?_))
     refine JA.o1 J8 ?_
     refine JA.nil (JB.blk (JB.reg ?_))
     iterate 3 (refine JA.o1 J8 ?_)
     refine JA.nil ?_
     refine JB.cnd J8 (fun hb26=>?_) (fun hb26=>?_)
     ·skip
      refine JB.reg ?_
      iterate 2 (refine JA.o1 J8 ?_)
      refine JA.nil (JB.reg1 ?_)
      iterate 6 (refine JA.o1 J8 ?_)
      refine JA.nil (JR.nrm (JB.reg1 ?_))
      iterate 3 (refine JA.o1 J8 ?_)
      refine JA.o1 V5 ?_
      refine JA.o1 J8 ?_
      refine JA.nil (QA.nrm ?_)
      refine ZM.nrm ?_ ?_
      ·exact JN.kl [1,2,1000] V20
      ·trivial
     ·exact absurd hb26 (by simp)
    ·skip
     skip
     refine JB.reg ?_
     refine JA.o1 J8 ?_
     refine JA.nil (JB.assocS ?_)
     by_cases hcp:∃a,r=.cp a
     ·skip
      obtain ⟨a,rfl⟩:=hcp
      have e:Qs w (k+1)=Qs w k++[⟨1,a,0,0⟩]:=by rw [e0];unfold JAQ;rw [if_pos hft];rfl
      refine JB.reg ?_
      refine JA.o1 J8 ?_
      refine JA.nil (JB.blk (JB.reg ?_))
      iterate 3 (refine JA.o1 J8 ?_)
      refine JA.nil ?_
      refine JB.cnd J8 (fun hb26=>?_) (fun hb26=>?_)
      ·exact absurd hb26 (by simp)
      ·skip
       refine JB.reg ?_
       iterate 3 (refine JA.o1 J8 ?_)
       refine JA.nil ?_
       refine JB.cnd J8 (fun hb34=>?_) (fun hb34=>?_)
       ·skip
        refine JB.reg ?_
        iterate 2 (refine JA.o1 J8 ?_)
        refine JA.nil (JB.reg1 ?_)
        iterate 4 (refine JA.o1 J8 ?_)
        refine JA.nil (JR.nrm (JB.reg1 ?_))
        iterate 3 (refine JA.o1 J8 ?_)
        refine JA.o1 V5 ?_
        refine JA.o1 J8 ?_
        refine JA.nil (QA.nrm ?_)
        refine ZM.nrm ?_ ?_
        ·exact JN.kl [1,2,1000] V20
        ·trivial
       ·exact absurd hb34 (by simp)
     ·skip
      obtain ⟨a,d,rfl⟩:∃a d,r=.lt a d:=by
       cases r with
       |sw a b=>exact absurd ⟨a,b,rfl⟩ hsw
       |cp a=>exact absurd ⟨a,rfl⟩ hcp
       |lt a d=>exact ⟨a,d,rfl⟩
      have hd1000:=hok.2
      have e1:Qs w (k+1)=JCJ (Qs w k) a d:=by rw [e0];unfold JAQ;rw [if_pos hft]
      refine JB.reg ?_
      refine JA.o1 J8 ?_
      refine JA.nil (JB.blk (JB.reg ?_))
      iterate 3 (refine JA.o1 J8 ?_)
      refine JA.nil ?_
      refine JB.cnd J8 (fun hb26=>?_) (fun hb26=>?_)
      ·exact absurd hb26 (by simp)
      ·skip
       refine JB.reg ?_
       iterate 3 (refine JA.o1 J8 ?_)
       refine JA.nil ?_
       refine JB.cnd J8 (fun hb34=>?_) (fun hb34=>?_)
       ·exact absurd hb34 (by simp)
       ·skip
        refine JB.reg ?_
        iterate 3 (refine JA.o1 J8 ?_)
        refine JA.nil ?_
        refine JB.cnd J8 (fun hb40=>?_) (fun hb40=>?_)
        ·skip
         refine JB.reg ?_
         iterate 2 (refine JA.o1 J8 ?_)
         refine JA.nil (JB.reg ?_)
         iterate 8 (refine JA.o1 J8 ?_)
         refine JA.nil (JB.reg ?_)
         iterate 3 (refine JA.o1 J8 ?_)
         refine JA.nil ?_
         by_cases hl0:Qs w k=[]
         ·skip
          have hg:decide (((Qs w k).length:Int)>0)=false:=by rw [hl0];rfl
          have e:Qs w (k+1)=Qs w k++[⟨2,a,d,d⟩]:=by rw [e1,hl0];rfl
          refine JB.opk 24 ?_
          have X:=X.a hg
          iterate 3 (refine JG.o1 J8 ?_)
          iterate 18 (refine JG.s ?_)
          refine JG.o1 J8 ?_
          refine JG.nil (QK.finT JL JL JL ?_)
          refine JB.cnd J8 (fun hb72=>?_) (fun hb72=>?_)
          ·exact absurd hb72 (by simp)
          ·skip
           refine JR.nrm (JB.reg1 ?_)
           iterate 3 (refine JA.o1 J8 ?_)
           refine JA.o1 V5 ?_
           refine JA.o1 J8 ?_
           refine JA.nil (QA.nrm ?_)
           refine ZM.nrm ?_ ?_
           ·exact JN.kl [1,2,1000] V20
           ·trivial
         ·skip
          have hg:decide (((Qs w k).length:Int)>0)=true:=by have:=List.length_pos_iff.2 hl0;simp;omega
          have hll:=List.length_pos_iff.2 hl0
          obtain ⟨y,hy⟩:∃y,(Qs w k)[(Qs w k).length-1]? = some y:=⟨_,List.getElem?_eq_getElem (by omega)⟩
          have hyl:(Qs w k).getLast? = some y:=by rw [List.getLast?_eq_getElem?];exact hy
          have t1:(((Qs w k).length:Int)-1).toNat=(Qs w k).length-1:=by omega
          refine JB.opk 24 ?_
          have X:=((X.a hg).a hy).a t1
          iterate 3 (refine JG.o1 J8 ?_)
          iterate 2 (refine JG.y1 J8 ?_)
          refine JG.y1 V60 ?_
          refine JG.y1 V74 ?_
          iterate 5 (refine JG.y1 J8 ?_)
          refine JG.y1 V60 ?_
          refine JG.y1 V74 ?_
          iterate 4 (refine JG.y1 J8 ?_)
          refine JG.y1 V60 ?_
          iterate 2 (refine JG.y1 J8 ?_)
          refine JG.o1 J8 ?_
          refine JG.nil (QK.finT JL JL JL ?_)
          refine JB.cnd J8 (fun hb72=>?_) (fun hb72=>?_)
          ·skip
           have hy3:y=⟨2,a,y.b,(d:Int)-1⟩:=by
            obtain ⟨k0,a0,b0,c0⟩:=y
            simp only [Bool.and_eq_true,beq_iff_eq] at hb72
            obtain ⟨q1,q2,q3⟩:=hb72
            subst q1 q2 q3;rfl
           have e:Qs w (k+1)=(Qs w k).set ((Qs w k).length-1) ⟨y.kind,y.a,y.b,d⟩:=by
            rw [e1];unfold JCJ;rw [hyl];simp only;rw [if_pos hy3,JR8 hyl]
           refine JB.reg ?_
           iterate 2 (refine JA.o1 J8 ?_)
           refine JA.o1 V60 ?_
           iterate 2 (refine JA.o1 J8 ?_)
           refine JA.o1 V74 ?_
           iterate 2 (refine JA.o1 J8 ?_)
           refine JA.nil ?_
           refine JR.mis (by decide) ?_
           refine QA.hit ?_
           refine ZM.nrm ?_ ?_
           ·exact JN.kl [1,2,1000] (by simp only [go_sem,X.h,repD,JAA]<;>first|((repeat' (first|with_reducible_and_instances rfl|refine Q6 ?_ ?_ ?_|refine Q4 ?_|refine Q8 ?_|refine Q7 ?_ ?_|refine Qw ?_|refine Qy ?_|refine Q9 ?_|refine Q1 ?_ ?_|refine Q3 ?_ ?_|refine Q5 ?_|refine Qx ?_|(refine Qz ?_;omega)));all_goals (simp [e,List.map_set,JGv]))|rfl)
           ·trivial
          ·skip
           have hy3:¬y=⟨2,a,y.b,(d:Int)-1⟩:=fun hy4=>by
            rw [hy4] at hb72;simp at hb72
           have e:Qs w (k+1)=Qs w k++[⟨2,a,d,d⟩]:=by
            rw [e1];unfold JCJ;rw [hyl];simp only;rw [if_neg hy3]
           refine JR.nrm (JB.reg1 ?_)
           iterate 3 (refine JA.o1 J8 ?_)
           refine JA.o1 V5 ?_
           refine JA.o1 J8 ?_
           refine JA.nil (QA.nrm ?_)
           refine ZM.nrm ?_ ?_
           ·exact JN.kl [1,2,1000] V20
           ·trivial
        ·exact absurd hb40 (by simp)
  ·skip
   obtain ⟨q,hq⟩:∃q,Zj (YK w r)=some q:=by
    cases h:Zj (YK w r) with
    |none=>exact absurd h hf
    |some q=>exact ⟨q,rfl⟩
   have hft:¬JBK w r=true:=by unfold JBK;rw [hq];exact Bool.false_ne_true
   have e:Qs w (k+1)=Qs w k:=by rw [JIt hr];unfold JAQ;rw [if_neg hft]
   refine JB.reg ?_
   have X:=(Fx.mk hq).a e
   iterate 2 (refine JA.o1 J8 ?_)
   refine JA.c1 (JLv w r h1 h2 hw hok) J8 J8 ?_
   refine JA.c1 (JGh (YK w r) (by rw [hwk.2.1];exact h1) (by omega) (fun h=>Nat.le_trans (JNG hok h) (h20 h)) hwk.1) J8 J8 ?_
   iterate 7 (refine JA.o1 J8 ?_)
   refine JA.nil (JB.assocS (JB.reg ?_))
   refine JA.o1 J8 ?_
   refine JA.nil ?_
   refine JB.cndS J8 (fun hb23=>?_) (fun hb23=>?_)
   ·skip
    refine JB.exitS (QA.hit ?_)
    refine ZM.nrm ?_ ?_
    ·exact JN.kl [1,2,1000] (by simp only [go_sem,X.h,repD,JAA]<;>first|exact QB|rfl)
    ·trivial
   ·exact absurd hb23 (by simp)
 ·skip
  have e:Qs w (ZL (Zw w)).length=JDv w:=by rw [JKF];exact JRI w
  have hle:=JJR w (ZL (Zw w)).length (by rw [JKF];omega)
  rw [e,JKF] at hle
  refine JR.nrm (JB.reg ?_)
  refine JA.frz 1000 JF ?_
  have X:=Fx.mk e
  iterate 2 (refine JA.o1 JC ?_)
  refine JA.nil ?_
  exact Ends.fin [] (rs:=[.cell 2 43]) rfl JC (by simp only [go_sem,X.h]<;>first|rfl|((repeat' (first|with_reducible_and_instances rfl|refine Q6 ?_ ?_ ?_|refine Q4 ?_|refine Q8 ?_|refine Q7 ?_ ?_|refine Qw ?_|refine Qy ?_|refine Q9 ?_|refine Q1 ?_ ?_|refine Q3 ?_ ?_|refine Q5 ?_|refine Qx ?_|(refine Qz ?_;omega)));(exact (List.take_of_length_le (by simp)).symm)))
theorem JQH (w:JP)(h1:w.rates.length≤1000)(h2:w.readings.length≤1000)(h20:QM w=true→∀h,(Jo w h).length≤39):Jf Tryz.prog 20 [JAU w] (JRK (JBJ w)) []:=by
 refine Jq Jj Tryz.func20 rfl (by simp only [List.length_cons,List.length_nil,Tryz.ntmps20];omega) JL rfl ?_
 refine JB.reg ?_
 iterate 3 (refine JA.o ?_)
 refine JA.nil (JB.assocS (JB.reg ?_))
 refine JA.o ?_
 refine JA.c1 (JIe w h1 h2 h20) JF JF ?_
 iterate 7 (refine JA.o ?_)
 refine JA.nil (JB.assocS (JB.reg ?_))
 iterate 2 (refine JA.o ?_)
 refine JA.nil ?_
 refine JB.cndS JF (fun hb14=>?_) (fun hb14=>?_)
 ·skip
  have he:¬(ZH w).2.2=0:=by simpa using hb14
  have hr:JBJ w=([],(ZH w).2.2):=JRM he
  refine JB.assocS (JB.reg ?_)
  have X:=Fx.mk hr
  iterate 3 (refine JA.o1 JC ?_)
  refine JA.nild 2 4 JF JF ?_
  refine JA.nil (JB.retS ?_)
  exact Ends.fin [] (rs:=[.tmp 2,.tmp 3]) rfl JC Qk
 ·skip
  have he:(ZH w).2.2=0:=by simpa using hb14
  obtain ⟨hw,hf⟩:=JSc he
  have hall:=JRH hw
  refine JB.skipS (JB.assocS (JB.reg ?_))
  refine JA.o ?_
  refine JA.c1 (JQI w h1 h2 (h20 hw) hw) JF JF ?_
  refine JA.o ?_
  refine JA.nil (JB.assocS (JB.reg ?_))
  iterate 3 (refine JA.o ?_)
  refine JA.nil ?_
  refine JB.cndS JF (fun hb20=>?_) (fun hb20=>?_)
  ·skip
   have h0:JBo w=[]:=by rw [←hall];exact List.eq_nil_of_length_eq_zero (Int.ofNat_inj.1 (by simpa using hb20))
   have hr:JBJ w=([],6):=by rw [JBJ,if_pos hw,if_neg (by simp [hf]),if_pos h0]
   refine JB.assocS (JB.reg ?_)
   have X:=Fx.mk hr
   iterate 2 (refine JA.o1 JC ?_)
   refine JA.nild 2 4 JF JF ?_
   refine JA.nil (JB.retS ?_)
   exact Ends.fin [] (rs:=[.tmp 2,.tmp 3]) rfl JC Qk
  ·skip
   have h0:¬JBo w=[]:=fun h=>by rw [hall,h] at hb20;simp at hb20
   have hr:JBJ w=(JBo w,0):=by rw [JBJ,if_pos hw,if_neg (by simp [hf]),if_neg h0]
   refine JB.skipS (JB.reg ?_)
   have X:=(Fx.mk hr).a hall
   iterate 3 (refine JA.o1 JC ?_)
   refine JA.nil ?_
   exact Ends.fin [] (rs:=[.tmp 2,.tmp 3]) rfl JC Qk
end Go.Mw.Cd
namespace Go.Mw.Cd
open Go.Bk
def JB0 (w:JP)(i:Nat):Pg:=⟨(i:Int),(Jo w i).map fun k=>(rd w k).shows⟩
def Yt (w:JP):List Pg:=(List.range w.rates.length).map (JB0 w)
theorem JNk (w:JP):(Yt w).length=w.rates.length:=by unfold Yt;rw [List.length_map,List.length_range]
theorem JTG {w:JP}{i:Nat}(h:i<w.rates.length):(Yt w)[i]? = some (JB0 w i):=by
 unfold Yt;rw [List.getElem?_map,List.getElem?_range h];rfl
theorem JNj (w:JP)(i:Nat):(JB0 w i).reads.length≤w.readings.length:=by
 show ((Jo w i).map _).length≤_
 rw [List.length_map];exact JD8 w i
theorem JNl {w:JP}:∀x∈Yt w,x.reads.length≤w.readings.length:=fun x h=>by
 obtain ⟨i,_,rfl⟩:=List.mem_map.1 h
 exact JNj w i
theorem JN8:∀(n m:Nat),JAP ((List.range' m n).map fun i:Nat=>(i:Int))=true
 |0,_=>rfl
 |1,_=>rfl
 |n+2,m=>by
  have ih:=JN8 (n+1) (m+1)
  rw [List.range'_succ,List.range'_succ]
  rw [List.range'_succ] at ih
  simp only [List.map_cons,JAP,Bool.and_eq_true,decide_eq_true_eq] at ih ⊢
  exact ⟨by omega,ih⟩
theorem JTr (w:JP):JAP ((Yt w).map Pg.house)=true:=by
 have:=JN8 w.rates.length 0
 unfold Yt
 rw [List.map_map]
 rw [←List.range_eq_range'] at this
 exact this
theorem JLb {w:JP}{s:YB}(hs:0≤s.lo):∀(l:List Nat),Asc w l→JAF w s l=none→JAd (l.map fun k=>(rd w k).shows)=true
 |[],_,_=>rfl
 |[_],_,_=>rfl
 |a::b::r,ha,h=>by
  unfold JAF at h
  split at h
  ·next ht=>
   have ih:=JLb hs (b::r) (fun i j x y hij hx hy=>ha (i+1) (j+1) x y (by omega) (by simpa using hx) (by simpa using hy)) h
   have hd:=ha 0 1 a b (by omega) rfl rfl
   unfold JBA at ht
   simp only [Bool.and_eq_true,decide_eq_true_eq] at ht
   have hm:0≤s.lo*((rd w b).day-(rd w a).day):=Int.mul_nonneg hs (by omega)
   simp only [List.map_cons,JAd,Bool.and_eq_true,decide_eq_true_eq] at ih ⊢
   exact ⟨by omega,ih⟩
  ·cases h
theorem JTD {w:JP}(hw:QM w=true)(h16:w.readings.length≤16){i:Nat}(hi:i<w.rates.length)(hb:YP w i=none):Yb (JB0 w i)=true:=by
 have hl:=JDW hw
 have hs:=JLb (JHT hw hi).1 (Jo w i) (JIY w i) hb
 have hlen:=JNj w i
 unfold Yb
 simp only [Bool.and_eq_true,JAj,decide_eq_true_eq,List.all_eq_true]
 refine ⟨⟨⟨⟨?_,?_⟩,by omega⟩,fun n hn=>?_⟩,hs⟩
 ·show (0:Int)≤(i:Int);omega
 ·show (i:Int)≤9999;omega
 ·obtain ⟨k,hk,rfl⟩:=List.mem_map.1 hn
  have:=JAo hw (JAN.1 hk).1
  omega
theorem JTH {w:JP}(hw:QM w=true)(h16:w.readings.length≤16):Yg (Yt w)=0∨(Yg (Yt w)=1∧(ZH w).2.2=0):=by
 have hl:=JDW hw
 have hE:Yg (Yt w)=if (Yt w).all Yb then 0 else 1:=by
  unfold Yg JAz
  rw [if_neg (by rw [JNk];omega),JTr];rfl
 cases hm:Zj w with
 |none=>
  left
  rw [hE,if_pos]
  refine List.all_eq_true.2 fun x hx=>?_
  obtain ⟨i,hi,rfl⟩:=List.mem_map.1 hx
  exact JTD hw h16 (List.mem_range.1 hi) (JJn hm i hi)
 |some p=>
  have hr:(ZH w).2.2=0:=by unfold ZH;rw [if_pos hw,hm]
  by_cases ha:(Yt w).all Yb=true
  ·left;rw [hE,if_pos ha]
  ·right;exact ⟨by rw [hE,if_neg ha],hr⟩
end Go.Mw.Cd
namespace Go.Mw.Cd
open Go.Proofs
open Go.Bk
attribute [local go_sem] decide_true beq_self_eq_true bne_self_eq_false
def aw:JP:=⟨[⟨1,3⟩],[]⟩
def awP:List Pg:=[⟨7,[100,110,120]⟩]
def awB:List UInt8:=[55,32,49,48,48,32,50,120,49,48,10]
theorem JPS:JB6 awP=awB:=by decide +kernel
theorem JPQ:Yg awP=0:=by decide +kernel
theorem JPR:ZH aw=(0,0,4):=by decide +kernel
theorem JP7 (l:List YM)(hl:l.length≤1000):Jf Tryz.prog 21 [.leaf (.d (JHW l)),.leaf (.d (JHW l))] (.bool true) []:=by
 refine Jq Jj Tryz.func21 rfl (by simp only [List.length_cons,List.length_nil,Tryz.ntmps21];omega) JL rfl ?_
 refine JB.reg ?_
 refine JA.o ?_
 refine JA.nil (JB.assocS (JB.reg ?_))
 iterate 5 (refine JA.o ?_)
 refine JA.nil ?_
 refine JB.cndS JF (fun hb10=>?_) (fun hb10=>?_)
 ·exact absurd hb10 (by simp)
 ·skip
  refine JB.skipS (JB.assocS (JB.reg ?_))
  refine JA.o ?_
  refine JA.nil (JB.blk ?_)
  refine JB.forA [0,1,5] [] (l.length) (fun k=>[.slot 5 (.int k)]) (fun _=>True) (fun k=>by simp only [go_sem]<;>rfl) JF ?_ (fun k hk hX=>?_)
  ·trivial
  ·skip
   refine JB.assocS (JB.reg ?_)
   iterate 4 (refine JA.o ?_)
   refine JA.nil ?_
   refine JB.cndS JF (fun hb14=>?_) (fun hb14=>?_)
   ·skip
    have hlt:=Yo hb14
    obtain ⟨a,ha⟩:∃a,l[k]? = some a:=⟨_,List.getElem?_eq_getElem hlt⟩
    refine JB.skipS (JB.blk ?_)
    refine JB.opk 11 ?_
    have X:=Fx.mk ha
    iterate 2 (refine JG.o1 JC ?_)
    refine JG.o1 QG ?_
    iterate 3 (refine JG.o1 JC ?_)
    refine JG.o1 QG ?_
    iterate 2 (refine JG.o1 JC ?_)
    refine JG.nil (QK.fin Qb Qb ?_)
    refine JB.cnd JC (fun hb25=>?_) (fun hb25=>?_)
    ·exact absurd hb25 (by simp)
    ·skip
     refine JR.nrm (JB.reg1 ?_)
     refine JA.o1 JC ?_
     refine JA.o1 Jx ?_
     refine JA.o1 JC ?_
     refine JA.nil ?_
     refine JU.nxt ?_ ?_ ?_
     ·omega
     ·exact JN.kp [0,1,5] [] Yi
     ·trivial
   ·skip
    refine JB.exitS (JU.ext (JR.hit (JB.reg ?_)))
    refine JA.o ?_
    refine JA.nil ?_
    exact Ends.fin [] (rs:=[.tmp 4]) rfl JF Y3
theorem JEr:Jf Tryz.prog 14 [] (.bool true) []:=by
 have k1:=JLq awP (by decide) (by decide)
 rw [JPS,JPQ] at k1
 have k2:=JIe aw (by decide) (by decide) (fun _ h=>Nat.le_trans (JD8 aw h) (by decide))
 rw [JPR] at k2
 have z0:((0:Int)==0)=true:=rfl
 have z4:((4:Int)==4)=true:=rfl
 refine Jq Jj Tryz.func14 rfl (by simp only [List.length_cons,List.length_nil,Tryz.ntmps14];omega) JL rfl ?_
 refine JB.reg ?_
 have X:=(Fx.mk z0).a z4
 refine JA.o1 JC ?_
 refine JA.nil (JB.reg ?_)
 refine JA.o1 JC ?_
 refine JA.frz 7 JF ?_
 iterate 2 (refine JA.o1 JC ?_)
 refine JA.frz 9 JF ?_
 refine JA.c1 (k1) JC JC ?_
 iterate 5 (refine JA.o1 JC ?_)
 refine JA.nil (JB.reg ?_)
 iterate 2 (refine JA.o1 JC ?_)
 refine JA.frz 15 JF ?_
 refine JA.o1 JC ?_
 refine JA.nildA 16 1 3 JF rfl JF ?_
 refine JA.c1 (k2) JC JC ?_
 iterate 7 (refine JA.o1 JC ?_)
 refine JA.nil (JB.reg ?_)
 iterate 3 (refine JA.o1 JC ?_)
 iterate 2 (refine JA.y1 JC ?_)
 iterate 2 (refine JA.o1 JC ?_)
 iterate 2 (refine JA.y1 JC ?_)
 iterate 2 (refine JA.o1 JC ?_)
 refine JA.nil ?_
 exact Ends.fin [] (rs:=[.tmp 0]) rfl JC Qk
end Go.Mw.Cd

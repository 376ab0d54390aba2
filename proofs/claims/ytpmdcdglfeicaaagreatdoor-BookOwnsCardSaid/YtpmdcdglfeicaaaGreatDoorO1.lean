/- The statement BookOwns, as a contract. -/
import Derived.Test.YtpmdcdglfeicaaaGreatDoorD1
import Derived.Test.YtpmdcdglfeicaaaGreatDoorB4
import Derived.Test.YtpmdcdglfeicaaaGreatDoorB12
import Derived.Test.YtpmdcdglfeicaaaGreatDoorB11
import Derived.Test.YtpmdcdglfeicaaaGreatDoorB9
import Derived.Test.YtpmdcdglfeicaaaGreatDoorB10
import Derived.Test.YtpmdcdglfeicaaaGreatDoorRows
import Derived.Test.YtpmdcdglfeicaaaGreatDoorCards
import Derived.Test.YtpmdcdglfeicaaaGreatDoorTie
import Derived.SevenTiedAt
import Derived.Stop.Joined
set_option maxRecDepth 100000
set_option maxHeartbeats 16000000
set_option linter.unusedSimpArgs false
set_option linter.unusedVariables false
set_option linter.unusedSectionVars false
set_option linter.deprecated false
namespace Go.Mw
open Go.Proofs
open Go.Bk
open Go.RowKit
attribute [local go_sem] decide_true beq_self_eq_true bne_self_eq_false
theorem JVh (l:List Pl):(Y0 l).length≤1000000:=by
 unfold Y0
 split
 ·next h=>
  obtain ⟨hch,h60⟩:=JGx h
  obtain ⟨h1,h2,_⟩:=JAn h
  have hx65:∀x∈l,x.num≤65535:=fun x hx=>by
   have h:=List.all_eq_true.1 h2 x hx
   unfold JAH at h
   simp only [Bool.and_eq_true,ZC] at h
   omega
  have hk:=(JGw l 0 hch ⟨by omega,by omega⟩ hx65 l.length).1
  rw [List.take_length] at hk
  unfold JFs
  rw [JDV]
  unfold Q2 J3
  rw [List.length_append,List.length_append,List.length_replicate,Yd]
  omega
 ·simp
theorem JPa {b:Bs}{n:Nat}{c:UInt8}(h:b[n]? = some c):(Jx b)[n]? = some [.raw (.int .u8 (c.toNat:Int))]:=by unfold Jx;rw [List.getElem?_map,h];rfl
theorem JNk (r:Option (List Pg)):rgE r=.tup [(false,[.d (Yt (r.getD []))]),(false,[.d (.i (bif r.isSome then 0 else 8))])]:=by cases r<;>rfl
theorem JNl (b:Bs):((JAh b).getD []).length≤32∧∀x∈(JAh b).getD [],x.reads.length≤16:=by
 cases h:JAh b with
 |none=>exact ⟨Nat.zero_le _,fun x hx=>by cases hx⟩
 |some l=>
  obtain ⟨h1,h2,_⟩:=JAn (JJu.1 h).1
  exact ⟨h1,fun x hx=>(JDW.1 (List.all_eq_true.1 h2 x hx)).2.1⟩
theorem JTo (r:Option (List Pl)):rdE r=.tup [(false,[.d (Yu (r.getD []))]),(false,[.d (.i (bif r.isSome then 0 else 8))])]:=by cases r<;>rfl
theorem JTp (b:Bs):((ZN b).getD []).length≤60:=by
 cases h:ZN b with
 |none=>exact Nat.zero_le _
 |some l=>exact (JAn (JTT.1 h).1).1
theorem JPi (s:List Sh)(p:List Pl)(g:List Pg)(b t:Bs)(hs:s.length≤9223372036854775807)(hp:p.length≤9223372036854775807)(hg:g.length≤9223372036854775807)(hb:b.length≤9223372036854775807)(ht:t.length≤9223372036854775807):Jb Tryz.prog 8 [.leaf (.d (Z6 s)),.leaf (.d (Yu p)),.leaf (.d (Yt g)),.leaf (.d (Y5 b)),.str t] (.bool true) []:=by
 have k0:=JQX s p g hs hp hg
 have hbyl:=ZH b
 refine Js Jf Tryz.func8 rfl (by simp only [List.length_cons,List.length_nil,Tryz.ntmps8];omega) JJ rfl ?_
 refine JB.reg ?_
 refine JA.o ?_
 refine JA.nil (JB.assocS ?_)
 by_cases hg1:JAN s p g=true
 ·skip
  refine JB.reg ?_
  have X:=Fx.mk hg1
  iterate 3 (refine JA.o1 JC ?_)
  refine JA.c1 (k0) JC JC ?_
  refine JA.o1 JC ?_
  iterate 3 (refine JA.s ?_)
  iterate 2 (refine JA.o1 JC ?_)
  iterate 3 (refine JA.s ?_)
  refine JA.o1 JC ?_
  refine JA.nil ?_
  refine JB.cndS JC (fun hb52=>?_) (fun hb52=>?_)
  ·skip
   refine JB.assocS (JB.reg ?_)
   refine JA.c1 (JGn) JC JC ?_
   refine JA.o1 JC ?_
   refine JA.nil (JB.retS ?_)
   exact Ends.fin [] (rs:=[.tmp 10]) rfl JC Qs
  ·exact absurd hb52 (by simp)
 ·skip
  have hgf:JAN s p g=false:=by simpa using hg1
  obtain ⟨⟨b1,b2⟩,b3,b4,b5⟩:=JSR hgf
  by_cases hb4:400<b.length
  ·skip
   have d1:decide ((b.length:Int)>400)=true:=decide_eq_true (by omega)
   refine JB.reg ?_
   have X:=((Fx.mk hgf).a d1).a hbyl
   iterate 3 (refine JA.o1 JC ?_)
   refine JA.c1 (k0) JC JC ?_
   refine JA.o1 JC ?_
   iterate 3 (refine JA.y1 JC ?_)
   iterate 2 (refine JA.o1 JC ?_)
   iterate 3 (refine JA.s ?_)
   refine JA.o1 JC ?_
   refine JA.nil ?_
   refine JB.cndS JC (fun hb52=>?_) (fun hb52=>?_)
   ·skip
    refine JB.assocS (JB.reg ?_)
    refine JA.c1 (JGn) JC JC ?_
    refine JA.o1 JC ?_
    refine JA.nil (JB.retS ?_)
    exact Ends.fin [] (rs:=[.tmp 10]) rfl JC Qs
   ·exact absurd hb52 (by simp)
  ·skip
   have d1:decide ((b.length:Int)>400)=false:=decide_eq_false (by omega)
   refine JB.reg ?_
   have X:=((Fx.mk hgf).a d1).a hbyl
   iterate 3 (refine JA.o1 JC ?_)
   refine JA.c1 (k0) JC JC ?_
   refine JA.o1 JC ?_
   iterate 3 (refine JA.y1 JC ?_)
   iterate 2 (refine JA.o1 JC ?_)
   iterate 3 (refine JA.y1 JC ?_)
   refine JA.o1 JC ?_
   refine JA.nil ?_
   refine JB.cndS JC (fun hb52=>?_) (fun hb52=>?_)
   ·skip
    refine JB.assocS (JB.reg ?_)
    refine JA.c1 (JGn) JC JC ?_
    refine JA.o1 JC ?_
    refine JA.nil (JB.retS ?_)
    exact Ends.fin [] (rs:=[.tmp 10]) rfl JC Qs
   ·skip
    have ht3:t.length≤3000:=by have:=of_decide_eq_false hb52;omega
    have k1:=JLQ s (by omega) (fun x hx=>by have:=b2 x hx;omega)
    have k2:=JLO g (by omega) (fun x hx=>by have:=b5 x hx;omega)
    have k4:=JP0 b (by omega)
    unfold rdO at k4
    have k5:=JLP p (by omega)
    have k6:=JLL b (by omega)
    rw [JTo] at k6
    have hrl:=JTp b
    obtain ⟨xp,hxp⟩:∃xp,(ZN b).getD []=xp:=⟨_,rfl⟩
    obtain ⟨fe,hfe⟩:∃fe:Int,(bif (ZN b).isSome then 0 else 8)=fe:=⟨_,rfl⟩
    rw [hxp,hfe] at k4 k6
    rw [hxp] at hrl
    have k7:=JPy t (by omega)
    rw [JNk] at k7
    have k8:=JQt t (by omega)
    rw [JNk,←JJj] at k8
    obtain ⟨he,hhe⟩:∃he:Int,(bif (ZM t).isSome then 0 else 8)=he:=⟨_,rfl⟩
    rw [hhe] at k7 k8
    have m1:=JP3 s s (by omega) (by omega) (fun x hx=>by have:=b2 x hx;omega)
    rw [decide_eq_true (rfl:s=s)] at m1
    have m2:=JIe p p (by omega) (by omega)
    rw [decide_eq_true (rfl:p=p)] at m2
    have m3:=JLM g g (by omega) (by omega) (fun x hx=>by have:=b5 x hx;omega)
    rw [decide_eq_true (rfl:g=g)] at m3
    have m4:=JIe xp xp (by omega) (by omega)
    rw [decide_eq_true (rfl:xp=xp)] at m4
    obtain ⟨hq1,hq2⟩:=JNl t
    rw [←JJj] at hq1 hq2
    have m5:=JLM ((ZM t).getD []) ((ZM t).getD []) (by omega) (by omega) (fun x hx=>by have:=hq2 x hx;omega)
    rw [decide_eq_true (rfl:(ZM t).getD []=(ZM t).getD [])] at m5
    have hbw:=ZH (Y0 p)
    have hwL:=JVh p
    have hxl:(xp.map Y7).length=xp.length:=List.length_map _
    have hxt:(xp.map Y7).take xp.length=xp.map Y7:=by rw [←hxl];exact List.take_length
    refine JB.skipS ?_
    refine JB.opk 9 ?_
    refine JF.bs0 (e:=70) (k:=3) JJ JJ JD JD JD ?_
    have X:=X.a hbw
    refine JF.o1 JC ?_
    refine JF.apq 70 (n:=24) JD JD JD JD JJ JJ (by decide) ⟨by (try simp only [List.length_map]);omega,by decide⟩ JD JD ?_
    refine JF.o1 JC ?_
    refine JF.val [.slot 57] (fun A' hA=>JF7 Tryz.underlying53 Tryz.underlying5 Tryz.underlying9 (l:=b) (.inl (by have hs:=hA (.slot 57) (by simp);simp only [Mw.agree] at hs;refine Eq.trans hs ?_;simp only [go_sem]<;>rfl))) JD JD JD ?_
    iterate 2 (refine JF.o1 JC ?_)
    refine JF.nil (QO.fin QZ QZ ?_)
    refine JB.reg ?_
    refine JA.o1 JC ?_
    refine JA.nilo 13 1000 68 2 JD JD (by omega) (by omega) JD ?_
    refine JA.nil (JB.assocS (JB.reg ?_))
    iterate 3 (refine JA.o1 JC ?_)
    refine JA.nil (JB.blk ?_)
    refine JB.forA [0,1,2,3,4,11,12,13,59,60,61] [1000] (s.length) (fun k=>[.slot 61 (.int k),.slot 13 (.leaf (.own 1000 0 k k)),.obj 1000 (.arr 68 2 ((s.take k).map JBn))]) (fun _=>True) (fun k=>by simp only [go_sem]<;>rfl) (by simp only [go_sem,X.h,Int.natCast_zero,List.take_zero,List.map_nil]<;>rfl) ?_ (fun k hk hX=>?_)
    ·trivial
    ·skip
     refine JB.reg ?_
     refine JA.o1 JC ?_
     refine JA.nil ?_
     refine JB.cndS JC (fun hb62=>?_) (fun hb62=>?_)
     ·skip
      have hlt:=Yk hb62
      obtain ⟨x,hx⟩:=Yj hb62
      have htk:=Yf hx
      have hxt:=b2 x (List.mem_of_getElem? hx)
      have hlk:((s.take k).map JBn).length=k:=by rw [List.length_map,List.length_take];omega
      refine JB.skipS (JB.blk (JB.reg ?_))
      have X:=((X.a hx).a htk).a hlk
      refine JA.o1 (by simp only [go_sem,X.h,List.map_append,List.map_cons,List.map_nil];(try simp (disch:=omega) only [if_pos]);(try simp only [go_sem,X.h,List.map_append,List.map_cons,List.map_nil])<;> rfl) ?_
      iterate 3 (refine JA.o1 V93 ?_)
      refine JA.nil ?_
      refine JB.opk1 13 ?_
      iterate 3 (refine JF.o1 V93 ?_)
      refine JF.bs0 (e:=146) (k:=3) JJ JJ JD JD JD ?_
      iterate 2 (refine JF.o1 V93 ?_)
      have X:=Fx.mk hx
      refine JF.apq 146 (n:=24) JD JD JC JD JJ JJ (by decide) ⟨by (try simp only [List.length_map]);omega,by decide⟩ JD JC ?_
      have X:=((((((Fx.mk hgf).a d1).a hbyl).a hbw).a hx).a htk).a hlk
      iterate 2 (refine JF.o1 V93 ?_)
      refine JF.o1 (by simp only [go_sem,X.h,List.map_append,List.map_cons,List.map_nil];(try simp (disch:=omega) only [if_pos]);(try simp only [go_sem,X.h,List.map_append,List.map_cons,List.map_nil])<;>first|(refine JAf ⟨by (try simp only [List.length_append,List.length_drop,List.length_take,List.length_map,List.length_cons,List.length_nil,List.length_replicate,List.length_set,List.length_range,Nat.zero_add]);omega,by (try simp only [List.length_append,List.length_drop,List.length_take,List.length_map,List.length_cons,List.length_nil,List.length_replicate,List.length_set,List.length_range,Nat.zero_add]);omega,by repeat (first|exact JAa|assumption|refine JAW ?_ ?_|refine JAY ?_|refine JAc ?_|exact JAZ (fun _=>rfl)|exact JAb rfl|refine JAX rfl ?_)⟩ ?_;simp only [go_sem,X.h,List.map_append,List.map_cons,List.map_nil]<;>rfl)|(refine JAf ⟨by (try simp only [List.length_append,List.length_drop,List.length_take,List.length_map,List.length_cons,List.length_nil,List.length_replicate,List.length_set,List.length_range,Nat.zero_add]);omega,by repeat (first|exact JAa|assumption|refine JAW ?_ ?_|refine JAY ?_|refine JAc ?_|exact JAZ (fun _=>rfl)|exact JAb rfl|refine JAX rfl ?_)⟩ ?_;simp only [go_sem,X.h,List.map_append,List.map_cons,List.map_nil]<;>rfl)|rfl) ?_
      refine JF.o1 V93 ?_
      refine JF.nil (QO.fin QZ QZ ?_)
      refine JR.nrm (JB.reg1 ?_)
      refine JA.o1 (by simp only [go_sem,X.h,List.map_append,List.map_cons,List.map_nil];(try simp (disch:=omega) only [IntWalk.i64_in,IntWalk.u64_in,IntWalk.i32_in,IntWalk.u8_in,if_neg,if_pos])<;> rfl) ?_
      refine JA.o1 V93 ?_
      refine JA.nil ?_
      refine JU.nxt ?_ ?_ ?_
      ·omega
      ·exact JN.kp [0,1,2,3,4,11,12,13,59,60,61] [1000] (by simp only [go_sem,X.h,List.map_append,List.map_cons,List.map_nil]<;>first|exact QP|rfl)
      ·trivial
     ·skip
      have hke:k=s.length:=by have:=Yo hb62;omega
      subst hke
      have htl62:s.take s.length=s:=List.take_length
      have hlm62:(s.map JBn).length=s.length:=List.length_map _
      have hta62:(s.map JBn).take s.length=s.map JBn:=by rw [←hlm62];exact List.take_length
      refine JB.exitS (JU.ext (JR.hit (JB.reg ?_)))
      have X:=((Fx.mk htl62).a hlm62).a hta62
      refine JA.frz 1000 JDw ?_
      have X:=((((((Fx.mk hgf).a d1).a hbyl).a hbw).a htl62).a hlm62).a hta62
      refine JA.o1 JDw ?_
      refine JA.nilo 16 1000 31 2 JD JD (by omega) (by omega) JD ?_
      refine JA.nil (JB.assocS (JB.reg ?_))
      iterate 3 (refine JA.o1 JDw ?_)
      refine JA.nil (JB.blk ?_)
      refine JB.forA [0,1,2,3,4,11,12,13,16,76,77,78] [1000] (g.length) (fun k=>[.slot 78 (.int k),.slot 16 (.leaf (.own 1000 0 k k)),.obj 1000 (.arr 31 2 ((g.take k).map Yx))]) (fun _=>True) (fun k=>by simp only [go_sem]<;>rfl) (by simp only [go_sem,X.h,eq_self,if_true,List.drop_zero,Int.natCast_zero,List.take_zero,List.map_nil]<;>rfl) ?_ (fun k hk hX=>?_)
      ·trivial
      ·skip
       refine JB.reg ?_
       refine JA.o1 JDw ?_
       refine JA.nil ?_
       refine JB.cndS JDw (fun hb79=>?_) (fun hb79=>?_)
       ·skip
        have hlt:=Yk hb79
        obtain ⟨x,hx⟩:=Yj hb79
        have htk:=Yf hx
        have hxt:=b5 x (List.mem_of_getElem? hx)
        have hlk:((g.take k).map Yx).length=k:=by rw [List.length_map,List.length_take];omega
        refine JB.skipS (JB.blk (JB.reg ?_))
        have X:=((X.a hx).a htk).a hlk
        refine JA.o1 (by simp only [go_sem,X.h,eq_self,if_true,List.drop_zero,List.map_append,List.map_cons,List.map_nil];(try simp (disch:=omega) only [if_pos]);(try simp only [go_sem,X.h,eq_self,if_true,List.drop_zero,List.map_append,List.map_cons,List.map_nil])<;> rfl) ?_
        iterate 3 (refine JA.o1 V81 ?_)
        refine JA.nil ?_
        refine JB.opk1 13 ?_
        iterate 3 (refine JF.o1 V81 ?_)
        refine JF.bs0 (e:=3) (k:=1) JJ JJ JD JD JD ?_
        iterate 2 (refine JF.o1 V81 ?_)
        have X:=Fx.mk hx
        refine JF.apq 3 (n:=8) JD JD JC JD JJ JJ (by decide) ⟨by (try simp only [List.length_map]);omega,by decide⟩ JD JC ?_
        have X:=(((((((((Fx.mk hgf).a d1).a hbyl).a hbw).a htl62).a hlm62).a hta62).a hx).a htk).a hlk
        iterate 2 (refine JF.o1 V81 ?_)
        refine JF.o1 (by simp only [go_sem,X.h,eq_self,if_true,List.drop_zero,List.map_append,List.map_cons,List.map_nil];(try simp (disch:=omega) only [if_pos]);(try simp only [go_sem,X.h,eq_self,if_true,List.drop_zero,List.map_append,List.map_cons,List.map_nil])<;>first|(refine JAf ⟨by (try simp only [List.length_append,List.length_drop,List.length_take,List.length_map,List.length_cons,List.length_nil,List.length_replicate,List.length_set,List.length_range,Nat.zero_add]);omega,by (try simp only [List.length_append,List.length_drop,List.length_take,List.length_map,List.length_cons,List.length_nil,List.length_replicate,List.length_set,List.length_range,Nat.zero_add]);omega,by repeat (first|exact JAa|assumption|refine JAW ?_ ?_|refine JAY ?_|refine JAc ?_|exact JAZ (fun _=>rfl)|exact JAb rfl|refine JAX rfl ?_)⟩ ?_;simp only [go_sem,X.h,eq_self,if_true,List.drop_zero,List.map_append,List.map_cons,List.map_nil]<;>rfl)|(refine JAf ⟨by (try simp only [List.length_append,List.length_drop,List.length_take,List.length_map,List.length_cons,List.length_nil,List.length_replicate,List.length_set,List.length_range,Nat.zero_add]);omega,by repeat (first|exact JAa|assumption|refine JAW ?_ ?_|refine JAY ?_|refine JAc ?_|exact JAZ (fun _=>rfl)|exact JAb rfl|refine JAX rfl ?_)⟩ ?_;simp only [go_sem,X.h,eq_self,if_true,List.drop_zero,List.map_append,List.map_cons,List.map_nil]<;>rfl)|rfl) ?_
        refine JF.o1 V81 ?_
        refine JF.nil (QO.fin QZ QZ ?_)
        refine JR.nrm (JB.reg1 ?_)
        refine JA.o1 (by simp only [go_sem,X.h,eq_self,if_true,List.drop_zero,List.map_append,List.map_cons,List.map_nil];(try simp (disch:=omega) only [IntWalk.i64_in,IntWalk.u64_in,IntWalk.i32_in,IntWalk.u8_in,if_neg,if_pos])<;> rfl) ?_
        refine JA.o1 V81 ?_
        refine JA.nil ?_
        refine JU.nxt ?_ ?_ ?_
        ·omega
        ·exact JN.kp [0,1,2,3,4,11,12,13,16,76,77,78] [1000] (by simp only [go_sem,X.h,eq_self,if_true,List.drop_zero,List.map_append,List.map_cons,List.map_nil]<;>first|exact QP|rfl)
        ·trivial
       ·skip
        have hke:k=g.length:=by have:=Yo hb79;omega
        subst hke
        have htl79:g.take g.length=g:=List.take_length
        have hlm79:(g.map Yx).length=g.length:=List.length_map _
        have hta79:(g.map Yx).take g.length=g.map Yx:=by rw [←hlm79];exact List.take_length
        refine JB.exitS (JU.ext (JR.hit (JB.reg ?_)))
        have X:=((Fx.mk htl79).a hlm79).a hta79
        refine JA.frz 1000 JDw ?_
        have X:=(((((((((Fx.mk hgf).a d1).a hbyl).a hbw).a htl62).a hlm62).a hta62).a htl79).a hlm79).a hta79
        refine JA.o1 Jw ?_
        refine JA.c1 (k1) Jw Jw ?_
        refine JA.nil (JB.reg ?_)
        refine JA.o1 Jw ?_
        refine JA.c1 (k2) Jw Jw ?_
        refine JA.nil (JB.reg ?_)
        refine JA.o1 Jw ?_
        refine JA.cal (JP8 p (by omega)) JY Jw Qc (fr1 JD) Jw ?_
        iterate 5 (refine JA.o1 Jw ?_)
        refine JA.nil (JB.reg ?_)
        refine JA.o1 Jw ?_
        refine JA.val (JF7 Tryz.underlying53 Tryz.underlying5 Tryz.underlying9 (l:=Y0 p) (.inr (.inr ⟨137005,JD,JD⟩))) JD JD ?_
        refine JA.o1 Jw ?_
        refine JA.nil (JB.assocS (JB.reg ?_))
        iterate 3 (refine JA.o1 Jw ?_)
        refine JA.nil (JB.blk ?_)
        refine JB.forA [0,1,2,3,4,11,12,13,16,19,20,21,105,106] [137005] ((Y0 p).length) (fun k=>[.slot 106 (.int k),.obj 137005 (.arr 5 1 (List.replicate (k) ([.raw (.int .u8 0)]:List D)++(Jx (Y0 p)).drop (k)))]) (fun _=>True) (fun k=>by simp only [go_sem]<;>rfl) (by simp only [go_sem,X.h,eq_self,if_true,List.drop_zero,eq_self,if_true,List.drop_zero,Int.natCast_zero,List.replicate_zero,List.nil_append,List.drop_zero]<;>rfl) ?_ (fun k hk hX=>?_)
        ·trivial
        ·skip
         refine JB.reg ?_
         refine JA.o1 Jw ?_
         refine JA.nil ?_
         refine JB.cndS Jw (fun hb107=>?_) (fun hb107=>?_)
         ·skip
          have hlt:k<(Y0 p).length:=by have:=of_decide_eq_true hb107;omega
          have hwl:=ZH (Y0 p)
          have hst:=JOw ([.raw (.int .u8 0)]:List D) (Jx (Y0 p)) (k:=k) (by omega)
          have hln:(List.replicate (k) ([.raw (.int .u8 0)]:List D)++(Jx (Y0 p)).drop (k)).length=(Y0 p).length:=by rw [List.length_append,List.length_replicate,List.length_drop];omega
          obtain ⟨c,hc⟩:∃c,(Y0 p)[k]? = some c:=⟨_,List.getElem?_eq_getElem hlt⟩
          have hat:(List.replicate (k) ([.raw (.int .u8 0)]:List D)++(Jx (Y0 p)).drop (k))[k]? = some [.raw (.int .u8 (c.toNat:Int))]:=by rw [List.getElem?_append_right (by simp),List.length_replicate,Nat.sub_self,List.getElem?_drop,Nat.add_zero];exact JPa hc
          refine JB.skipS (JB.blk (JB.reg ?_))
          have X:=((X.a hln).a hat).a hst
          iterate 2 (refine JA.o1 V50 ?_)
          refine JA.nil (JB.reg1 ?_)
          iterate 2 (refine JA.o1 V50 ?_)
          refine JA.o1 (by simp only [go_sem,X.h,eq_self,if_true,List.drop_zero,eq_self,if_true,List.drop_zero,List.length_cons,List.length_nil,List.drop_succ_cons,List.drop_zero];(try simp (disch:=omega) only [if_pos]);(try simp only [go_sem,X.h,eq_self,if_true,List.drop_zero,eq_self,if_true,List.drop_zero,List.length_cons,List.length_nil,List.drop_succ_cons,List.drop_zero])<;> rfl) ?_
          refine JA.o1 V50 ?_
          refine JA.nil (JR.nrm (JB.reg1 ?_))
          refine JA.o1 (by simp only [go_sem,X.h,eq_self,if_true,List.drop_zero,eq_self,if_true,List.drop_zero,List.length_cons,List.length_nil,List.drop_succ_cons,List.drop_zero];(try simp (disch:=omega) only [IntWalk.i64_in,IntWalk.u64_in,IntWalk.i32_in,IntWalk.u8_in,if_neg,if_pos])<;> rfl) ?_
          refine JA.o1 V50 ?_
          refine JA.nil ?_
          refine JU.nxt ?_ ?_ ?_
          ·omega
          ·exact JN.kp [0,1,2,3,4,11,12,13,16,19,20,21,105,106] [137005] (by simp only [go_sem,X.h,eq_self,if_true,List.drop_zero,eq_self,if_true,List.drop_zero,List.length_cons,List.length_nil,List.drop_succ_cons,List.drop_zero]<;>first|exact QP|rfl)
          ·trivial
         ·skip
          refine JB.exitS (JU.ext (JR.hit (JB.reg ?_)))
          refine JA.o1 Jw ?_
          refine JA.cal (k4) JY Jw Qc (fr1 JD) Jw ?_
          iterate 5 (refine JA.o1 Jw ?_)
          refine JA.nil (JB.reg ?_)
          iterate 2 (refine JA.o1 Jw ?_)
          refine JA.o1 (by simp only [go_sem,X.h,eq_self,if_true,List.drop_zero,eq_self,if_true,List.drop_zero];(try simp (disch:=omega) only [if_pos]);(try simp only [go_sem,X.h,eq_self,if_true,List.drop_zero,eq_self,if_true,List.drop_zero])<;>first|(refine JAf ⟨by (try simp only [List.length_append,List.length_drop,List.length_take,List.length_map,List.length_cons,List.length_nil,List.length_replicate,List.length_set,List.length_range,Nat.zero_add]);omega,by (try simp only [List.length_append,List.length_drop,List.length_take,List.length_map,List.length_cons,List.length_nil,List.length_replicate,List.length_set,List.length_range,Nat.zero_add]);omega,by repeat (first|exact JAa|assumption|refine JAW ?_ ?_|refine JAY ?_|refine JAc ?_|exact JAZ (fun _=>rfl)|exact JAb rfl|refine JAX rfl ?_)⟩ ?_;simp only [go_sem,X.h,eq_self,if_true,List.drop_zero,eq_self,if_true,List.drop_zero]<;>rfl)|(refine JAf ⟨by (try simp only [List.length_append,List.length_drop,List.length_take,List.length_map,List.length_cons,List.length_nil,List.length_replicate,List.length_set,List.length_range,Nat.zero_add]);omega,by repeat (first|exact JAa|assumption|refine JAW ?_ ?_|refine JAY ?_|refine JAc ?_|exact JAZ (fun _=>rfl)|exact JAb rfl|refine JAX rfl ?_)⟩ ?_;simp only [go_sem,X.h,eq_self,if_true,List.drop_zero,eq_self,if_true,List.drop_zero]<;>rfl)|rfl) ?_
          refine JA.o1 Jw ?_
          have X:=(Fx.mk hxl).a hxt
          refine JA.frz 118 (by simp only [go_sem,X.h,eq_self,if_true,List.drop_zero,List.nil_append]<;>rfl) ?_
          refine JA.nil (JB.assocS (JB.reg ?_))
          have X:=(((((((((Fx.mk hgf).a d1).a hbyl).a hbw).a htl62).a hlm62).a hta62).a htl79).a hlm79).a hta79
          iterate 3 (refine JA.o1 Jw ?_)
          refine JA.nil (JB.blk ?_)
          refine JB.forA [0,1,2,3,4,11,12,13,16,20,21,23,24,25,122,123] [123000] (xp.length) (fun k=>[.slot 123 (.int k),.obj 123000 (.arr 70 3 (JB9 k xp))]) (fun _=>True) (fun k=>by simp only [go_sem]<;>rfl) (by simp only [go_sem,X.h,eq_self,if_true,List.drop_zero,eq_self,if_true,List.drop_zero,Int.natCast_zero,JQ9]<;>rfl) ?_ (fun k hk hX=>?_)
          ·trivial
          ·skip
           refine JB.reg ?_
           refine JA.o1 Jw ?_
           refine JA.nil ?_
           refine JB.cndS Jw (fun hb124=>?_) (fun hb124=>?_)
           ·skip
            have hlt:=Yk hb124
            obtain ⟨x,hx⟩:=Yj hb124
            have hcl:=JQ7 k xp
            have hca:=JQ6 hx
            have hcs:=JQ8 hx
            refine JB.skipS (JB.blk (JB.reg ?_))
            have X:=((X.a hcl).a hca).a hcs
            iterate 2 (refine JA.o1 Jw ?_)
            refine JA.nil (JB.reg1 ?_)
            iterate 2 (refine JA.o1 Jw ?_)
            refine JA.o1 (by simp only [go_sem,X.h,eq_self,if_true,List.drop_zero,eq_self,if_true,List.drop_zero];(try simp (disch:=omega) only [if_pos]);(try simp only [go_sem,X.h,eq_self,if_true,List.drop_zero,eq_self,if_true,List.drop_zero])<;> rfl) ?_
            iterate 2 (refine JA.o1 Jw ?_)
            refine JA.nil (JR.nrm (JB.reg1 ?_))
            refine JA.o1 (by simp only [go_sem,X.h,eq_self,if_true,List.drop_zero,eq_self,if_true,List.drop_zero];(try simp (disch:=omega) only [IntWalk.i64_in,IntWalk.u64_in,IntWalk.i32_in,IntWalk.u8_in,if_neg,if_pos])<;> rfl) ?_
            refine JA.o1 Jw ?_
            refine JA.nil ?_
            refine JU.nxt ?_ ?_ ?_
            ·omega
            ·exact JN.kp [0,1,2,3,4,11,12,13,16,20,21,23,24,25,122,123] [123000] (by simp only [go_sem,X.h,eq_self,if_true,List.drop_zero,eq_self,if_true,List.drop_zero]<;>first|exact QP|rfl)
            ·trivial
           ·skip
            refine JB.exitS (JU.ext (JR.hit (JB.reg ?_)))
            refine JA.keep [0,1,2,3,4,11,12,13,16,20,21,24,25] [] JD ?_
            refine JA.o1 Jw ?_
            refine JA.calE (JPz (b:=t) (by omega)) JY JD ⟨_,_,rfl⟩ (fun res obs _ q y _=>by simp only [go_sem]<;>rfl) (fun res obs hQ=>?_)
            obtain ⟨L,hL,rfl,rfl⟩:=hQ
            rw [hhe,JO8]
            have hL9:L.length≤900:=by have:=congrArg List.length hL;rw [List.length_map,JJj] at this;have:=(JNl t).1;omega
            iterate 5 (refine JA.o1 Jw ?_)
            refine JA.nil (JB.assocS (JB.reg ?_))
            iterate 3 (refine JA.o1 Jw ?_)
            refine JA.nil (JB.blk ?_)
            refine JB.for (L.length) (fun (i:Nat)=>(⟨[(0,.leaf (.d (Z6 s))),(1,.leaf (.d (Yu p))),(2,.leaf (.d (Yt g))),(3,.leaf (.d (Y5 b))),(4,.str t),(11,.leaf (.d (Yu p))),(12,.str b),(13,.leaf (.d (Z6 s))),(16,.leaf (.d (Yt g))),(20,.leaf (.d (.i (ZO p)))),(21,.str (Y0 p)),(24,.leaf (.d (.i fe))),(25,.leaf (.d (Yu xp))),(27,.leaf (.own 141000 0 L.length L.length)),(28,.leaf (.d (.raw (.int .i64 he)))),(137,.int (L.length:Nat)),(138,.int (i:Nat))],(141000,.arr 31 2 (L.map rowP))::QJ 140000 0 (Zh i L),.ret (.bool true) []⟩:JE)) (fun _=>True) ?_ ?_ (fun i hi Xi=>?_)
            ·refine JN.so [0,1,2,3,4,11,12,13,16,20,21,24,25,27,28,137,138] JGO (fun o=>?_)
             rfl
            ·trivial
            ·skip
             refine JB.reg ?_
             refine JA.o1 Jw ?_
             refine JA.nil ?_
             refine JB.cndS Jw (fun hb139=>?_) (fun hb139=>?_)
             ·skip
              have hlt:i<L.length:=by have:=of_decide_eq_true hb139;omega
              obtain ⟨x,hx⟩:∃x,L[i]? = some x:=⟨_,List.getElem?_eq_getElem hlt⟩
              have hx1:=JSn hx
              have hLw:(Zh i L).length≤900:=by rw [JSp];omega
              have hrow:(L.map rowP)[i]? = some [.i x.1.house,.raw x.2]:=by rw [List.getElem?_map,hx];rfl
              have hrl:(L.map rowP).length=L.length:=List.length_map _
              have n1:(142000+i=141000)=False:=eq_false (by omega)
              have n2:(145000+i=141000)=False:=eq_false (by omega)
              have n3:(145000+i=142000+i)=False:=eq_false (by omega)
              have hpin:=JNJ hLw hx1
              have harr:=JK0 hLw hx1
              have hxr:x.1.reads.length≤16:=hq2 _ (by rw [←hL];exact List.mem_map_of_mem (List.mem_of_getElem? hx))
              have hrn0:(x.1.reads.map Qy).length=x.1.reads.length:=List.length_map _
              refine JB.skipS (JB.blk (JB.reg ?_))
              have X:=(((((((X.a hrow).a hrl).a n1).a n2).a n3).a hpin).a harr).a hrn0
              iterate 2 (refine JA.o1 V82 ?_)
              refine JA.nil (JB.reg ?_)
              iterate 2 (refine JA.o1 V82 ?_)
              refine JA.o1 (by simp only [go_sem,X.h,eq_self,if_true,List.drop_zero,eq_self,if_true,List.drop_zero,if_false];(try simp (disch:=omega) only [if_pos]);(try simp only [go_sem,X.h,eq_self,if_true,List.drop_zero,eq_self,if_true,List.drop_zero,if_false])<;> rfl) ?_
              iterate 2 (refine JA.o1 V82 ?_)
              have X:=(Fx.mk n1).a hpin
              refine JA.unpinS (142000+i) 145 (by simp only [go_sem,X.h,if_false]<;>rfl) JD JD ?_
              have X:=(((((((((((((((((Fx.mk hgf).a d1).a hbyl).a hbw).a htl62).a hlm62).a hta62).a htl79).a hlm79).a hta79).a hrow).a hrl).a n1).a n2).a n3).a hpin).a harr).a hrn0
              iterate 2 (refine JA.o1 V82 ?_)
              refine JA.nil (JB.blk1 ?_)
              refine JB.for (x.1.reads.length) (fun (j:Nat)=>(⟨[(0,.leaf (.d (Z6 s))),(1,.leaf (.d (Yu p))),(2,.leaf (.d (Yt g))),(3,.leaf (.d (Y5 b))),(4,.str t),(11,.leaf (.d (Yu p))),(12,.str b),(13,.leaf (.d (Z6 s))),(16,.leaf (.d (Yt g))),(20,.leaf (.d (.i (ZO p)))),(21,.str (Y0 p)),(24,.leaf (.d (.i fe))),(25,.leaf (.d (Yu xp))),(27,.leaf (.own 141000 0 L.length L.length)),(28,.leaf (.d (.raw (.int .i64 he)))),(29,.int (i:Nat)),(137,.int (L.length:Nat)),(138,.int (i:Nat)),(146,.int (x.1.reads.length:Nat)),(147,.int (j:Nat))],(141000,.arr 31 2 (L.map rowP))::QJ 140000 0 ((Zh i L).set i (ZY j x)),.ret (.bool true) []⟩:JE)) (fun _=>True) ?_ ?_ (fun j hj Xj=>?_)
              ·refine JN.so [0,1,2,3,4,11,12,13,16,20,21,24,25,27,28,29,137,138,146,147] JGO (fun o=>?_)
               rw [JSr,set_self hx1]
              ·trivial
              ·skip
               refine JB.reg ?_
               refine JA.o1 V82 ?_
               refine JA.nil ?_
               refine JB.cndS V82 (fun hb148=>?_) (fun hb148=>?_)
               ·skip
                have hjl:j<x.1.reads.length:=by have:=of_decide_eq_true hb148;omega
                have hpj:((Zh i L).set i (ZY j x))[i]? = some (ZY j x):=by rw [List.getElem?_set];simp [(List.getElem?_eq_some_iff.1 hx1).1]
                have hLj:((Zh i L).set i (ZY j x)).length≤900:=by rw [List.length_set];omega
                have hpin2:=JNJ hLj hpj
                have harr2:=JK0 hLj hpj
                rw [JFp (by omega)] at hpin2
                have hpx:(ZY j x).2=x.2:=rfl
                rw [hpx] at hpin2
                have hrs:=JSq hjl
                have hrn:((ZY j x).1.reads.map Qy).length=x.1.reads.length:=by rw [List.length_map,JFp (by omega)]
                obtain ⟨z,hz⟩:∃z,(ZY j x).1.reads[j]? = some z:=⟨_,List.getElem?_eq_getElem (by rw [JFp (by omega)];omega)⟩
                refine JB.skipS (JB.blk (JB.reg ?_))
                have X:=((((X.a hpin2).a harr2).a hrs).a hrn).a hz
                iterate 2 (refine JA.o1 V40 ?_)
                refine JA.nil (JB.reg1 ?_)
                iterate 2 (refine JA.o1 V40 ?_)
                refine JA.o1 V13 ?_
                iterate 2 (refine JA.o1 V40 ?_)
                have X:=(Fx.mk n1).a hpin2
                refine JA.unpinS (142000+i) 154 (by simp only [go_sem,X.h,if_false]<;>rfl) JD JD ?_
                have X:=((((((((((((((((((((((Fx.mk hgf).a d1).a hbyl).a hbw).a htl62).a hlm62).a hta62).a htl79).a hlm79).a hta79).a hrow).a hrl).a n1).a n2).a n3).a hpin).a harr).a hrn0).a hpin2).a harr2).a hrs).a hrn).a hz
                refine JA.o1 V40 ?_
                refine JA.o1 V13 ?_
                refine JA.o1 V40 ?_
                refine JA.nil (JR.nrm (JB.reg1 ?_))
                refine JA.o1 (by simp only [go_sem,X.h,eq_self,if_true,List.drop_zero,eq_self,if_true,List.drop_zero,if_false,Option.map_some,List.length_cons,List.length_nil,List.drop_succ_cons,List.drop_zero];(try simp (disch:=omega) only [IntWalk.i64_in,IntWalk.u64_in,IntWalk.i32_in,IntWalk.u8_in,if_neg,if_pos])<;> rfl) ?_
                refine JA.o1 V40 ?_
                refine JA.nil ?_
                refine JU.nxt ?_ ?_ ?_
                ·omega
                ·show JN _ ((fun (j:Nat)=>(⟨[(0,.leaf (.d (Z6 s))),(1,.leaf (.d (Yu p))),(2,.leaf (.d (Yt g))),(3,.leaf (.d (Y5 b))),(4,.str t),(11,.leaf (.d (Yu p))),(12,.str b),(13,.leaf (.d (Z6 s))),(16,.leaf (.d (Yt g))),(20,.leaf (.d (.i (ZO p)))),(21,.str (Y0 p)),(24,.leaf (.d (.i fe))),(25,.leaf (.d (Yu xp))),(27,.leaf (.own 141000 0 L.length L.length)),(28,.leaf (.d (.raw (.int .i64 he)))),(29,.int (i:Nat)),(137,.int (L.length:Nat)),(138,.int (i:Nat)),(146,.int (x.1.reads.length:Nat)),(147,.int (j:Nat))],(141000,.arr 31 2 (L.map rowP))::QJ 140000 0 ((Zh i L).set i (ZY j x)),.ret (.bool true) []⟩:JE)) (j+1))
                 refine JN.so [0,1,2,3,4,11,12,13,16,20,21,24,25,27,28,29,137,138,146,147] JGO (fun o=>?_)
                 show look (_::QJ 140000 0 ((Zh i L).set i (ZY (j+1) x))) o=look (_::_::QJ 140000 0 ((Zh i L).set i (ZY j x))) o
                 have hss:(Zh i L).set i (ZY (j+1) x)=((Zh i L).set i (ZY j x)).set i (ZY (j+1) x):=by rw [List.set_set]
                 rw [hss]
                 simp only [look]
                 rw [JSc (b:=140000) (y:=ZY (j+1) x) hLj hpj rfl (by rw [JFp (by omega),JFp (by omega)]) o]
                 by_cases q1:o=145000+i
                 ·subst q1
                  rw [if_neg (by omega),if_pos (by omega),if_pos (by omega)];rfl
                 ·rw [if_neg (show ¬o=140000+5000+i by omega),if_neg (show ¬o=145000+i by omega)]
                ·trivial
               ·skip
                refine JB.exitS (JU.ext (Qp.hit (JR.nrm (JB.reg1 ?_))))
                refine JA.o1 (by simp only [go_sem,X.h,eq_self,if_true,List.drop_zero,eq_self,if_true,List.drop_zero,if_false];(try simp (disch:=omega) only [IntWalk.i64_in,IntWalk.u64_in,IntWalk.i32_in,IntWalk.u8_in,if_neg,if_pos])<;> rfl) ?_
                refine JA.o1 V82 ?_
                refine JA.nil ?_
                refine JU.nxt ?_ ?_ ?_
                ·omega
                ·show JN _ ((fun (i:Nat)=>(⟨[(0,.leaf (.d (Z6 s))),(1,.leaf (.d (Yu p))),(2,.leaf (.d (Yt g))),(3,.leaf (.d (Y5 b))),(4,.str t),(11,.leaf (.d (Yu p))),(12,.str b),(13,.leaf (.d (Z6 s))),(16,.leaf (.d (Yt g))),(20,.leaf (.d (.i (ZO p)))),(21,.str (Y0 p)),(24,.leaf (.d (.i fe))),(25,.leaf (.d (Yu xp))),(27,.leaf (.own 141000 0 L.length L.length)),(28,.leaf (.d (.raw (.int .i64 he)))),(137,.int (L.length:Nat)),(138,.int (i:Nat))],(141000,.arr 31 2 (L.map rowP))::QJ 140000 0 (Zh i L),.ret (.bool true) []⟩:JE)) (i+1))
                 refine JN.so [0,1,2,3,4,11,12,13,16,20,21,24,25,27,28,137,138] JGO (fun o=>?_)
                 show look (_::QJ 140000 0 (Zh (i+1) L)) o=look (_::QJ 140000 0 ((Zh i L).set i (ZY j x))) o
                 rw [show j=x.1.reads.length by have:=of_decide_eq_false hb148;omega,JSo hx]
                ·trivial
             ·skip
              refine JB.exitS (JU.ext (JR.hit (JB.reg ?_)))
              refine JA.keep [0,1,2,3,4,11,12,13,16,20,21,24,25,28] [] JD ?_
              refine JA.o1 Jw ?_
              refine JA.c1 (k5) Jw Jw ?_
              iterate 5 (refine JA.o1 Jw ?_)
              refine JA.nil (JB.reg ?_)
              refine JA.o1 Jw ?_
              refine JA.c1 (k6) Jw Jw ?_
              iterate 5 (refine JA.o1 Jw ?_)
              refine JA.nil (JB.reg ?_)
              refine JA.o1 Jw ?_
              refine JA.c1 (k7) Jw Jw ?_
              iterate 5 (refine JA.o1 Jw ?_)
              refine JA.nil (JB.reg ?_)
              refine JA.o1 Jw ?_
              refine JA.c1 (k8) Jw Jw ?_
              iterate 5 (refine JA.o1 Jw ?_)
              refine JA.nil (JB.reg ?_)
              iterate 2 (refine JA.o1 Jw ?_)
              refine JA.c1 (m1) Jw Jw ?_
              refine JA.o1 Jw ?_
              iterate 2 (refine JA.y1 Jw ?_)
              refine JA.calw JD (m2) JY Jw Jw V30 (YX) Jw ?_
              iterate 2 (refine JA.o1 Jw ?_)
              iterate 2 (refine JA.y1 Jw ?_)
              refine JA.calw JD (m3) JY Jw Jw V30 (YX) Jw ?_
              iterate 2 (refine JA.o1 Jw ?_)
              iterate 2 (refine JA.y1 Jw ?_)
              refine JA.val (JF7 Tryz.underlying53 Tryz.underlying5 Tryz.underlying9 (l:=b) (.inl JD)) JD JD ?_
              refine JA.y1 Jw ?_
              iterate 2 (refine JA.o1 Jw ?_)
              refine JA.y1 Jw ?_
              refine JA.val (JF7 Tryz.underlying53 Tryz.underlying5 Tryz.underlying9 (l:=Y0 p) (.inl JD)) JD JD ?_
              iterate 2 (refine JA.y1 Jw ?_)
              iterate 2 (refine JA.o1 Jw ?_)
              iterate 3 (refine JA.y1 Jw ?_)
              iterate 2 (refine JA.o1 Jw ?_)
              iterate 2 (refine JA.y1 Jw ?_)
              refine JA.calw JD (m4) JY Jw Jw V30 (YX) Jw ?_
              iterate 2 (refine JA.o1 Jw ?_)
              iterate 3 (refine JA.y1 Jw ?_)
              iterate 2 (refine JA.o1 Jw ?_)
              iterate 2 (refine JA.y1 Jw ?_)
              refine JA.calw JD (m5) JY Jw Jw V30 (YX) Jw ?_
              iterate 2 (refine JA.o1 Jw ?_)
              iterate 3 (refine JA.y1 Jw ?_)
              iterate 2 (refine JA.o1 Jw ?_)
              iterate 3 (refine JA.y1 Jw ?_)
              iterate 2 (refine JA.o1 Jw ?_)
              refine JA.calw JD (JGn) JY Jw Jw (by exact trivial) (YX) Jw ?_
              iterate 2 (refine JA.o1 Jw ?_)
              refine JA.nil ?_
              exact Ends.fin [] (rs:=[.tmp 10]) rfl Jw (by simp only [go_sem,X.h,eq_self,if_true,List.drop_zero,eq_self,if_true,List.drop_zero]<;>first|rfl|exact QP)
end Go.Mw
namespace Go.Proofs.YtpmdcdglfeicaaaGreatDoor
open Go.Mw Go.ChangeShapes Go.WideShapes Go.ChangeAt Go.RowKit
theorem own:ownKnob Tryz.prog.godebug=none:=by kernel_rfl
theorem laidOut:laidOutB Tryz.prog=true:=by kernel_rfl
theorem JNK:(Rows.bookOwnsRow.laid.all fun x=>x.2.handleName?.isNone)=true:=by kernel_rfl
theorem gok {W:World}(hs:W.ShapedOpen Tryz.prog)(hL:laidMetH Tryz.prog Rows.bookOwnsRow.laid W):Zk Tryz.prog (fun b _=>b<W.heap.size) W:=
 Zk.of hL JNK rfl (g:=1) (t:=272) (e:=245) (n:=20) JJ JJ JJ JJ JJ JJ
  (m:=2) (tm:=3) (zero:=#[.int .i64 0]) JJ hs QZ JJ JJ JJ JJ JJ
theorem lifted (os:Os)(started:os.Started)(H:Type)(enc:TypeId × Value→H) :
  ReturnsInHanded {} Tryz.checked os 8 .any (fun w args=>(Rows.bookOwnsSpec.pre enc Tryz.prog Tryz.f8 Rows.bookOwnsRow.domain false w args∧laidMetH Tryz.prog Rows.bookOwnsRow.laid w)∧sizedMet enc Tryz.prog Tryz.f8 (OpenSpec.ofChange Rows.bookOwnsSpec) false w args) (Rows.bookOwnsSpec.post enc Tryz.prog Tryz.f8 false true false false):=by
 refine JT1 (C:=Tryz.checked) (X:=fun w _=>laidMetH Tryz.prog Rows.bookOwnsRow.laid w) (fun _ _ _ hh h=>h.of_heap hh) own started JJ Tryz.func8
  (ChangeSpec.witness_shaped (enc:=enc) (C:=Tryz.checked) (os:=os) (X:=fun w _=>laidMetH Tryz.prog Rows.bookOwnsRow.laid w) false (World.laidAll Tryz.prog os Rows.bookOwnsRow.laid) #[.slice none 0 0,.slice none 0 0,.slice none 0 0,.slice none 0 0,.string ⟨#[]⟩] 8 (World.laidAll_os _ _ _)
   (World.shaped_of_ZipB JJ JJ) JJ JJ JJ
   (by rw [MakeChecks.laidMetH_plain _ _ _ JNK];exact laidMet_laidAll _ JJ JJ)) ?_
 intro W base args ds gs before hval0 hW hsh hL
 have hval:∀(j:Nat) t v,Tryz.f8.params[j]? = some t→args[j]? = some v→Value.okWide Tryz.prog W .any base t v:=hval0
 have hW':=hW
 obtain ⟨p,q,hA0,hV,rfl,hfz,hnd⟩:=hW'
 have hA:DataW.TrodAll enc Tryz.prog W 0 (fun _=>true) true Tryz.f8.params.toList args.toList ds p:=hA0
 rw [Tryz.params8] at hA hval
 have hG:=gok hsh hL
 obtain ⟨v0,v1,v2,v3,v4,d0,d1,d2,d3,d4,p0,p1,p2,p3,p4,rfl,rfl,rfl,h0,h1,h2,h3,h4⟩:=JVO hA
 obtain ⟨rfl,rfl⟩:=trodVars_none hV
 obtain ⟨x0,l0,hx0⟩:=JUR (hval 0 61 v0 rfl rfl) h0
 obtain ⟨x1,l1,hx1⟩:=JTc (hval 1 52 v1 rfl rfl) h1
 obtain ⟨x2,l2,hx2⟩:=JTS (hval 2 28 v2 rfl rfl) h2
 obtain ⟨x3,l3,hx3⟩:=JPh (hval 3 53 v3 rfl rfl) h3
 obtain ⟨x4,l4,hx4⟩:=JVE (hval 4 9 v4 rfl rfl) h4
 refine (JT5 (JPi x0 x1 x2 x3 x4 l0 l1 l2 l3 l4) W [v0,v1,v2,v3,v4] ⟨hx0,hx1,hx2,hx3,hx4,trivial⟩ hG).mono fun e W' ⟨he,hb⟩=>?_
 exact ⟨_,he,JTe (tb:=4) hW hb rfl rfl rfl JJ laidOut QZ⟩
theorem z1:Tryz.pinned.checked.prog.inPlace 8=Rows.bookOwnsRow.inPlace:=by kernel_rfl
theorem z2:Tryz.pinned.checked.prog.unfollowed 8=Rows.bookOwnsRow.unfollowed:=by kernel_rfl
theorem z3:Tryz.pinned.checked.prog.recurses 8=Rows.bookOwnsRow.recurses:=by kernel_rfl
theorem z4:Tryz.pinned.checked.prog.varsNamed 8=Rows.bookOwnsRow.named:=by kernel_rfl
theorem closed:joinedFacts Tryz.pinned.checked.prog 8 Tryz.f8 Rows.bookOwnsSpec Rows.bookOwnsRow=true:=by
 unfold joinedFacts
 rw [z1,z2,z3,z4]
 kernel_rfl
theorem bare:Rows.BookOwnsSaid:=
 OpenClaim.holds_of_wide 8 Tryz.f8 rfl rfl rfl rfl rfl rfl rfl ⟨rfl,rfl,rfl,rfl,rfl⟩ rfl rfl rfl rfl rfl JJ Tryz.func8 closed
  (of_decide_eq_true JJ) (by unfold Func.isWrapper;first|(rw [if_pos QZ];kernel_rfl)|(rw [if_neg QZ];exact ⟨rfl,rfl⟩))
  (fun os started H enc _=>lifted os started H enc)
theorem holds:Rows.BookOwnsCardSaid:=
 Claim7.holds_tied_plain_at .later [] [.data,.data,.data,.data,.sentinel,.pinned] true (true, "a4c23813cb1a935b72d1bc74a8a412aa7df29762ec0388838dd8623dbac8462d") true
  bare (fun _ h=>by cases h) JJ (fun _ h=>by cases h) bookOwns_row_tie rfl ⟨rfl,rfl⟩ JJ rfl
  (fun f fn hf hfn=>by
   obtain rfl:f=8:=Option.some.inj ((show Tryz.prog.funcNamed "meterworks/meterworkslaw14.BookOwns" = some 8 by kernel_rfl).symm.trans hf) |>.symm
   obtain rfl:fn=Tryz.f8:=(Option.some.inj (Tryz.func8.symm.trans hfn)).symm
   exact ⟨by kernel_rfl,fun j t ht=>by
    rw [Tryz.params8] at ht
    have ht2:t∈Tryz.f8.params.toList:=by rw [Tryz.params8];exact List.mem_of_getElem? (by simpa using ht)
    exact (show ∀t∈Tryz.f8.params.toList,Tryz.prog.wantsStandIn t=false by decide +kernel) t ht2⟩)
  JJ
end Go.Proofs.YtpmdcdglfeicaaaGreatDoor
#print axioms Go.Proofs.YtpmdcdglfeicaaaGreatDoor.holds

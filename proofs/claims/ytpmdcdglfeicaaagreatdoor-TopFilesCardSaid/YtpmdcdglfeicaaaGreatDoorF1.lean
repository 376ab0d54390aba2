/- What the arguments of the statement on files read as; no condition but those in each. -/
import Derived.Test.YtpmdcdglfeicaaaGreatDoorD1
import Derived.Test.YtpmdcdglfeicaaaGreatDoorB10
import Derived.Test.YtpmdcdglfeicaaaGreatDoorB12
import Derived.Test.YtpmdcdglfeicaaaGreatDoorB5
import Derived.Test.YtpmdcdglfeicaaaGreatDoorB14
import Derived.Test.YtpmdcdglfeicaaaGreatDoorRows
import Derived.Test.YtpmdcdglfeicaaaGreatDoorCards
import Derived.Test.YtpmdcdglfeicaaaGreatDoorTie
import Derived.SevenTiedAt
import Derived.Stop.Joined
set_option maxRecDepth 100000
set_option maxHeartbeats 16000000
set_option linter.unusedSimpArgs false
set_option linter.unusedVariables false
set_option linter.unusedSectionVars false
set_option linter.deprecated false
namespace Go.Mw.Cd
open Go.Proofs Go.RowKit Go.ChangeShapes Go.WideShapes
theorem JTf (r:List Value)(h:JO LK.has [.int .i64,.int .i64] r):∃x:YB,r.map D.raw=JEx x:=by
 obtain ⟨a,r,rfl,⟨n,hn,_⟩,h⟩:=JC0 h
 obtain ⟨b,r,rfl,⟨m,hm,_⟩,h⟩:=JC0 h
 have:=JIU h
 subst hn hm this
 exact ⟨⟨n,m⟩,rfl⟩
theorem JTe (r:List Value)(h:JO LK.has [.int .i64,.int .i64,.int .i64] r):∃x:Reading,r.map D.raw=Qr x:=by
 obtain ⟨a,r,rfl,⟨n,hn,_⟩,h⟩:=JC0 h
 obtain ⟨b,r,rfl,⟨m,hm,_⟩,h⟩:=JC0 h
 obtain ⟨c,r,rfl,⟨k,hk,_⟩,h⟩:=JC0 h
 have:=JIU h
 subst hn hm hk this
 exact ⟨⟨n,m,k⟩,rfl⟩
section
variable {H:Type} {enc:TypeId × Value→H} {W:World} {v:Value} {d:DataW H} {ps:List MemPlace}
theorem JVe {b0:Nat}{r:Reach}(hv:Value.okWide Tryz.prog W r b0 25 v)(h:DataW.Trod enc Tryz.prog W 0 (fun _=>true) true 25 v d ps) :
  ∃w:JP,True∧Jk (fun b _=>b<W.heap.size) JAO (look []) W (JAU w) v:=by
 obtain ⟨cs,rfl⟩:=JU8 JL hv
 obtain ⟨fuel,hf⟩:=h
 obtain ⟨n,ha⟩:=JU9 (P:=Tryz.prog) (t:=25) (ts:=[22,23]) JL hf
 have hcs:(Value.agg cs).cells.toList=cs.toList:=rfl
 rw [hcs] at ha
 obtain ⟨a,r1,hl,⟨y1,h1⟩,ha⟩:=JC0 ha
 obtain ⟨b,r2,rfl,⟨y2,h2⟩,ha⟩:=JC0 ha
 have:=JIU ha
 subst this
 obtain ⟨v1,rows1,e1,hr1,hd1⟩:=JOc (P:=Tryz.prog) (e:=48) (ks:=[.int .i64,.int .i64]) JL JL JL (by decide) h1
 obtain ⟨v2,rows2,e2,hr2,hd2⟩:=JOc (P:=Tryz.prog) (e:=34) (ks:=[.int .i64,.int .i64,.int .i64]) JL JL JL (by decide) h2
 obtain ⟨l1,hl1⟩:=JKK JTf hr1
 obtain ⟨l2,hl2⟩:=JKK JTe hr2
 cases e1;cases e2
 rw [hl1] at hd1
 rw [hl2] at hd2
 refine ⟨⟨l1,l2⟩,trivial,[a,b],?_,hd1,hd2,trivial⟩
 show Value.agg cs=Value.agg [a,b].toArray
 rw [←hl]
theorem JQ3 {b0:Nat}{r:Reach}(hv:Value.okWide Tryz.prog W r b0 3 v)(h:DataW.Trod enc Tryz.prog W 0 (fun _=>true) true 3 v d ps) :
  ∃n:Int,True∧Jk (fun b _=>b<W.heap.size) JAO (look []) W (.leaf (.d (.raw (.int .i64 n)))) v:=by
 obtain ⟨n,_,hr⟩:=JRy (k:=.i64) JL hv h
 exact ⟨n,trivial,hr⟩
end
end Go.Mw.Cd
namespace Go.Mw.Cd
open Go.Proofs
open Go.Bk
attribute [local go_sem] decide_true beq_self_eq_true bne_self_eq_false
theorem JNi (w:JP)(i:Nat):Zt (JB0 w i)=[D.i (i:Int),.sl 1 ((Jo w i).map fun q=>[D.i (rd w q).shows])]:=by
 unfold Zt JB0 JDC;rw [List.map_map];rfl
theorem JPT {l:List Pg}(h:Yg l=0):JA6 (JB6 l)=some l:=by
 rw [show JB6 l=Yd l from if_pos h];exact JTJ.2 ⟨h,rfl⟩
theorem JVd (l:List Pg):(JB6 l).length≤1000000:=by
 unfold JB6
 split
 ·next h=>
  obtain ⟨h1,h2,_⟩:=JIs h
  have:=JJy l h2;omega
 ·simp
theorem JUG {α:Type}{l:List α}{i:Nat}{x:α}(h:l[i]? = some x):l.set i x=l:=by
 apply List.ext_getElem?
 intro j
 by_cases e:i=j
 ·subst e;rw [List.getElem?_set_self (List.getElem?_eq_some_iff.1 h).1,h]
 ·rw [List.getElem?_set_ne e]
theorem JRL (w:JP):(JBJ w).1.length≤1000:=by
 unfold JBJ
 split
 ·rename_i hw
  split
  ·simp
  ·split
   ·simp
   ·have hn:=(JDW hw).2.2
    have b1:=JSJ hn w.readings.length
    have b2:=JSD w w.readings.length
    have b3:=JSF w w.readings.length
    unfold JBo
    rw [List.length_append,List.length_append]
    omega
 ·simp
theorem JQB (w:JP)(day:Int):Jf Tryz.prog 3 [JAU w,.int day] (.bool true) []:=by
 have z0:((0:Int) != 0)=false:=rfl
 have z1:((0:Int)==0)=true:=rfl
 have z2:((1:Int)==1)=true:=rfl
 refine Jq Jj Tryz.func3 rfl (by simp only [List.length_cons,List.length_nil,Tryz.ntmps3];omega) JL rfl ?_
 refine JB.reg ?_
 iterate 2 (refine JA.o ?_)
 refine JA.nil (JB.assocS ?_)
 by_cases q1:14<w.rates.length
 ·skip
  have d1:decide ((w.rates.length:Int)>14)=true:=decide_eq_true (by omega)
  refine JB.reg ?_
  refine JA.frz 2 JF ?_
  have X:=Fx.mk d1
  iterate 5 (refine JA.o1 JC ?_)
  iterate 4 (refine JA.s ?_)
  iterate 2 (refine JA.o1 JC ?_)
  iterate 3 (refine JA.s ?_)
  refine JA.o1 JC ?_
  refine JA.nil ?_
  refine JB.cndS JC (fun hb47=>?_) (fun hb47=>?_)
  ·skip
   refine JB.assocS (JB.reg ?_)
   refine JA.c1 (JEr) JC JC ?_
   refine JA.o1 JC ?_
   refine JA.nil (JB.retS ?_)
   exact Ends.fin [] (rs:=[.tmp 4]) rfl JC Qk
  ·exact absurd hb47 (by simp)
 ·skip
  have d1:decide ((w.rates.length:Int)>14)=false:=decide_eq_false (by omega)
  by_cases q2:16<w.readings.length
  ·skip
   have d2:decide ((w.readings.length:Int)>16)=true:=decide_eq_true (by omega)
   refine JB.reg ?_
   refine JA.frz 2 JF ?_
   have X:=(Fx.mk d1).a d2
   iterate 5 (refine JA.o1 JC ?_)
   iterate 4 (refine JA.y1 JC ?_)
   iterate 2 (refine JA.o1 JC ?_)
   iterate 3 (refine JA.s ?_)
   refine JA.o1 JC ?_
   refine JA.nil ?_
   refine JB.cndS JC (fun hb47=>?_) (fun hb47=>?_)
   ·skip
    refine JB.assocS (JB.reg ?_)
    refine JA.c1 (JEr) JC JC ?_
    refine JA.o1 JC ?_
    refine JA.nil (JB.retS ?_)
    exact Ends.fin [] (rs:=[.tmp 4]) rfl JC Qk
   ·exact absurd hb47 (by simp)
  ·skip
   have d2:decide ((w.readings.length:Int)>16)=false:=decide_eq_false (by omega)
   refine JB.reg ?_
   refine JA.frz 2 JF ?_
   have X:=(Fx.mk d1).a d2
   iterate 5 (refine JA.o1 JC ?_)
   iterate 4 (refine JA.y1 JC ?_)
   iterate 2 (refine JA.o1 JC ?_)
   refine JA.y1 JC ?_
   refine JA.calw JF (JQZ w (by omega) (by omega)) Jr JC JC YQ (Yr) JC ?_
   refine JA.y1 JC ?_
   refine JA.o1 JC ?_
   refine JA.nil ?_
   refine JB.cndS JC (fun hb47=>?_) (fun hb47=>?_)
   ·skip
    refine JB.assocS (JB.reg ?_)
    refine JA.c1 (JEr) JC JC ?_
    refine JA.o1 JC ?_
    refine JA.nil (JB.retS ?_)
    exact Ends.fin [] (rs:=[.tmp 4]) rfl JC Qk
   ·skip
    have hw:QM w=true:=by simpa using hb47
    have hl:=JDW hw
    have h20:QM w=true→∀h,(Jo w h).length≤39:=fun _ h=>Nat.le_trans (JD8 w h) (by omega)
    have km:=JIe w (by omega) (by omega) h20
    have ke:=JQH w (by omega) (by omega) h20
    have hPl:=JNk w
    have kp:=JLq (Yt w) (by omega) (fun x hx=>by have:=JNl x hx;omega)
    refine JB.skipS (JB.reg ?_)
    refine JA.o1 JAt ?_
    refine JA.nil (JB.assocS (JB.reg ?_))
    refine JA.nilo 5 1000 31 2 JF JF (by omega) (by omega) JF ?_
    iterate 4 (refine JA.o1 JAt ?_)
    refine JA.nil (JB.blk ?_)
    refine JB.forA [1,2,5,51,52] [1000] (w.rates.length) (fun k=>[.slot 52 (.int k),.slot 5 (.leaf (.own 1000 0 k k)),.obj 1000 (.arr 31 2 (((List.range k).map (JB0 w)).map Zt))]) (fun _=>True) (fun k=>by simp only [go_sem]<;>rfl) (by simp only [go_sem,List.length_map,List.length_range,Int.natCast_zero,List.range_zero,List.map_nil]<;>rfl) ?_ (fun k hk hX=>?_)
    ·trivial
    ·skip
     refine JB.reg ?_
     refine JA.o1 JAt ?_
     refine JA.nil ?_
     refine JB.cndS JAt (fun hb53=>?_) (fun hb53=>?_)
     ·skip
      have hk:k<w.rates.length:=by have:=of_decide_eq_true hb53;omega
      have hrs:=List.range_succ (n:=k)
      have hpe:=JNi w k
      have hOl:=JD8 w (k:Int)
      refine JB.skipS (JB.blk (JB.reg ?_))
      iterate 2 (refine JA.o1 JAt ?_)
      refine JA.nil (JB.reg ?_)
      iterate 4 (refine JA.o1 JAt ?_)
      refine JA.nil (JB.assocS (JB.reg ?_))
      refine JA.nilc 7 1 1001 3 1 JF rfl JF (by omega) (by omega) JF ?_
      iterate 2 (refine JA.o1 JAt ?_)
      refine JA.c1 (JLz w k (by omega) (by omega)) JAt JAt ?_
      iterate 2 (refine JA.o1 JAt ?_)
      refine JA.nil (JB.blk ?_)
      refine JB.forA [1,2,5,7,51,52,59,60,61] [7,1000,1001] ((Jo w k).length) (fun j=>[.slot 61 (.int j),.obj 7 (.cells [.d (.i k),.own 1001 0 j j]),.obj 1001 (.arr 3 1 (((Jo w k).take j).map fun q=>[D.i (rd w q).shows]))]) (fun _=>True) (fun j=>by simp only [go_sem]<;>rfl) (by simp only [go_sem,List.length_map,List.length_range,Int.natCast_zero,List.take_zero,List.map_nil]<;>rfl) ?_ (fun j hj Xj=>?_)
      ·trivial
      ·skip
       refine JB.reg ?_
       refine JA.o1 JAt ?_
       refine JA.nil ?_
       refine JB.cndS JAt (fun hb62=>?_) (fun hb62=>?_)
       ·skip
        have hj:j<(Jo w k).length:=by have:=of_decide_eq_true hb62;omega
        obtain ⟨q,hq⟩:∃q,(Jo w k)[j]? = some q:=⟨_,List.getElem?_eq_getElem hj⟩
        have hqr:=(JAN.1 (List.mem_of_getElem? hq)).1
        have hrd:=ZU hqr
        have hts:=JCp hq
        have htl:((Jo w k).take j).length=j:=by rw [List.length_take];omega
        refine JB.skipS (JB.blk (JB.reg ?_))
        have X:=((Fx.mk hq).a hrd).a htl
        refine JA.o1 V69 ?_
        iterate 2 (refine JA.o1 Zz ?_)
        refine JA.nil ?_
        refine JB.opk1 14 ?_
        iterate 5 (refine JG.o1 Zz ?_)
        refine JG.o1 V69 ?_
        iterate 3 (refine JG.o1 Zz ?_)
        refine JG.o1 (by simp only [go_sem,X.h,List.length_map];(try simp (disch:=omega) only [if_pos]);(try simp only [go_sem,X.h,List.length_map])<;>first|(refine ZQ ⟨by (try simp only [List.length_append,List.length_drop,List.length_take,List.length_map,List.length_cons,List.length_nil,List.length_replicate,List.length_set,List.length_range,Nat.zero_add]);omega,by (try simp only [List.length_append,List.length_drop,List.length_take,List.length_map,List.length_cons,List.length_nil,List.length_replicate,List.length_set,List.length_range,Nat.zero_add]);omega,by repeat (first|exact ZB|assumption|refine Y6 ?_ ?_|refine Y8 ?_|refine ZD ?_|exact ZA (fun _=>rfl)|exact ZC rfl|refine Y7 rfl ?_)⟩ ?_;simp only [go_sem,X.h,List.length_map]<;>rfl)|(refine ZQ ⟨by (try simp only [List.length_append,List.length_drop,List.length_take,List.length_map,List.length_cons,List.length_nil,List.length_replicate,List.length_set,List.length_range,Nat.zero_add]);omega,by repeat (first|exact ZB|assumption|refine Y6 ?_ ?_|refine Y8 ?_|refine ZD ?_|exact ZA (fun _=>rfl)|exact ZC rfl|refine Y7 rfl ?_)⟩ ?_;simp only [go_sem,X.h,List.length_map]<;>rfl)|rfl) ?_
        iterate 2 (refine JG.o1 Zz ?_)
        refine JG.nil (QK.fin Qb Qb ?_)
        refine JR.nrm (JB.reg1 ?_)
        refine JA.o1 (by simp only [go_sem,X.h,List.length_map];(try simp (disch:=omega) only [IntWalk.i64_in,IntWalk.u64_in,IntWalk.i32_in,IntWalk.u8_in,if_neg,if_pos])<;> rfl) ?_
        refine JA.o1 Zz ?_
        refine JA.nil ?_
        refine JU.nxt ?_ ?_ ?_
        ·omega
        ·exact JN.kp [1,2,5,7,51,52,59,60,61] [7,1000,1001] (by simp only [go_sem,X.h,List.length_map]<;>first|((repeat' (first|with_reducible_and_instances rfl|refine Q6 ?_ ?_ ?_|refine Q4 ?_|refine Q8 ?_|refine Q7 ?_ ?_|refine Qw ?_|refine Qy ?_|refine Q9 ?_|refine Q1 ?_ ?_|refine Q3 ?_ ?_|refine Q5 ?_|refine Qx ?_|(refine Qz ?_;omega)));all_goals (first|omega|(rw [hts];simp;done)))|rfl)
        ·trivial
       ·skip
        have hje:j=(Jo w k).length:=by have:=of_decide_eq_false hb62;omega
        subst hje
        have htk:(Jo w k).take (Jo w k).length=(Jo w k):=List.take_length
        have hta:List.take (Jo w k).length ((Jo w k).map fun q=>[D.i (rd w q).shows])=((Jo w k).map fun q=>[D.i (rd w q).shows]):=List.take_of_length_le (by rw [List.length_map];exact Nat.le_refl _)
        refine JB.exitS (JU.ext (JR.hit (JB.reg1 ?_)))
        have X:=Fx.mk hta
        refine JA.frz 1001 JC ?_
        have X:=(Fx.mk htk).a hta
        iterate 3 (refine JA.o1 JHz ?_)
        refine JA.o1 (by simp only [go_sem,X.h,List.length_map,List.length_range];(try simp (disch:=omega) only [if_pos]);(try simp only [go_sem,X.h,List.length_map,List.length_range])<;>first|(refine ZQ ⟨by (try simp only [List.length_append,List.length_drop,List.length_take,List.length_map,List.length_cons,List.length_nil,List.length_replicate,List.length_set,List.length_range,Nat.zero_add]);omega,by (try simp only [List.length_append,List.length_drop,List.length_take,List.length_map,List.length_cons,List.length_nil,List.length_replicate,List.length_set,List.length_range,Nat.zero_add]);omega,by repeat (first|exact ZB|assumption|refine Y6 ?_ ?_|refine Y8 ?_|refine ZD ?_|exact ZA (fun _=>rfl)|exact ZC rfl|refine Y7 rfl ?_)⟩ ?_;simp only [go_sem,X.h,List.length_map,List.length_range]<;>rfl)|(refine ZQ ⟨by (try simp only [List.length_append,List.length_drop,List.length_take,List.length_map,List.length_cons,List.length_nil,List.length_replicate,List.length_set,List.length_range,Nat.zero_add]);omega,by repeat (first|exact ZB|assumption|refine Y6 ?_ ?_|refine Y8 ?_|refine ZD ?_|exact ZA (fun _=>rfl)|exact ZC rfl|refine Y7 rfl ?_)⟩ ?_;simp only [go_sem,X.h,List.length_map,List.length_range]<;>rfl)|rfl) ?_
        refine JA.o1 JHz ?_
        refine JA.nil (JR.nrm (JB.reg1 ?_))
        refine JA.o1 (by simp only [go_sem,X.h,List.length_map,List.length_range];(try simp (disch:=omega) only [IntWalk.i64_in,IntWalk.u64_in,IntWalk.i32_in,IntWalk.u8_in,if_neg,if_pos])<;> rfl) ?_
        refine JA.o1 JHz ?_
        refine JA.nil ?_
        refine JU.nxt ?_ ?_ ?_
        ·omega
        ·exact JN.kp [1,2,5,51,52] [1000] (by simp only [go_sem,X.h,List.length_map,List.length_range]<;>first|((repeat' (first|with_reducible_and_instances rfl|refine Q6 ?_ ?_ ?_|refine Q4 ?_|refine Q8 ?_|refine Q7 ?_ ?_|refine Qw ?_|refine Qy ?_|refine Q9 ?_|refine Q1 ?_ ?_|refine Q3 ?_ ?_|refine Q5 ?_|refine Qx ?_|(refine Qz ?_;omega)));all_goals (first|omega|(simp [hpe,hrs];done)))|rfl)
        ·trivial
     ·skip
      have hke:k=w.rates.length:=by have:=of_decide_eq_false hb53;omega
      subst hke
      have hpw:(List.range w.rates.length).map (JB0 w)=Yt w:=rfl
      have hta2:List.take w.rates.length (List.map Zt (Yt w))=List.map Zt (Yt w):=List.take_of_length_le (by rw [List.length_map,hPl];exact Nat.le_refl _)
      refine JB.exitS (JU.ext (JR.hit (JB.reg ?_)))
      have X:=(Fx.mk hpw).a hPl
      refine JA.o1 Zz ?_
      refine JA.c1 (km) Zz Zz ?_
      iterate 7 (refine JA.o1 Zz ?_)
      refine JA.nil (JB.reg ?_)
      have X:=Fx.mk hta2
      refine JA.frz 1000 JC ?_
      have X:=(Fx.mk hpw).a hPl
      refine JA.o1 Zz ?_
      refine JA.c1 (kp) Zz Zz ?_
      iterate 5 (refine JA.o1 Zz ?_)
      refine JA.nil (JB.assocS (JB.reg ?_))
      iterate 2 (refine JA.o1 Zz ?_)
      refine JA.nil ?_
      refine JB.cndS Zz (fun hb94=>?_) (fun hb94=>?_)
      ·skip
       have hne:Yg (Yt w)≠0:=by simpa using hb94
       obtain ⟨e1,e2⟩:=(JTH hw (by omega)).resolve_left hne
       refine JB.assocS (JB.reg ?_)
       have X:=(((Fx.mk e1).a e2).a z1).a z2
       iterate 3 (refine JA.o1 JC ?_)
       iterate 2 (refine JA.y1 JC ?_)
       iterate 2 (refine JA.o1 JC ?_)
       refine JA.calw JF (JEr) Jr JC JC (by exact trivial) (Yr) JC ?_
       iterate 2 (refine JA.o1 JC ?_)
       refine JA.nil (JB.retS ?_)
       exact Ends.fin [] (rs:=[.tmp 4]) rfl JC Qk
      ·skip
       have he:Yg (Yt w)=0:=by simpa using hb94
       have kr:=JP6 (JB6 (Yt w)) (Nat.le_trans (JVd _) (by decide))
       rw [JPT he] at kr
       have ks:=JP8 (Yt w) (Yt w) (by omega) (by omega) (fun x hx=>by have:=JNl x hx;omega)
       rw [decide_eq_true (rfl:Yt w=Yt w)] at ks
       refine JB.skipS (JB.reg ?_)
       have X:=Fx.mk z0
       refine JA.o1 QF ?_
       refine JA.c1 (kr) QF QF ?_
       iterate 5 (refine JA.o1 QF ?_)
       refine JA.nil (JB.assocS (JB.reg ?_))
       iterate 3 (refine JA.o1 QF ?_)
       iterate 2 (refine JA.y1 QF ?_)
       refine JA.calw JF (ks) Jr QF QF Z4 (Yr) QF ?_
       refine JA.y1 QF ?_
       refine JA.o1 QF ?_
       refine JA.nil ?_
       refine JB.cndS QF (fun hb116=>?_) (fun hb116=>?_)
       ·exact absurd hb116 (by simp)
       ·skip
        refine JB.skipS (JB.reg ?_)
        iterate 3 (refine JA.o1 QF ?_)
        refine JA.nil (JB.reg ?_)
        iterate 3 (refine JA.o1 QF ?_)
        refine JA.o1 (by simp only [go_sem,X.h,Bool.not_true];(try simp (disch:=omega) only [if_pos]);(try simp only [go_sem,X.h,Bool.not_true])<;>first|(refine ZQ ⟨by (try simp only [List.length_append,List.length_drop,List.length_take,List.length_map,List.length_cons,List.length_nil,List.length_replicate,List.length_set,List.length_range,Nat.zero_add]);omega,by (try simp only [List.length_append,List.length_drop,List.length_take,List.length_map,List.length_cons,List.length_nil,List.length_replicate,List.length_set,List.length_range,Nat.zero_add]);omega,by repeat (first|exact ZB|assumption|refine Y6 ?_ ?_|refine Y8 ?_|refine ZD ?_|exact ZA (fun _=>rfl)|exact ZC rfl|refine Y7 rfl ?_)⟩ ?_;simp only [go_sem,X.h,Bool.not_true]<;>rfl)|(refine ZQ ⟨by (try simp only [List.length_append,List.length_drop,List.length_take,List.length_map,List.length_cons,List.length_nil,List.length_replicate,List.length_set,List.length_range,Nat.zero_add]);omega,by repeat (first|exact ZB|assumption|refine Y6 ?_ ?_|refine Y8 ?_|refine ZD ?_|exact ZA (fun _=>rfl)|exact ZC rfl|refine Y7 rfl ?_)⟩ ?_;simp only [go_sem,X.h,Bool.not_true]<;>rfl)|rfl) ?_
        iterate 2 (refine JA.o1 QF ?_)
        refine JA.nil (JB.assocS (JB.reg ?_))
        iterate 4 (refine JA.o1 QF ?_)
        refine JA.nil (JB.blk ?_)
        refine JB.forA [1,2,12,15,17,125,126] [17,118] (w.rates.length) (fun k=>[.slot 126 (.int k)]) (fun _=>True) (fun k=>by simp only [go_sem]<;>rfl) (by simp only [go_sem,X.h,Bool.not_true,Int.natCast_zero]<;>rfl) ?_ (fun k hk hX=>?_)
        ·trivial
        ·skip
         refine JB.reg ?_
         refine JA.o1 QF ?_
         refine JA.nil ?_
         refine JB.cndS QF (fun hb127=>?_) (fun hb127=>?_)
         ·skip
          have hk:k<w.rates.length:=by have:=of_decide_eq_true hb127;omega
          have hpe:=JNi w k
          have hpa:=JTG hk
          have hOl:=JD8 w (k:Int)
          refine JB.skipS (JB.blk (JB.reg ?_))
          iterate 2 (refine JA.o1 JCF ?_)
          refine JA.nil (JB.reg ?_)
          iterate 2 (refine JA.o1 JCF ?_)
          refine JA.c1 (JLz w k (by omega) (by omega)) JCF JCF ?_
          iterate 2 (refine JA.o1 JCF ?_)
          refine JA.nil (JB.blk1 ?_)
          refine JB.forA [1,2,12,15,17,18,125,126,131,132,133] [17,118] ((Jo w k).length) (fun j=>[.slot 133 (.int j)]) (fun _=>True) (fun j=>by simp only [go_sem]<;>rfl) (by simp only [go_sem,List.length_map,Int.natCast_zero]<;>rfl) ?_ (fun j hj Xj=>?_)
          ·trivial
          ·skip
           refine JB.reg ?_
           refine JA.o1 JCF ?_
           refine JA.nil ?_
           refine JB.cndS JCF (fun hb134=>?_) (fun hb134=>?_)
           ·skip
            have hj:j<(Jo w k).length:=by have:=of_decide_eq_true hb134;omega
            obtain ⟨q,hq⟩:∃q,(Jo w k)[j]? = some q:=⟨_,List.getElem?_eq_getElem hj⟩
            have hqr:=(JAN.1 (List.mem_of_getElem? hq)).1
            have hrd:=ZU hqr
            have hrj:(JB0 w k).reads[j]? = some (rd w q).shows:=by
             show ((Jo w k).map _)[j]? = _
             rw [List.getElem?_map,hq];rfl
            have hss:(w.readings.map Qr).set q [D.i (rd w q).house,.i (rd w q).day,.i (rd w q).shows]=w.readings.map Qr:=JUG (by rw [List.getElem?_map,hrd];rfl)
            refine JB.skipS (JB.blk (JB.reg ?_))
            have X:=((((Fx.mk hq).a hrd).a hpa).a hrj).a hss
            refine JA.o1 JCu ?_
            refine JA.o1 V54 ?_
            iterate 3 (refine JA.o1 JCu ?_)
            refine JA.nil ?_
            refine JB.opk1 16 ?_
            iterate 5 (refine JG.o1 JCu ?_)
            refine JG.o1 V54 ?_
            iterate 3 (refine JG.o1 JCu ?_)
            refine JG.o1 V54 ?_
            refine JG.o1 JCu ?_
            refine JG.o1 V54 ?_
            iterate 2 (refine JG.o1 JCu ?_)
            refine JG.nil (QK.fin Qb Qb ?_)
            refine JR.nrm (JB.reg1 ?_)
            refine JA.o1 (by simp only [go_sem,X.h,List.length_map,Option.map_some];(try simp (disch:=omega) only [IntWalk.i64_in,IntWalk.u64_in,IntWalk.i32_in,IntWalk.u8_in,if_neg,if_pos])<;> rfl) ?_
            refine JA.o1 JCu ?_
            refine JA.nil ?_
            refine JU.nxt ?_ ?_ ?_
            ·omega
            ·exact JN.kp [1,2,12,15,17,18,125,126,131,132,133] [17,118] (by simp only [go_sem,X.h,List.length_map,Option.map_some]<;>first|exact QB|rfl)
            ·trivial
           ·skip
            refine JB.exitS (JU.ext (QA.hit (JR.nrm (JB.reg1 ?_))))
            refine JA.o1 (by simp only [go_sem,List.length_map];(try simp (disch:=omega) only [IntWalk.i64_in,IntWalk.u64_in,IntWalk.i32_in,IntWalk.u8_in,if_neg,if_pos])<;> rfl) ?_
            refine JA.o1 JCF ?_
            refine JA.nil ?_
            refine JU.nxt ?_ ?_ ?_
            ·omega
            ·exact JN.kp [1,2,12,15,17,125,126] [17,118] (by simp only [go_sem,List.length_map]<;>first|exact QB|rfl)
            ·trivial
         ·skip
          have hta3:List.take w.readings.length (List.map Qr w.readings)=List.map Qr w.readings:=List.take_of_length_le (by simp)
          refine JB.exitS (JU.ext (JR.hit (JB.reg ?_)))
          have X:=Fx.mk hta3
          refine JA.frz 118 JC ?_
          refine JA.frz 17 JF ?_
          refine JA.o1 Qe ?_
          refine JA.c1 (km) Qe Qe ?_
          iterate 7 (refine JA.o1 Qe ?_)
          refine JA.nil (JB.reg ?_)
          refine JA.o1 Qe ?_
          refine JA.c1 (ke) Qe Qe ?_
          iterate 5 (refine JA.o1 Qe ?_)
          refine JA.nil (JB.reg ?_)
          refine JA.o1 Qe ?_
          refine JA.c1 (ke) Qe Qe ?_
          iterate 5 (refine JA.o1 Qe ?_)
          refine JA.nil (JB.assocS (JB.reg ?_))
          iterate 4 (refine JA.o1 Qe ?_)
          iterate 3 (refine JA.y1 Qe ?_)
          iterate 2 (refine JA.o1 Qe ?_)
          iterate 2 (refine JA.y1 Qe ?_)
          refine JA.calw JF (JP7 (JBJ w).1 (JRL w)) Jr Qe Qe Z4 (Yr) Qe ?_
          refine JA.y1 Qe ?_
          refine JA.o1 Qe ?_
          refine JA.nil ?_
          refine JB.cndS Qe (fun hb182=>?_) (fun hb182=>?_)
          ·exact absurd hb182 (by simp)
          ·skip
           refine JB.skipS (JB.assocS (JB.reg ?_))
           iterate 4 (refine JA.o1 Qe ?_)
           refine JA.nil (JB.blk ?_)
           refine JB.forA [1,2,17,185,186] [] (w.rates.length) (fun k=>[.slot 186 (.int k)]) (fun _=>True) (fun k=>by simp only [go_sem]<;>rfl) (by simp only [go_sem,List.length_map,Bool.not_true,Int.natCast_zero]<;>rfl) ?_ (fun k hk hX=>?_)
           ·trivial
           ·skip
            refine JB.reg ?_
            refine JA.o1 Qe ?_
            refine JA.nil ?_
            refine JB.cndS Qe (fun hb187=>?_) (fun hb187=>?_)
            ·skip
             have hk:k<w.rates.length:=by have:=of_decide_eq_true hb187;omega
             refine JB.skipS (JB.blk (JB.reg ?_))
             iterate 2 (refine JA.o1 Qe ?_)
             refine JA.nil (JB.reg ?_)
             iterate 3 (refine JA.o1 Qe ?_)
             refine JA.c1 (JLs w k day (by omega) (by omega) h20) Qe Qe ?_
             iterate 6 (refine JA.o1 Qe ?_)
             refine JA.nil (JB.reg ?_)
             iterate 3 (refine JA.o1 Qe ?_)
             refine JA.c1 (JLs w k day (by omega) (by omega) h20) Qe Qe ?_
             iterate 6 (refine JA.o1 Qe ?_)
             refine JA.nil (JB.reg ?_)
             iterate 4 (refine JA.o1 Qe ?_)
             iterate 3 (refine JA.gop JF Qe JF ?_)
             refine JA.o1 Qe ?_
             refine JA.nil ?_
             refine JB.cnd Qe (fun hb210=>?_) (fun hb210=>?_)
             ·exact absurd hb210 (by simp)
             ·skip
              refine JR.nrm (JB.reg1 ?_)
              refine JA.o1 (by simp only [go_sem,List.length_map,Bool.not_true];(try simp (disch:=omega) only [IntWalk.i64_in,IntWalk.u64_in,IntWalk.i32_in,IntWalk.u8_in,if_neg,if_pos])<;> rfl) ?_
              refine JA.o1 Qe ?_
              refine JA.nil ?_
              refine JU.nxt ?_ ?_ ?_
              ·omega
              ·exact JN.kp [1,2,17,185,186] [] (by simp only [go_sem,List.length_map,Bool.not_true]<;>first|exact QB|rfl)
              ·trivial
            ·skip
             refine JB.exitS (JU.ext (JR.hit (JB.reg ?_)))
             refine JA.c1 (JEr) Qe Qe ?_
             refine JA.o1 Qe ?_
             refine JA.nil ?_
             exact Ends.fin [] (rs:=[.tmp 4]) rfl Qe (by simp only [go_sem,List.length_map,Bool.not_true]<;>first|rfl|exact QB)
end Go.Mw.Cd
namespace Go.Proofs.YtpmdcdglfeicaaaGreatDoor
open Go.Mw Go.ChangeShapes Go.WideShapes Go.ChangeAt Go.RowKit
theorem own:ownKnob Tryz.prog.godebug=none:=by kernel_rfl
theorem laidOut:laidOutB Tryz.prog=true:=by kernel_rfl
theorem JNo:(Rows.topFilesRow.laid.all fun x=>x.2.handleName?.isNone)=true:=by kernel_rfl
theorem gok {W:World}(hs:W.ShapedOpen Tryz.prog)(hL:laidMetH Tryz.prog Rows.topFilesRow.laid W):ZZ Tryz.prog (fun b _=>b<W.heap.size) W:=
 ZZ.of hL JNo rfl (g:=1) (t:=272) (e:=245) (n:=20) JL JL JL JL JL JL
  (m:=2) (tm:=3) (zero:=#[.int .i64 0]) JL hs Qb JL JL JL JL JL
theorem lifted (os:Os)(started:os.Started)(H:Type)(enc:TypeId × Value→H) :
  ReturnsInHanded {} Tryz.checked os 3 .any (fun w args=>(Rows.topFilesSpec.pre enc Tryz.prog Tryz.f3 Rows.topFilesRow.domain false w args∧laidMetH Tryz.prog Rows.topFilesRow.laid w)∧sizedMet enc Tryz.prog Tryz.f3 (OpenSpec.ofChange Rows.topFilesSpec) false w args) (Rows.topFilesSpec.post enc Tryz.prog Tryz.f3 false true false false):=by
 refine JTn (C:=Tryz.checked) (X:=fun w _=>laidMetH Tryz.prog Rows.topFilesRow.laid w) (fun _ _ _ hh h=>h.of_heap hh) own started JL Tryz.func3
  (ChangeSpec.witness_shaped (enc:=enc) (C:=Tryz.checked) (os:=os) (X:=fun w _=>laidMetH Tryz.prog Rows.topFilesRow.laid w) false (World.laidAll Tryz.prog os Rows.topFilesRow.laid) #[.agg #[.slice none 0 0,.slice none 0 0],.int .i64 0] 8 (World.laidAll_os _ _ _)
   (World.shaped_of_ZipB JL JL) JL JL JL
   (by rw [MakeChecks.laidMetH_plain _ _ _ JNo];exact laidMet_laidAll _ JL JL)) ?_
 intro W base args ds gs before hval0 hW hsh hL
 have hval:∀(j:Nat) t v,Tryz.f3.params[j]? = some t→args[j]? = some v→Value.okWide Tryz.prog W .any base t v:=hval0
 have hW':=hW
 obtain ⟨p,q,hA0,hV,rfl,hfz,hnd⟩:=hW'
 have hA:DataW.TrodAll enc Tryz.prog W 0 (fun _=>true) true Tryz.f3.params.toList args.toList ds p:=hA0
 rw [Tryz.params3] at hA hval
 have hG:=gok hsh hL
 obtain ⟨v0,v1,d0,d1,p0,p1,rfl,rfl,rfl,h0,h1⟩:=trodAll_two hA
 obtain ⟨rfl,rfl⟩:=trodVars_none hV
 obtain ⟨x0,l0,hx0⟩:=Cd.JVe (hval 0 25 v0 rfl rfl) h0
 obtain ⟨x1,l1,hx1⟩:=Cd.JQ3 (hval 1 3 v1 rfl rfl) h1
 refine (JTu (Cd.JQB x0 x1) W [v0,v1] ⟨hx0,hx1,trivial⟩ hG).mono fun e W' ⟨he,hb⟩=>?_
 exact ⟨_,he,JTS (tb:=4) hW hb rfl rfl rfl JL laidOut Qb⟩
theorem z1:Tryz.pinned.checked.prog.inPlace 3=Rows.topFilesRow.inPlace:=by kernel_rfl
theorem z2:Tryz.pinned.checked.prog.unfollowed 3=Rows.topFilesRow.unfollowed:=by kernel_rfl
theorem z3:Tryz.pinned.checked.prog.recurses 3=Rows.topFilesRow.recurses:=by kernel_rfl
theorem z4:Tryz.pinned.checked.prog.varsNamed 3=Rows.topFilesRow.named:=by kernel_rfl
theorem closed:joinedFacts Tryz.pinned.checked.prog 3 Tryz.f3 Rows.topFilesSpec Rows.topFilesRow=true:=by
 unfold joinedFacts
 rw [z1,z2,z3,z4]
 kernel_rfl
theorem bare:Rows.TopFilesSaid:=
 OpenClaim.holds_of_wide 3 Tryz.f3 rfl rfl rfl rfl rfl rfl rfl ⟨rfl,rfl,rfl,rfl,rfl⟩ rfl rfl rfl rfl rfl JL Tryz.func3 closed
  (of_decide_eq_true JL) (by unfold Func.isWrapper;first|(rw [if_pos Qb];kernel_rfl)|(rw [if_neg Qb];exact ⟨rfl,rfl⟩))
  (fun os started H enc _=>lifted os started H enc)
theorem holds:Rows.TopFilesCardSaid:=
 Claim7.holds_tied_plain_at .later [] [.data,.data,.data,.data,.pinned] true (true, "a4c23813cb1a935b72d1bc74a8a412aa7df29762ec0388838dd8623dbac8462d") true
  bare (fun _ h=>by cases h) JL (fun _ h=>by cases h) topFiles_row_tie rfl ⟨rfl,rfl⟩ JL rfl
  (fun f fn hf hfn=>by
   obtain rfl:f=3:=Option.some.inj ((show Tryz.prog.funcNamed "meterworks/meterworkstop.TopFiles" = some 3 by kernel_rfl).symm.trans hf) |>.symm
   obtain rfl:fn=Tryz.f3:=(Option.some.inj (Tryz.func3.symm.trans hfn)).symm
   exact ⟨by kernel_rfl,fun j t ht=>by
    rw [Tryz.params3] at ht
    have ht2:t∈Tryz.f3.params.toList:=by rw [Tryz.params3];exact List.mem_of_getElem? (by simpa using ht)
    exact (show ∀t∈Tryz.f3.params.toList,Tryz.prog.wantsStandIn t=false by decide +kernel) t ht2⟩)
  JL
end Go.Proofs.YtpmdcdglfeicaaaGreatDoor
#print axioms Go.Proofs.YtpmdcdglfeicaaaGreatDoor.holds

/- Contracts of the functions that the book reaches: pages, by the document. -/
import Derived.Test.YtpmdcdglfeicaaaGreatDoorD1
import Derived.Test.YtpmdcdglfeicaaaGreatDoorB4
import Derived.Test.YtpmdcdglfeicaaaGreatDoorB11
set_option maxRecDepth 20000
set_option maxHeartbeats 16000000
set_option linter.unusedSimpArgs false
set_option linter.unusedVariables false
set_option linter.unusedSectionVars false
set_option linter.deprecated false
namespace Go.Mw
open Go.Proofs
open Go.Bk
attribute [local go_sem] decide_true beq_self_eq_true bne_self_eq_false
theorem JN9:∀(a:List Int) (n:Int),Y2 a=true→(∀m,a.getLast? = some m→m≤n)→Y2 (a++[n])=true
 |[],n,_,_=>rfl
 |[x],n,_,h=>by
  have:=h x rfl
  simp [Y2,this]
 |x::y::a,n,h,hm=>by
  simp only [Y2,Bool.and_eq_true] at h
  have ih:=JN9 (y::a) n h.2 (fun m h=>hm m (by rw [List.getLast?_cons_cons];exact h))
  show Y2 (x::y::(a++[n]))=true
  simp only [Y2,Bool.and_eq_true]
  exact ⟨h.1,ih⟩
theorem JR1 {l:List Int}{j:Nat}(h0:0<j)(hj:j≤l.length):(l.take j).getLast? = l[j-1]? :=by
 rw [List.getLast?_eq_getElem?,List.length_take,Nat.min_eq_left hj,List.getElem?_take,if_pos (by omega)]
theorem JOE {l:List Int}{j:Nat}{n:Int}(hn:l[j]? = some n)(h:Y2 (l.take j)=true)(hm:0<j→∀m,l[j-1]? = some m→m≤n):Y2 (l.take (j+1))=true:=by
 rw [ZN hn]
 refine JN9 _ _ h fun m h2=>?_
 have hj:=(List.getElem?_eq_some_iff.1 hn).1
 by_cases h0:0<j
 ·rw [JR1 h0 (by omega)] at h2
  exact hm h0 m h2
 ·have:j=0:=by omega
  subst this
  simp at h2
theorem JOB:∀ {l:List Int} {j:Nat} {m n:Int},Y2 l=true→l[j]? = some m→l[j+1]? = some n→m≤n
 |[],j,m,n,_,h,_=>by simp at h
 |[x],j,m,n,_,_,h=>by simp at h
 |x::y::l,0,m,n,h,h1,h2=>by
  simp only [Y2,Bool.and_eq_true,decide_eq_true_eq] at h
  simp at h1 h2
  subst h1 h2;exact h.1
 |x::y::l,j+1,m,n,h,h1,h2=>by
  simp only [Y2,Bool.and_eq_true] at h
  exact JOB h.2 (by simpa using h1) (by simpa using h2)
theorem JHb {l:List Pg}{k:Nat}{x:Pg}(hx:l[k]? = some x)(h:¬YW x=true):l.all YW=false:=by
 cases h2:l.all YW with
 |false=>rfl
 |true=>exact absurd (JCZ h2 hx) h
theorem JFq {x:Pg}:YW x=true↔Qj x.house 0 9999=true∧x.reads.length≤16∧x.reads.all (fun n=>Qj n 0 1073741824)=true∧Y2 x.reads=true:=by
 unfold YW
 simp only [Bool.and_eq_true,decide_eq_true_eq,and_assoc]
theorem JQd (l:List Pg)(hl:l.length≤1000)(hz:∀x∈l,x.reads.length≤1000):Jb Tryz.prog 40 [.leaf (.d (Z6 l))] (.int (Y1 l)) []:=by
 have hpe:Y1 l=Zp l.length 32 (l.all YW) (Qv (l.map Pg.house)):=rfl
 refine Jq Jd Tryz.func40 rfl (by simp only [List.length_cons,List.length_nil,Tryz.ntmps40];omega) JH rfl ?_
 refine JB.reg ?_
 refine JA.o ?_
 refine JA.nil (JB.assocS (JB.reg ?_))
 iterate 3 (refine JA.o ?_)
 refine JA.nil ?_
 refine JB.cndS JD (fun hb8=>?_) (fun hb8=>?_)
 ·skip
  have h1:32<l.length:=by have:=of_decide_eq_true hb8;omega
  have hr:=JCo (l.all YW) (Qv (l.map Pg.house)) h1
  refine JB.assocS (JB.reg ?_)
  have X:=(Fx.mk hpe).a hr
  refine JA.o1 JC ?_
  refine JA.nil (JB.retS ?_)
  exact Ends.fin [] (rs:=[.tmp 2]) rfl JC Qp
 ·skip
  have hle:l.length≤32:=by have:=of_decide_eq_false hb8;omega
  refine JB.skipS (JB.assocS (JB.reg ?_))
  refine JA.o ?_
  refine JA.nil (JB.blk ?_)
  refine JB.forA [0,3] [] (l.length) (fun k=>[.slot 3 (.int k)]) (fun k=>(l.take k).all YW=true) (fun k=>by simp only [go_sem]<;>rfl) JCV ?_ (fun k hk hX=>?_)
  ·rfl
  ·skip
   refine JB.assocS (JB.reg ?_)
   iterate 4 (refine JA.o ?_)
   refine JA.nil ?_
   refine JB.cndS JD (fun hb12=>?_) (fun hb12=>?_)
   ·skip
    have hlt:=Yj hb12
    obtain ⟨x,hx⟩:=Yh hb12
    have hxz:=hz x (List.mem_of_getElem? hx)
    refine JB.skipS (JB.blk (JB.assocS ?_))
    by_cases g1:Qj x.house 0 9999=true
    ·skip
     refine JB.reg ?_
     have X:=(Fx.mk hx).a g1
     iterate 2 (refine JA.o1 JX ?_)
     refine JA.o1 V82 ?_
     iterate 2 (refine JA.o1 JX ?_)
     refine JA.c1 (Yz x.house 0 9999) JX JX ?_
     iterate 2 (refine JA.o1 JX ?_)
     iterate 2 (refine JA.y1 JX ?_)
     refine JA.y1 V82 ?_
     iterate 4 (refine JA.y1 JX ?_)
     refine JA.o1 JX ?_
     refine JA.nil ?_
     refine JB.cndS JX (fun hb30=>?_) (fun hb30=>?_)
     ·skip
      have h16:¬x.reads.length≤16:=by have:=of_decide_eq_true hb30;omega
      have hna:=JHb hx (fun h=>h16 (JFq.1 h).2.1)
      have hr:=JAI (Qv (l.map Pg.house)) hle
      refine JB.assocS (JB.reg ?_)
      have X:=((X.a hpe).a hna).a hr
      refine JA.o1 JX ?_
      refine JA.nil (JB.retS (JP.ret (JV.ret (JP.ret ?_))))
      exact Ends.fin [] (rs:=[.tmp 2]) rfl JX JGR
     ·skip
      have h16:x.reads.length≤16:=by have:=of_decide_eq_false hb30;omega
      refine JB.skipS (JB.reg ?_)
      refine JA.o1 JX ?_
      refine JA.nil (JB.blk1 ?_)
      refine JB.forA [0,3,4] [] (x.reads.length) (fun j=>[.slot 4 (.int j)]) (fun j=>(x.reads.take j).all (fun n=>Qj n 0 1073741824)=true∧Y2 (x.reads.take j)=true) (fun j=>by simp only [go_sem]<;>rfl) (by simp only [go_sem,X.h,Bool.not_true,Int.natCast_zero]<;>rfl) ?_ (fun j hj Xj=>?_)
      ·exact ⟨rfl,rfl⟩
      ·skip
       refine JB.assocS (JB.reg ?_)
       iterate 3 (refine JA.o1 JX ?_)
       refine JA.o1 V82 ?_
       iterate 4 (refine JA.o1 JX ?_)
       refine JA.nil ?_
       refine JB.cndS JX (fun hb38=>?_) (fun hb38=>?_)
       ·skip
        have hlt2:=Yj hb38
        obtain ⟨n,hn⟩:=Yh hb38
        refine JB.skipS (JB.blk ?_)
        by_cases q1:Qj n 0 1073741824=true
        ·skip
         by_cases q2:0<j
         ·skip
          have hd:decide ((j:Int)>0)=true:=decide_eq_true (by omega)
          have ht:((j:Int)-1).toNat=j-1:=by omega
          obtain ⟨m,hm⟩:∃m,x.reads[j-1]? = some m:=⟨_,List.getElem?_eq_getElem (by omega)⟩
          refine JB.opk 36 ?_
          have X:=((((X.a hn).a q1).a hd).a ht).a hm
          iterate 2 (refine JF.o1 Yd ?_)
          refine JF.o1 V61 ?_
          iterate 3 (refine JF.o1 Yd ?_)
          refine JF.o1 V61 ?_
          refine JF.o1 Yd ?_
          refine JF.cal (Yz n 0 1073741824) JW Yd Zb (QZ) Yd JD JD ?_
          iterate 2 (refine JF.o1 Yd ?_)
          iterate 5 (refine JF.y1 Yd ?_)
          refine JF.y1 V61 ?_
          iterate 3 (refine JF.y1 Yd ?_)
          refine JF.y1 V61 ?_
          iterate 3 (refine JF.y1 Yd ?_)
          refine JF.y1 V61 ?_
          iterate 3 (refine JF.y1 Yd ?_)
          refine JF.y1 V56 ?_
          refine JF.y1 V61 ?_
          iterate 3 (refine JF.y1 Yd ?_)
          refine JF.o1 Yd ?_
          refine JF.nil (QW.finT JH JH JH ?_)
          refine JB.cnd Yd (fun hb74=>?_) (fun hb74=>?_)
          ·skip
           have hlt3:n<m:=of_decide_eq_true hb74
           have hna:=JHb hx (fun h=>by have h5:=JOB (l:=x.reads) (j:=j-1) (JFq.1 h).2.2.2 hm (by rw [show j-1+1=j by omega];exact hn);omega)
           have hr:=JAI (Qv (l.map Pg.house)) hle
           refine JB.reg ?_
           have X:=((X.a hpe).a hna).a hr
           refine JA.o1 Yd ?_
           refine JA.nil (JP.ret (JV.ret (Q5.ret (JP.ret (JV.ret (JP.ret ?_))))))
           exact Ends.fin [] (rs:=[.tmp 2]) rfl Yd (by simp only [go_sem,X.h,Bool.not_true,Bool.not_true]<;>first|rfl|exact QV)
          ·skip
           have hge3:m≤n:=by have:=of_decide_eq_false hb74;omega
           have hst:=JOE hn Xj.2 (fun _ m2 h2=>by rw [hm] at h2;cases h2;exact hge3)
           refine JP.nrm (JB.reg1 ?_)
           refine JA.o1 Yd ?_
           refine JA.o1 V56 ?_
           refine JA.o1 Yd ?_
           refine JA.nil ?_
           refine JV.nxt ?_ ?_ ?_
           ·omega
           ·exact JO.kp [0,3,4] [] (by simp only [go_sem,X.h,Bool.not_true,Bool.not_true]<;>first|exact QV|rfl)
           ·exact ⟨by rw [ZN hn,List.all_append,Xj.1];simp [q1],hst⟩
         ·skip
          have hd:decide ((j:Int)>0)=false:=decide_eq_false (by omega)
          refine JB.opk 36 ?_
          have X:=((X.a hn).a q1).a hd
          iterate 2 (refine JF.o1 Yd ?_)
          refine JF.o1 V61 ?_
          iterate 3 (refine JF.o1 Yd ?_)
          refine JF.o1 V61 ?_
          refine JF.o1 Yd ?_
          refine JF.cal (Yz n 0 1073741824) JW Yd Zb (QZ) Yd JD JD ?_
          iterate 2 (refine JF.o1 Yd ?_)
          iterate 3 (refine JF.y1 Yd ?_)
          iterate 18 (refine JF.s ?_)
          refine JF.y1 Yd ?_
          refine JF.o1 Yd ?_
          refine JF.nil (QW.finT JH JH JH ?_)
          refine JB.cnd Yd (fun hb74=>?_) (fun hb74=>?_)
          ·exact absurd hb74 (by simp)
          ·skip
           have hst:=JOE hn Xj.2 (fun h=>absurd h q2)
           refine JP.nrm (JB.reg1 ?_)
           refine JA.o1 Yd ?_
           refine JA.o1 V56 ?_
           refine JA.o1 Yd ?_
           refine JA.nil ?_
           refine JV.nxt ?_ ?_ ?_
           ·omega
           ·exact JO.kp [0,3,4] [] (by simp only [go_sem,X.h,Bool.not_true,Bool.not_true]<;>first|exact QV|rfl)
           ·exact ⟨by rw [ZN hn,List.all_append,Xj.1];simp [q1],hst⟩
        ·skip
         have h1:Qj n 0 1073741824=false:=by simpa using q1
         refine JB.opk 36 ?_
         have X:=(X.a hn).a h1
         iterate 2 (refine JF.o1 YL ?_)
         refine JF.o1 V58 ?_
         iterate 3 (refine JF.o1 YL ?_)
         refine JF.o1 V58 ?_
         refine JF.o1 YL ?_
         refine JF.cal (Yz n 0 1073741824) JW YL Zb (QZ) YL JD JD ?_
         iterate 2 (refine JF.o1 YL ?_)
         iterate 22 (refine JF.s ?_)
         refine JF.o1 YL ?_
         refine JF.nil (QW.finT JH JH JH ?_)
         refine JB.cnd YL (fun hb74=>?_) (fun hb74=>?_)
         ·skip
          have hna:=JHb hx (fun h=>q1 (List.all_eq_true.1 (JFq.1 h).2.2.1 n (List.mem_of_getElem? hn)))
          have hr:=JAI (Qv (l.map Pg.house)) hle
          refine JB.reg ?_
          have X:=((X.a hpe).a hna).a hr
          refine JA.o1 YL ?_
          refine JA.nil (JP.ret (JV.ret (Q5.ret (JP.ret (JV.ret (JP.ret ?_))))))
          exact Ends.fin [] (rs:=[.tmp 2]) rfl YL JH2
         ·exact absurd hb74 (by simp)
       ·skip
        have hjn:=Yi hb38
        obtain ⟨y1,y2⟩:=Xj
        rw [List.take_of_length_le hjn] at y1 y2
        have hok:YW x=true:=JFq.2 ⟨g1,h16,y1,y2⟩
        refine JB.exitS (JV.ext (Q5.hit (JP.nrm (JB.reg1 ?_))))
        refine JA.o1 JX ?_
        refine JA.o1 V66 ?_
        refine JA.o1 JX ?_
        refine JA.nil ?_
        refine JV.nxt ?_ ?_ ?_
        ·omega
        ·exact JO.kp [0,3] [] JAK
        ·exact by rw [ZN hx,List.all_append,hX];simp [hok]
    ·skip
     have h1:Qj x.house 0 9999=false:=by simpa using g1
     refine JB.reg ?_
     have X:=(Fx.mk hx).a h1
     iterate 2 (refine JA.o1 YN ?_)
     refine JA.o1 V79 ?_
     iterate 2 (refine JA.o1 YN ?_)
     refine JA.c1 (Yz x.house 0 9999) YN YN ?_
     iterate 2 (refine JA.o1 YN ?_)
     iterate 7 (refine JA.s ?_)
     refine JA.o1 YN ?_
     refine JA.nil ?_
     refine JB.cndS YN (fun hb30=>?_) (fun hb30=>?_)
     ·skip
      have hna:=JHb hx (fun h=>g1 (JFq.1 h).1)
      have hr:=JAI (Qv (l.map Pg.house)) hle
      refine JB.assocS (JB.reg ?_)
      have X:=((X.a hpe).a hna).a hr
      refine JA.o1 YN ?_
      refine JA.nil (JB.retS (JP.ret (JV.ret (JP.ret ?_))))
      exact Ends.fin [] (rs:=[.tmp 2]) rfl YN JH3
     ·exact absurd hb30 (by simp)
   ·skip
    have hall:l.all YW=true:=by have:=Yi hb12;rw [List.take_of_length_le this] at hX;exact hX
    refine JB.exitS (JV.ext (JP.hit (JB.assocS (JB.reg ?_))))
    refine JA.o ?_
    refine JA.nil (JB.blk ?_)
    refine JB.forA [0,5] [] (l.length) (fun i=>[.slot 5 (.int (1+(i:Int)))]) (fun i=>JAg (l.map Pg.house) (1+i)) (fun i=>by simp only [go_sem]<;>rfl) JH6 ?_ (fun i hi Xi=>?_)
    ·exact JCL _
    ·skip
     refine JB.assocS (JB.reg ?_)
     iterate 4 (refine JA.o ?_)
     refine JA.nil ?_
     refine JB.cndS JD (fun hb78=>?_) (fun hb78=>?_)
     ·skip
      have hjl:1+i<l.length:=by have:=of_decide_eq_true hb78;omega
      obtain ⟨x,hx⟩:∃x,l[1+i]? = some x:=⟨_,List.getElem?_eq_getElem hjl⟩
      obtain ⟨y,hy⟩:∃y,l[1+i-1]? = some y:=⟨_,List.getElem?_eq_getElem (by omega)⟩
      have hy2:l[i]? = some y:=by rw [←hy];congr 1;omega
      have t1:((1:Int)+(i:Int)-1).toNat=i:=by omega
      have t2:((1:Int)+(i:Int)).toNat=1+i:=by omega
      refine JB.skipS (JB.blk ?_)
      refine JB.opk 14 ?_
      have X:=(((Fx.mk hx).a hy2).a t1).a t2
      iterate 2 (refine JF.o1 JC ?_)
      refine JF.o1 QQ ?_
      iterate 4 (refine JF.o1 JC ?_)
      refine JF.o1 QC ?_
      refine JF.o1 QQ ?_
      iterate 3 (refine JF.o1 JC ?_)
      refine JF.nil (QW.fin J4 J4 ?_)
      refine JB.cnd JC (fun hb92=>?_) (fun hb92=>?_)
      ·skip
       have hno:=JEd (f:=Pg.house) (k:=1+i) (by omega) hx hy (by have:=of_decide_eq_true hb92;omega)
       have hr:=JED hle
       refine JB.reg ?_
       have X:=(((X.a hpe).a hall).a hno).a hr
       refine JA.o1 JC ?_
       refine JA.nil (JP.ret (JV.ret (JP.ret ?_)))
       exact Ends.fin [] (rs:=[.tmp 2]) rfl JC Qp
      ·skip
       refine JP.nrm (JB.reg1 ?_)
       refine JA.o1 JC ?_
       refine JA.o1 QC ?_
       refine JA.o1 JC ?_
       refine JA.nil ?_
       refine JV.nxt ?_ ?_ ?_
       ·omega
       ·exact JO.kp [0,5] [] Zl
       ·exact JCM Xi hx hy (by have:=of_decide_eq_false hb92;omega)
     ·skip
      have hno:=JEc Xi (by have:=of_decide_eq_false hb78;omega)
      have hr:=JEC hle
      refine JB.exitS (JV.ext (JP.hit (JB.reg ?_)))
      have X:=(((Fx.mk hpe).a hall).a hno).a hr
      refine JA.o1 JC ?_
      refine JA.nil ?_
      exact Ends.fin [] (rs:=[.tmp 2]) rfl JC Qp
end Go.Mw
namespace Go.Mw
open Go.Proofs
open Go.Bk
attribute [local go_sem] decide_true beq_self_eq_true bne_self_eq_false
theorem JF5 {l:List Sh}{k:Nat}{x:Sh}(hx:l[k]? = some x)(h:¬Ym x=true):l.all Ym=false:=by
 cases h2:l.all Ym with
 |false=>rfl
 |true=>exact absurd (JCZ h2 hx) h
theorem JHn {x:Sh}:Ym x=true↔Qj x.meter 1 999999=true∧x.tries.length≤6∧x.tries.all ZB=true:=by
 unfold Ym
 simp only [Bool.and_eq_true,decide_eq_true_eq,and_assoc]
theorem JHu {t:Tr}:ZB t=true↔Qj t.flow 1 100000=true∧Qj t.pour 0 9999999=true∧Qj t.shown 0 9999999=true:=by
 unfold ZB
 simp only [Bool.and_eq_true,and_assoc]
theorem JKI {x:Sh}{j:Nat}{t:Tr}(ht:x.tries[j]? = some t)(h:¬ZB t=true):¬Ym x=true:=fun hs=>h (List.all_eq_true.1 (JHn.1 hs).2.2 t (List.mem_of_getElem? ht))
theorem JQf (l:List Sh)(hl:l.length≤1000000000)(hz:∀x∈l,x.tries.length≤1000000000):Jb Tryz.prog 38 [.leaf (.d (Z7 l))] (.int (Y9 l)) []:=by
 have hpe:Y9 l=Zp l.length 12 (l.all Ym) (Qv (l.map Sh.meter)):=rfl
 refine Jq Jd Tryz.func38 rfl (by simp only [List.length_cons,List.length_nil,Tryz.ntmps38];omega) JH rfl ?_
 refine JB.reg ?_
 refine JA.o ?_
 refine JA.nil (JB.assocS (JB.reg ?_))
 iterate 3 (refine JA.o ?_)
 refine JA.nil ?_
 refine JB.cndS JD (fun hb9=>?_) (fun hb9=>?_)
 ·skip
  have h1:12<l.length:=by have:=of_decide_eq_true hb9;omega
  have hr:=JCo (l.all Ym) (Qv (l.map Sh.meter)) h1
  refine JB.assocS (JB.reg ?_)
  have X:=(Fx.mk hpe).a hr
  refine JA.o1 JC ?_
  refine JA.nil (JB.retS ?_)
  exact Ends.fin [] (rs:=[.tmp 2]) rfl JC Qp
 ·skip
  have hle:l.length≤12:=by have:=of_decide_eq_false hb9;omega
  refine JB.skipS (JB.assocS (JB.reg ?_))
  refine JA.o ?_
  refine JA.nil (JB.blk ?_)
  refine JB.forA [0,3] [] (l.length) (fun k=>[.slot 3 (.int k)]) (fun k=>(l.take k).all Ym=true) (fun k=>by simp only [go_sem]<;>rfl) JCV ?_ (fun k hk hX=>?_)
  ·rfl
  ·skip
   refine JB.assocS (JB.reg ?_)
   iterate 4 (refine JA.o ?_)
   refine JA.nil ?_
   refine JB.cndS JD (fun hb13=>?_) (fun hb13=>?_)
   ·skip
    have hlt:=Yj hb13
    obtain ⟨x,hx⟩:=Yh hb13
    have hxz:=hz x (List.mem_of_getElem? hx)
    refine JB.skipS (JB.blk (JB.assocS ?_))
    by_cases g1:Qj x.meter 1 999999=true
    ·skip
     refine JB.reg ?_
     have X:=(Fx.mk hx).a g1
     iterate 2 (refine JA.o1 JX ?_)
     refine JA.o1 V82 ?_
     iterate 2 (refine JA.o1 JX ?_)
     refine JA.c1 (Yz x.meter 1 999999) JX JX ?_
     iterate 2 (refine JA.o1 JX ?_)
     iterate 2 (refine JA.y1 JX ?_)
     refine JA.y1 V82 ?_
     iterate 4 (refine JA.y1 JX ?_)
     refine JA.o1 JX ?_
     refine JA.nil ?_
     refine JB.cndS JX (fun hb31=>?_) (fun hb31=>?_)
     ·skip
      have h6:¬x.tries.length≤6:=by have:=of_decide_eq_true hb31;omega
      have hna:=JF5 hx (fun h=>h6 (JHn.1 h).2.1)
      have hr:=JAI (Qv (l.map Sh.meter)) hle
      refine JB.assocS (JB.reg ?_)
      have X:=((X.a hpe).a hna).a hr
      refine JA.o1 JX ?_
      refine JA.nil (JB.retS (JP.ret (JV.ret (JP.ret ?_))))
      exact Ends.fin [] (rs:=[.tmp 2]) rfl JX JGR
     ·skip
      have h6:x.tries.length≤6:=by have:=of_decide_eq_false hb31;omega
      refine JB.skipS (JB.reg ?_)
      refine JA.o1 JX ?_
      refine JA.nil (JB.blk1 ?_)
      refine JB.forA [0,3,4] [] (x.tries.length) (fun j=>[.slot 4 (.int j)]) (fun j=>(x.tries.take j).all ZB=true) (fun j=>by simp only [go_sem]<;>rfl) (by simp only [go_sem,X.h,Bool.not_true,Int.natCast_zero]<;>rfl) ?_ (fun j hj Xj=>?_)
      ·exact rfl
      ·skip
       refine JB.assocS (JB.reg ?_)
       iterate 3 (refine JA.o1 JX ?_)
       refine JA.o1 V82 ?_
       iterate 4 (refine JA.o1 JX ?_)
       refine JA.nil ?_
       refine JB.cndS JX (fun hb39=>?_) (fun hb39=>?_)
       ·skip
        have hlt2:=Yj hb39
        obtain ⟨t,ht⟩:=Yh hb39
        refine JB.skipS (JB.blk (JB.reg ?_))
        have X:=X.a ht
        iterate 2 (refine JA.o1 JX ?_)
        refine JA.o1 V82 ?_
        iterate 3 (refine JA.o1 JX ?_)
        refine JA.o1 V82 ?_
        iterate 3 (refine JA.o1 JX ?_)
        refine JA.nil ?_
        by_cases q1:Qj t.flow 1 100000=true
        ·skip
         by_cases q2:Qj t.pour 0 9999999=true
         ·skip
          by_cases q3:Qj t.shown 0 9999999=true
          ·skip
           refine JB.reg ?_
           have X:=((X.a q1).a q2).a q3
           iterate 2 (refine JA.o1 Zf ?_)
           refine JA.c1 (Yz t.flow 1 100000) Zf Zf ?_
           iterate 2 (refine JA.o1 Zf ?_)
           iterate 2 (refine JA.y1 Zf ?_)
           refine JA.calw JD (Yz t.pour 0 9999999) JW Zf Zf Zb (QZ) Zf ?_
           refine JA.y1 Zf ?_
           iterate 2 (refine JA.o1 Zf ?_)
           iterate 2 (refine JA.y1 Zf ?_)
           refine JA.calw JD (Yz t.shown 0 9999999) JW Zf Zf Zb (QZ) Zf ?_
           refine JA.y1 Zf ?_
           refine JA.o1 Zf ?_
           refine JA.nil ?_
           refine JB.cnd Zf (fun hb65=>?_) (fun hb65=>?_)
           ·exact absurd hb65 (by simp)
           ·skip
            have hto:ZB t=true:=JHu.2 ⟨q1,q2,q3⟩
            refine JP.nrm (JB.reg1 ?_)
            refine JA.o1 Zf ?_
            refine JA.o1 (by simp only [go_sem,X.h,Bool.not_true,Bool.not_true,Bool.not_true,Bool.not_true];(try simp (disch:=omega) only [IntWalk.i64_in,IntWalk.u64_in,IntWalk.i32_in,IntWalk.u8_in,if_neg,if_pos])<;> rfl) ?_
            refine JA.o1 Zf ?_
            refine JA.nil ?_
            refine JV.nxt ?_ ?_ ?_
            ·omega
            ·exact JO.kp [0,3,4] [] (by simp only [go_sem,X.h,Bool.not_true,Bool.not_true,Bool.not_true,Bool.not_true]<;>first|exact QV|rfl)
            ·exact by rw [ZN ht,List.all_append,Xj];simp [hto]
          ·skip
           have q30:Qj t.shown 0 9999999=false:=by simpa using q3
           refine JB.reg ?_
           have X:=((X.a q1).a q2).a q30
           iterate 2 (refine JA.o1 Ze ?_)
           refine JA.c1 (Yz t.flow 1 100000) Ze Ze ?_
           iterate 2 (refine JA.o1 Ze ?_)
           iterate 2 (refine JA.y1 Ze ?_)
           refine JA.calw JD (Yz t.pour 0 9999999) JW Ze Ze Zb (QZ) Ze ?_
           refine JA.y1 Ze ?_
           iterate 2 (refine JA.o1 Ze ?_)
           iterate 2 (refine JA.y1 Ze ?_)
           refine JA.calw JD (Yz t.shown 0 9999999) JW Ze Ze Zb (QZ) Ze ?_
           refine JA.y1 Ze ?_
           refine JA.o1 Ze ?_
           refine JA.nil ?_
           refine JB.cnd Ze (fun hb65=>?_) (fun hb65=>?_)
           ·skip
            have hna:=JF5 hx (JKI ht fun h=>q3 (JHu.1 h).2.2)
            have hr:=JAI (Qv (l.map Sh.meter)) hle
            refine JB.reg ?_
            have X:=((X.a hpe).a hna).a hr
            refine JA.o1 Ze ?_
            refine JA.nil (JP.ret (JV.ret (Q5.ret (JP.ret (JV.ret (JP.ret ?_))))))
            exact Ends.fin [] (rs:=[.tmp 2]) rfl Ze (by simp only [go_sem,X.h,Bool.not_true,Bool.not_true,Bool.not_true,Bool.not_false]<;>first|rfl|exact QV)
           ·exact absurd hb65 (by simp)
         ·skip
          have q20:Qj t.pour 0 9999999=false:=by simpa using q2
          refine JB.reg ?_
          have X:=(X.a q1).a q20
          iterate 2 (refine JA.o1 YA ?_)
          refine JA.c1 (Yz t.flow 1 100000) YA YA ?_
          iterate 2 (refine JA.o1 YA ?_)
          iterate 2 (refine JA.y1 YA ?_)
          refine JA.calw JD (Yz t.pour 0 9999999) JW YA YA Zb (QZ) YA ?_
          refine JA.y1 YA ?_
          iterate 2 (refine JA.o1 YA ?_)
          iterate 4 (refine JA.s ?_)
          refine JA.o1 YA ?_
          refine JA.nil ?_
          refine JB.cnd YA (fun hb65=>?_) (fun hb65=>?_)
          ·skip
           have hna:=JF5 hx (JKI ht fun h=>q2 (JHu.1 h).2.1)
           have hr:=JAI (Qv (l.map Sh.meter)) hle
           refine JB.reg ?_
           have X:=((X.a hpe).a hna).a hr
           refine JA.o1 YA ?_
           refine JA.nil (JP.ret (JV.ret (Q5.ret (JP.ret (JV.ret (JP.ret ?_))))))
           exact Ends.fin [] (rs:=[.tmp 2]) rfl YA (by simp only [go_sem,X.h,Bool.not_true,Bool.not_true,Bool.not_false]<;>first|rfl|exact QV)
          ·exact absurd hb65 (by simp)
        ·skip
         have q10:Qj t.flow 1 100000=false:=by simpa using q1
         refine JB.reg ?_
         have X:=X.a q10
         iterate 2 (refine JA.o1 YL ?_)
         refine JA.c1 (Yz t.flow 1 100000) YL YL ?_
         iterate 2 (refine JA.o1 YL ?_)
         iterate 4 (refine JA.s ?_)
         iterate 2 (refine JA.o1 YL ?_)
         iterate 4 (refine JA.s ?_)
         refine JA.o1 YL ?_
         refine JA.nil ?_
         refine JB.cnd YL (fun hb65=>?_) (fun hb65=>?_)
         ·skip
          have hna:=JF5 hx (JKI ht fun h=>q1 (JHu.1 h).1)
          have hr:=JAI (Qv (l.map Sh.meter)) hle
          refine JB.reg ?_
          have X:=((X.a hpe).a hna).a hr
          refine JA.o1 YL ?_
          refine JA.nil (JP.ret (JV.ret (Q5.ret (JP.ret (JV.ret (JP.ret ?_))))))
          exact Ends.fin [] (rs:=[.tmp 2]) rfl YL JH2
         ·exact absurd hb65 (by simp)
       ·skip
        have hjn:=Yi hb39
        rw [List.take_of_length_le hjn] at Xj
        have hok:Ym x=true:=JHn.2 ⟨g1,h6,Xj⟩
        refine JB.exitS (JV.ext (Q5.hit (JP.nrm (JB.reg1 ?_))))
        refine JA.o1 JX ?_
        refine JA.o1 V66 ?_
        refine JA.o1 JX ?_
        refine JA.nil ?_
        refine JV.nxt ?_ ?_ ?_
        ·omega
        ·exact JO.kp [0,3] [] JAK
        ·exact by rw [ZN hx,List.all_append,hX];simp [hok]
    ·skip
     have h1:Qj x.meter 1 999999=false:=by simpa using g1
     refine JB.reg ?_
     have X:=(Fx.mk hx).a h1
     iterate 2 (refine JA.o1 YN ?_)
     refine JA.o1 V79 ?_
     iterate 2 (refine JA.o1 YN ?_)
     refine JA.c1 (Yz x.meter 1 999999) YN YN ?_
     iterate 2 (refine JA.o1 YN ?_)
     iterate 7 (refine JA.s ?_)
     refine JA.o1 YN ?_
     refine JA.nil ?_
     refine JB.cndS YN (fun hb31=>?_) (fun hb31=>?_)
     ·skip
      have hna:=JF5 hx (fun h=>g1 (JHn.1 h).1)
      have hr:=JAI (Qv (l.map Sh.meter)) hle
      refine JB.assocS (JB.reg ?_)
      have X:=((X.a hpe).a hna).a hr
      refine JA.o1 YN ?_
      refine JA.nil (JB.retS (JP.ret (JV.ret (JP.ret ?_))))
      exact Ends.fin [] (rs:=[.tmp 2]) rfl YN JH3
     ·exact absurd hb31 (by simp)
   ·skip
    have hall:l.all Ym=true:=by have:=Yi hb13;rw [List.take_of_length_le this] at hX;exact hX
    refine JB.exitS (JV.ext (JP.hit (JB.assocS (JB.reg ?_))))
    refine JA.o ?_
    refine JA.nil (JB.blk ?_)
    refine JB.forA [0,6] [] (l.length) (fun i=>[.slot 6 (.int (1+(i:Int)))]) (fun i=>JAg (l.map Sh.meter) (1+i)) (fun i=>by simp only [go_sem]<;>rfl) JH6 ?_ (fun i hi Xi=>?_)
    ·exact JCL _
    ·skip
     refine JB.assocS (JB.reg ?_)
     iterate 4 (refine JA.o ?_)
     refine JA.nil ?_
     refine JB.cndS JD (fun hb69=>?_) (fun hb69=>?_)
     ·skip
      have hjl:1+i<l.length:=by have:=of_decide_eq_true hb69;omega
      obtain ⟨x,hx⟩:∃x,l[1+i]? = some x:=⟨_,List.getElem?_eq_getElem hjl⟩
      obtain ⟨y,hy⟩:∃y,l[1+i-1]? = some y:=⟨_,List.getElem?_eq_getElem (by omega)⟩
      have hy2:l[i]? = some y:=by rw [←hy];congr 1;omega
      have t1:((1:Int)+(i:Int)-1).toNat=i:=by omega
      have t2:((1:Int)+(i:Int)).toNat=1+i:=by omega
      refine JB.skipS (JB.blk ?_)
      refine JB.opk 14 ?_
      have X:=(((Fx.mk hx).a hy2).a t1).a t2
      iterate 2 (refine JF.o1 JC ?_)
      refine JF.o1 QQ ?_
      iterate 4 (refine JF.o1 JC ?_)
      refine JF.o1 QC ?_
      refine JF.o1 QQ ?_
      iterate 3 (refine JF.o1 JC ?_)
      refine JF.nil (QW.fin J4 J4 ?_)
      refine JB.cnd JC (fun hb83=>?_) (fun hb83=>?_)
      ·skip
       have hno:=JEd (f:=Sh.meter) (k:=1+i) (by omega) hx hy (by have:=of_decide_eq_true hb83;omega)
       have hr:=JED hle
       refine JB.reg ?_
       have X:=(((X.a hpe).a hall).a hno).a hr
       refine JA.o1 JC ?_
       refine JA.nil (JP.ret (JV.ret (JP.ret ?_)))
       exact Ends.fin [] (rs:=[.tmp 2]) rfl JC Qp
      ·skip
       refine JP.nrm (JB.reg1 ?_)
       refine JA.o1 JC ?_
       refine JA.o1 QC ?_
       refine JA.o1 JC ?_
       refine JA.nil ?_
       refine JV.nxt ?_ ?_ ?_
       ·omega
       ·exact JO.kp [0,6] [] Zl
       ·exact JCM Xi hx hy (by have:=of_decide_eq_false hb83;omega)
     ·skip
      have hno:=JEc Xi (by have:=of_decide_eq_false hb69;omega)
      have hr:=JEC hle
      refine JB.exitS (JV.ext (JP.hit (JB.reg ?_)))
      have X:=(((Fx.mk hpe).a hall).a hno).a hr
      refine JA.o1 JC ?_
      refine JA.nil ?_
      exact Ends.fin [] (rs:=[.tmp 2]) rfl JC Qp
end Go.Mw

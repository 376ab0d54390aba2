/- Results that are their caller's own. -/
import Derived.Test.YtpmdcdglfeicaaaGreatDoorD1
import Derived.Test.YtpmdcdglfeicaaaGreatDoorB4
import Derived.Test.YtpmdcdglfeicaaaGreatDoorB9
import Derived.Test.YtpmdcdglfeicaaaGreatDoorB10
import Derived.Test.YtpmdcdglfeicaaaGreatDoorB11
set_option maxRecDepth 20000
set_option maxHeartbeats 16000000
set_option linter.unusedSimpArgs false
set_option linter.unusedVariables false
set_option linter.unusedSectionVars false
set_option linter.deprecated false
namespace Go.Mw
open Go.Proofs
open Go.Bk
attribute [local irreducible] JX YS pack YZ J8 Qd YC ZL Jx
theorem JRQ {H:Nat→Option AO}{o n m k:Nat}{e:TypeId}{es:List (List D)}(ho:H o=some (.arr e k es))(hl:es.length=n):deep H (m+1) (.own o 0 n n)=some (.sl k es):=by
 unfold deep
 rw [ho]
 simp only
 rw [if_pos hl,List.drop_zero,←hl,List.take_length]
theorem JRN {A:JE}{l:AL}{d:D}(h:deep A.obj 4 l=some d):JCB A (.val false [l])=some (.leaf (.d d)):=by
 unfold JCB
 simp [h]
theorem JP8 (l:List Pl)(hl:l.length≤1000):Jb Tryz.prog 25 [.leaf (.d (Yu l))] (.tup [(false,[.own 37005 0 (Y0 l).length (Y0 l).length]),(false,[.d (.i (ZO l))])]) [(37005,.arr 5 1 (Jx (Y0 l)))]:=by
 have hn1:=JAG (JX 8 l.length)
 rw [Yd] at hn1
 have hn8:=Yd 8 l.length
 refine Js Jf Tryz.func25 rfl (by simp only [List.length_cons,List.length_nil,Tryz.ntmps25];omega) JJ rfl ?_
 refine JB.reg ?_
 iterate 2 (refine JA.o ?_)
 refine JA.nil (JB.assocS (JB.reg ?_))
 refine JA.o ?_
 refine JA.c1 (JEE l hl) JD JD ?_
 refine JA.o ?_
 refine JA.nil (JB.assocS (JB.reg ?_))
 iterate 2 (refine JA.o ?_)
 refine JA.nil ?_
 refine JB.cndS JD (fun hb12=>?_) (fun hb12=>?_)
 ·skip
  have hne:ZO l≠0:=by simpa using hb12
  have hr:Y0 l=[]:=if_neg hne
  refine JB.assocS (JB.reg ?_)
  have X:=Fx.mk hr
  iterate 3 (refine JA.o1 (by simp only [go_sem,X.h,JB7,List.length_nil]<;>rfl) ?_)
  refine JA.nilo 2 37005 5 1 JD JD (by omega) (by omega) JD ?_
  refine JA.nil (JB.retS ?_)
  exact Ends.fin [37005] (rs:=[.tmp 2,.tmp 3]) rfl (by simp only [go_sem,X.h,JB7,List.length_nil]<;>rfl) (by simp only [go_sem,X.h,JB7,List.length_nil]<;>first|rfl|exact QP)
 ·skip
  have he0:ZO l=0:=by simpa using hb12
  have hr:Y0 l=pack (Q2 (J3 l)):=if_pos he0
  obtain ⟨hch,hl60⟩:=JGx he0
  have hx65:∀x∈l,x.num≤65535:=fun x hx=>by
   have h:=List.all_eq_true.1 (JAn he0).2.1 x hx
   unfold JAH at h
   simp only [Bool.and_eq_true,ZC] at h
   omega
  have hca0:=JGw l 0 hch ⟨by omega,by omega⟩ hx65
  refine JB.skipS (JB.reg ?_)
  have X:=(Fx.mk hr).a he0
  refine JA.o1 JC ?_
  refine JA.nil (JB.reg ?_)
  refine JA.deadc 5 2 JD JD ?_
  refine JA.arr0 5901 5 1 JD (by omega) (by omega) JD ?_
  iterate 2 (refine JA.o1 JC ?_)
  refine JA.lendG [(910,5),(901,5901)] JD (JLZ l.length hl) JY (.inl ⟨[],by simp only [go_sem]<;>rfl,rfl⟩) JD V2 rfl (by decide) JAQ ZT V29 Zc JD ?_
  refine JA.nil (JB.reg ?_)
  refine JA.o1 JC ?_
  refine JA.nil (JB.assocS (JB.reg ?_))
  iterate 3 (refine JA.o1 JC ?_)
  refine JA.nil (JB.blk ?_)
  refine JB.forA [5,6,17,18,19] [5,5901] (l.length) (fun k=>[.slot 6 (.int (QY 0 (l.take k))),.slot 19 (.int k),.obj 5 (.cells [Qn 5901 (pack (JX 8 l.length++QB 0 (l.take k))),.d (.raw (.int .i64 0)),.dead,.d (.raw (.int .u8 ((J8 (YZ (JX 8 l.length++QB 0 (l.take k))):Nat):Int))),.d (.raw (.int .i64 (((JX 8 l.length++QB 0 (l.take k))).length:Int))),.d (.raw (.int .i64 (Zg 0 ((JV (JX 8 l.length):Nat):Int) (l.take k))))]),.obj 5901 (.arr 5 1 (Jx (pack (JX 8 l.length++QB 0 (l.take k)))))]) (fun _=>True) (fun k=>by simp only [go_sem]<;>rfl) (by simp only [go_sem,X.h,Int.natCast_zero,List.take_zero,QB,QY,Zg,List.append_nil]<;>rfl) ?_ (fun k hk hX=>?_)
  ·trivial
  ·skip
   refine JB.reg ?_
   refine JA.o1 JC ?_
   refine JA.nil ?_
   refine JB.cndS JC (fun hb20=>?_) (fun hb20=>?_)
   ·skip
    have hlt:=Yk hb20
    obtain ⟨x,hx⟩:=Yj hb20
    have hca:=hca0 k
    have htk:=Yf hx
    have hg:JX 8 l.length++QB 0 (l.take (k+1))=JX 8 l.length++QB 0 (l.take k)++Qd x (QY 0 (l.take k)):=by rw [htk,JFc,List.append_assoc]
    have hp:QY 0 (l.take (k+1))=x.num:=by rw [htk,JJC]
    have ho:Zg 0 ((JV (JX 8 l.length):Nat):Int) (l.take (k+1))=((JV (Qd x (QY 0 (l.take k))):Nat):Int):=by rw [htk,JJB]
    have hgl:(QB 0 (l.take (k+1))).length=(QB 0 (l.take k)).length+(Qd x (QY 0 (l.take k))).length:=by rw [htk,JFc,List.length_append]
    refine JB.skipS (JB.blk (JB.reg ?_))
    have X:=(((X.a hx).a hg).a hp).a ho
    refine JA.o1 QE ?_
    iterate 3 (refine JA.o1 JC ?_)
    refine JA.nil (JB.reg ?_)
    iterate 2 (refine JA.o1 JC ?_)
    refine JA.lendG [(910,5),(901,5901)] JD (JLc (JX 8 l.length++QB 0 (l.take k)) x (QY 0 (l.take k)) (Zg 0 ((JV (JX 8 l.length):Nat):Int) (l.take k)) (by rw [List.length_append];omega) hca.2.1 (hca.2.2.2 x hx)) JY (.inl ⟨[],by simp only [go_sem]<;>rfl,rfl⟩) JD V2 rfl (by decide) JAQ ZT V29 Zc JD ?_
    refine JA.nil (JB.reg1 ?_)
    iterate 3 (refine JA.o1 JC ?_)
    refine JA.nil (JR.nrm (JB.reg1 ?_))
    refine JA.o1 Jv ?_
    refine JA.o1 JC ?_
    refine JA.nil ?_
    refine JU.nxt ?_ ?_ ?_
    ·omega
    ·exact JN.kp [5,6,17,18,19] [5,5901] V7
    ·trivial
   ·skip
    have hke:=Yo hb20
    have htk:l.take k=l:=List.take_of_length_le hke
    have hca:=hca0 k
    rw [htk] at hca
    have hol:=hca.2.2.1 ((JV (JX 8 l.length):Nat):Int) (by omega)
    have hbb:JX 8 l.length++QB 0 l=J3 l:=rfl
    have hbl:(J3 l).length=8+(QB 0 l).length:=by rw [←hbb,List.length_append,hn8]
    have hpl:(Q2 (J3 l)).length=(J3 l).length+((8-(J3 l).length%8)%8):=by unfold Q2;rw [List.length_append,List.length_replicate]
    have hg0:=hca.1
    have hkl:k≤60:=by omega
    have hbl2:(JX 8 l.length).length+(QB 0 l).length=(J3 l).length:=by rw [←hbb,List.length_append]
    refine JB.exitS (JU.ext (JR.hit (JB.blk ?_)))
    have X:=((X.a htk).a hbb).a hbl2
    refine JB.forA [5] [5,5901] (((8-(J3 l).length%8)%8)) (fun j=>[.obj 5 (.cells [Qn 5901 (pack (J3 l++List.replicate j false)),.d (.raw (.int .i64 0)),.dead,.d (.raw (.int .u8 ((J8 (YZ (J3 l++List.replicate j false)):Nat):Int))),.d (.raw (.int .i64 (((J3 l++List.replicate j false)).length:Int))),.d (.raw (.int .i64 (Zg 0 ((JV (JX 8 l.length):Nat):Int) l)))]),.obj 5901 (.arr 5 1 (Jx (pack (J3 l++List.replicate j false))))]) (fun _=>True) (fun j=>by simp only [go_sem]<;>rfl) (by simp only [go_sem,X.h,List.replicate_zero,List.append_nil,List.length_nil,Nat.add_zero]<;>rfl) ?_ (fun j hj Xj=>?_)
    ·trivial
    ·skip
     skip
     have htm1:(((J3 l++List.replicate j false).length:Nat):Int).tmod 8=((((J3 l).length+j)%8:Nat):Int):=by rw [Int.tmod_eq_emod_of_nonneg (by omega)];simp
     have htm2:(((J3 l).length+(List.replicate j false).length:Nat):Int).tmod 8=((((J3 l).length+j)%8:Nat):Int):=by rw [Int.tmod_eq_emod_of_nonneg (by omega)];simp
     have htm3:(((J3 l).length+j:Nat):Int).tmod 8=((((J3 l).length+j)%8:Nat):Int):=by rw [Int.tmod_eq_emod_of_nonneg (by omega)];simp
     refine JB.assocS (JB.reg ?_)
     have X:=((X.a htm1).a htm2).a htm3
     iterate 2 (refine JA.o1 JC ?_)
     refine JA.o1 Jv ?_
     refine JA.o1 JC ?_
     refine JA.nil ?_
     refine JB.cndS JC (fun hb32=>?_) (fun hb32=>?_)
     ·skip
      have hj:j<((8-(J3 l).length%8)%8):=by have:=hb32;simp at this;omega
      have hst:J3 l++List.replicate (j+1) false=J3 l++List.replicate j false++[false]:=by rw [List.replicate_succ',List.append_assoc]
      refine JB.skipS (JB.blk1 (JB.reg1 ?_))
      refine JA.lendG [(910,5),(901,5901)] JD (JGo (J3 l++List.replicate j false) false (Zg 0 ((JV (JX 8 l.length):Nat):Int) l) (by rw [List.length_append,List.length_replicate];omega) (by omega)) JY (.inl ⟨[],by simp only [go_sem]<;>rfl,rfl⟩) JD V5 rfl (by decide) JAQ ZT V29 Zc JD ?_
      refine JA.nil (Qp.nrm ?_)
      refine JU.nxt ?_ ?_ ?_
      ·omega
      ·exact JN.kp [5] [5,5901] V6
      ·trivial
     ·skip
      have hj:j=((8-(J3 l).length%8)%8):=by have:=hb32;simp at this;omega
      have hje:J3 l++List.replicate j false=Q2 (J3 l):=by rw [hj];rfl
      have hlj:(J3 l).length+j=(Q2 (J3 l)).length:=by rw [hpl,hj]
      have hb0:=ZH (pack (Q2 (J3 l)))
      have htk0:(Jx (pack (Q2 (J3 l)))).take (pack (Q2 (J3 l))).length=Jx (pack (Q2 (J3 l))):=List.take_of_length_le (by omega)
      refine JB.exitS (JU.ext (JR.hit (JB.reg ?_)))
      have X:=(X.a hje).a hlj
      refine JA.o1 JC ?_
      have X:=(Fx.mk hje).a hlj
      refine JA.lendG [(910,5),(901,5901)] JD (JLF (pack (Q2 (J3 l))) (JHg l) (.raw (.int .u8 ((J8 (YZ (Q2 (J3 l))):Nat):Int))) (.raw (.int .i64 (((Q2 (J3 l))).length:Int))) (.raw (.int .i64 (Zg 0 ((JV (JX 8 l.length):Nat):Int) l)))) JY (.inl ⟨[],by simp only [go_sem]<;>rfl,rfl⟩) JC Y1 rfl (by decide) JAQ V51 V29 Zc JC ?_
      refine JA.lendG [(901,5901)] JD (JLG (pack (Q2 (J3 l))) (JHg l) (by rw [JDV];omega)) JY (.inl ⟨[],by simp only [go_sem]<;>rfl,rfl⟩) JD Y1 rfl (by decide) YB Zb YQ V52 JD ?_
      have X:=(((((((((Fx.mk hr).a he0).a htk).a hbb).a hbl2).a htm1).a htm2).a htm3).a hje).a hlj
      iterate 2 (refine JA.o1 JC ?_)
      refine JA.nil ?_
      exact Ends.fin [37005] (rs:=[.tmp 2,.tmp 3]) rfl JC Qs
theorem JQk (b:Bs)(hb:b.length≤1000000)(n:Nat)(l:List Pl)(r:Bits)(hu:Q0 b=JX 8 n++(QB 0 l++r))(hn:n<256)(hln:l.length=n)(hc:JCf 0 l)(h8:r.length<8)(hpe:ZO l=0)(ho:JV r=0):Qq Tryz.prog 72 [.leaf (.d (.pt [Y5 b]))] [] (.ret (.leaf (.own 1000 0 l.length l.length)) [(1000,.arr 70 3 (l.map Y7))]):=by
 have hnf:=JE8 b hb
 rw [hu] at hnf
 have hv8:J8 (JX 8 n)=n:=JAq 8 n (by omega)
 have hn8:=Yd 8 n
 have ho8:=JAG (JX 8 n)
 rw [hn8] at ho8
 have hca:=JFA l 0 hc (by omega)
 have hob:=JHc (a:=0) (l:=l) (o:=(0+((JV (JX 8 n):Nat):Int))) (by omega) (fun k x hx=>((hca k (Nat.le_of_lt (List.getElem?_eq_some_iff.1 hx).1)).2 x hx).1)
 refine Js Jf Tryz.func72 rfl JEr JJ rfl ?_
 refine JB.reg ?_
 have X:=Fx.mk hv8
 refine JA.o1 JC ?_
 refine JA.nil (JB.reg ?_)
 refine JA.o1 JC ?_
 refine JA.cal (hnf) JY JC Qc (fr1 JD) JC ?_
 refine JA.o1 JC ?_
 refine JA.nil (JB.reg ?_)
 refine JA.o1 JC ?_
 refine JA.nil (JB.assocS (JB.reg ?_))
 refine JA.nilo 1 1000 70 3 JD JD (by omega) (by omega) JD ?_
 refine JA.o1 JC ?_
 refine JA.lendG [(911,7006)] JD (JAz 8 (JX 8 n) (QB 0 l++r) 0 hn8 (by omega) (by omega)) JY (.inl ⟨[],by simp only [go_sem]<;>rfl,rfl⟩) JD V5 rfl (by decide) YB Zb YQ YW JD ?_
 refine JA.o1 JC ?_
 refine JA.nil (JB.blk ?_)
 refine JB.forA [1,2,3,8,9] [7006,1000] (l.length) (fun k=>[.slot 3 (.int (QY 0 (l.take k))),.slot 9 (.int k),.slot 1 (.leaf (.own 1000 0 k k)),.obj 7006 (.cells [.d (Qz (Qf (QB (QY 0 (l.take k)) (l.drop k)++r))),.d (.i (ZX 0 l (0+((JV (JX 8 n):Nat):Int)) k))]),.obj 1000 (.arr 70 3 ((l.take k).map Y7))]) (fun _=>True) (fun k=>by simp only [go_sem]<;>rfl) V78 ?_ (fun k hk hX=>?_)
 ·trivial
 ·skip
  refine JB.reg ?_
  refine JA.o1 JC ?_
  refine JA.nil ?_
  refine JB.cndS JC (fun hb10=>?_) (fun hb10=>?_)
  ·skip
   have hlt:=(show k<l.length by have:=of_decide_eq_true hb10;omega)
   obtain ⟨x,hx⟩:∃x,l[k]? = some x:=⟨_,List.getElem?_eq_getElem (by omega)⟩
   obtain ⟨hlp,hcx⟩:=hca k (by omega)
   obtain ⟨g1,g2,g3⟩:=hcx x hx
   have hok:ZX 0 l (0+((JV (JX 8 n):Nat):Int)) (k+1)=((JV (Qd x (QY 0 (l.take k))):Nat):Int):=by rw [ZX,hx]
   have htl:(l.take k).length=k:=by rw [List.length_take];omega
   have hts:=Yf hx
   have hkb:=hob k
   refine JB.skipS (JB.blk (JB.reg ?_))
   have X:=((X.a g3).a hok).a htl
   iterate 2 (refine JA.o1 JC ?_)
   have X:=Fx.mk g2
   refine JA.lendG [(911,7006)] JD (JGp (QB x.num (l.drop (k+1))++r) (ZX 0 l (0+((JV (JX 8 n):Nat):Int)) k) g1 (by omega)) JY (.inl ⟨[],by simp only [go_sem]<;>rfl,rfl⟩) JCQ V5 rfl (by decide) YB V45 YQ YW JCQ ?_
   have X:=(((Fx.mk hv8).a g3).a hok).a htl
   iterate 2 (refine JA.o1 JC ?_)
   refine JA.nil ?_
   refine JB.opk1 10 ?_
   iterate 3 (refine JF.o1 JC ?_)
   refine JF.o1 V4 ?_
   iterate 4 (refine JF.o1 JC ?_)
   refine JF.nil (QO.fin QZ QZ ?_)
   refine JR.nrm (JB.reg1 ?_)
   refine JA.o1 Jv ?_
   refine JA.o1 JC ?_
   refine JA.nil ?_
   refine JU.nxt ?_ ?_ ?_
   ·omega
   ·exact JN.kp [1,2,3,8,9] [7006,1000] V17
   ·trivial
  ·skip
   have hke:k=l.length:=by have:=of_decide_eq_false hb10;omega
   subst hke
   have htk:l.take l.length=l:=List.take_of_length_le (by omega)
   have hdk:l.drop l.length=[]:=List.drop_eq_nil_of_le (by omega)
   have hta:List.take l.length (List.map Y7 l)=List.map Y7 l:=List.take_of_length_le (by simp)
   have hir:=JBH r
   have gn:=JHP
   have hl8:decide ((r.length:Int)<8)=true:=decide_eq_true (by omega)
   have h00:((0:Int)==0)=true:=rfl
   refine JB.exitS (JU.ext (JR.hit (JB.reg ?_)))
   have X:=(((((((Fx.mk htk).a hdk).a gn).a hta).a hir).a hl8).a hpe).a h00
   iterate 7 (refine JA.o1 Qi ?_)
   refine JA.y1 Qi ?_
   refine JA.calT JD (JEE l (by omega)) JY (by show [JCB _ (.val false [.own 1000 0 l.length l.length])]=[some (.leaf (.d (Yu l)))];rw [JRN (JRQ (es:=l.map Y7) JD (List.length_map _))]) (by rfl) (by rfl) (by intro q x h;cases h) JD ?_
   refine JA.y1 Qi ?_
   refine JA.o1 Qi ?_
   refine JA.c1 (YH true rfl) Qi Qi ?_
   refine JA.nil (JB.reg ?_)
   iterate 4 (refine JA.o1 Qi ?_)
   refine JA.nil (JB.blk ?_)
   refine JB.forA [1,2] [7006,1000] (r.length) (fun j=>[.obj 7006 (.cells [.d (Qz (Qf (r.drop j))),.d (.i ((JV (r.take j):Nat):Int))])]) (fun _=>True) (fun j=>by simp only [go_sem]<;>rfl) V75 ?_ (fun j hj Xj=>?_)
   ·trivial
   ·skip
    refine JB.assocS (JB.reg ?_)
    iterate 6 (refine JA.o1 Qi ?_)
    refine JA.nil ?_
    refine JB.cndS Qi (fun hb41=>?_) (fun hb41=>?_)
    ·skip
     have hbl:=JBH (r.drop j)
     rw [List.length_drop] at hbl
     have hjl:j<r.length:=by have:=of_decide_eq_true hb41;omega
     obtain ⟨e,he⟩:∃e,r[j]? = some e:=⟨_,List.getElem?_eq_getElem (by omega)⟩
     have hdk:r.drop j=e::r.drop (j+1):=JEK he
     have htk2:JV (r.take (j+1))=JV (r.take j)+e.toNat:=by rw [Yf he,Zp,JCK]
     have hoj:=JFm r j
     refine JB.skipS (JB.blk1 (JB.reg1 ?_))
     refine JA.o1 Qi ?_
     have X:=Fx.mk hdk
     refine JA.lendG [(911,7006)] JD (JAd e (r.drop (j+1)) ((JV (r.take j):Nat):Int) (by omega)) JY (.inl ⟨[],by simp only [go_sem]<;>rfl,rfl⟩) JC Y1 rfl (by decide) YB V58 YQ YW JC ?_
     refine JA.nil (Qp.nrm ?_)
     refine JU.nxt ?_ ?_ ?_
     ·omega
     ·exact JN.kp [1,2] [7006,1000] V10
     ·trivial
    ·skip
     have hbl:=JBH (r.drop j)
     rw [List.length_drop] at hbl
     have hje:j=r.length:=by have:=of_decide_eq_false hb41;omega
     have hrt:r.take j=r:=List.take_of_length_le (by omega)
     refine JB.exitS (JU.ext (JR.hit (JB.reg ?_)))
     have X:=(X.a hrt).a ho
     iterate 5 (refine JA.o1 V89 ?_)
     refine JA.c1 (YH true rfl) V89 V89 ?_
     refine JA.nil (JB.reg ?_)
     iterate 2 (refine JA.o1 V89 ?_)
     refine JA.nil ?_
     exact Ends.fin [1000] (rs:=[.tmp 1]) rfl V89 (by simp only [go_sem,X.h,List.nil_append,List.length_map,Int.natCast_zero]<;>first|rfl|exact QP)
theorem JQi {b:Bs}{l:List Pl}(hb:b.length≤1000000)(h:ZN b=some l):Qq Tryz.prog 72 [.leaf (.d (.pt [Y5 b]))] [] (.ret (.leaf (.own 1000 0 l.length l.length)) [(1000,.arr 70 3 (l.map Y7))]):=by
 unfold ZN at h
 obtain ⟨⟨n,s⟩,h1,h⟩:=Option.bind_eq_some_iff.1 h
 obtain ⟨⟨l',r⟩,h2,h⟩:=Option.bind_eq_some_iff.1 h
 simp only at h2 h
 split at h
 ·next hc=>
  cases h
  obtain ⟨e1,hn⟩:=JBW h1
  obtain ⟨e2,hl,hw⟩:=JHk _ _ _ _ _ h2
  exact JQk b hb n l r (by rw [e1,e2]) hn hl hw hc.1 hc.2.1 hc.2.2
 ·cases h
theorem JQr {b:Bs}{l:List Pl}(hb:b.length≤1000000)(h:ZN b=some l):Jb Tryz.prog 71 [.leaf (.d (.fn 72 [.pt [Y5 b]]))] (.tup [(false,[.own 1000 0 l.length l.length]),(false,[.d (.i 0)])]) [(1000,.arr 70 3 (l.map Y7))]:=
 JRE JNd (fun _ _ _ _ hr=>JM4 hr ⟨_,_,_,rfl,List.length_map _⟩) (JQi hb h)
theorem JQq {b:Bs}(hb:b.length≤1000000)(h:ZN b=none):Jb Tryz.prog 71 [.leaf (.d (.fn 72 [.pt [Y5 b]]))] (.tup [(false,[.d (.raw (.slice none 0 0))]),(false,[.d (.i 8)])]) []:=
 JGy JNf (fun _ _=>.raw _ rfl) (JM6 hb h)
def rdO (r:Option (List Pl)):AV:=.tup [(false,[.own 7000 0 (r.getD []).length (r.getD []).length]),(false,[.d (.i (bif r.isSome then 0 else 8))])]
theorem JP0 (b:Bs)(hb:b.length≤1000000):Jb Tryz.prog 27 [.leaf (.d (Y5 b))] (rdO (ZN b)) [(7000,.arr 70 3 (((ZN b).getD []).map Y7))]:=by
 cases h:ZN b
 ·skip
  dsimp only [rdO,Option.getD_none,Option.isSome_none,cond_false,List.map_nil,List.length_nil]
  refine Js Jf Tryz.func27 rfl JGL JJ rfl ?_
  refine JB.reg ?_
  iterate 3 (refine JA.o ?_)
  refine JA.nil (JB.reg ?_)
  refine JA.frz 1 JD ?_
  refine JA.o ?_
  refine JA.frz 4 JD ?_
  refine JA.c1 (JQq hb h) JD JD ?_
  refine JA.o ?_
  refine JA.nilo 6 7000 70 3 JD JD (by omega) (by omega) JD ?_
  iterate 3 (refine JA.o ?_)
  refine JA.nil ?_
  exact Ends.fin [7000] (rs:=[.tmp 2,.tmp 3]) rfl JD ZB
 ·skip
  dsimp only [rdO,Option.getD_some,Option.isSome_some,cond_true]
  refine Js Jf Tryz.func27 rfl JGL JJ rfl ?_
  refine JB.reg ?_
  iterate 3 (refine JA.o ?_)
  refine JA.nil (JB.reg ?_)
  refine JA.frz 1 JD ?_
  refine JA.o ?_
  refine JA.frz 4 JD ?_
  refine JA.cal (JQr hb h) JY JD Qc (fr1 JD) JD ?_
  iterate 4 (refine JA.o ?_)
  refine JA.nil ?_
  exact Ends.fin [7000] (rs:=[.tmp 2,.tmp 3]) rfl JD ZB
theorem JQd (line h r:Bs)(ws:List Bs)(hc:Jt 32 line=h::r::ws)(hl:line.length≤1000000000)(fh:YD h=true)(fr:YD r=true)(sf:St)(hf:ws.foldlM ZP ⟨[(JW r:Int)],(0,0)⟩=some sf):Jb Tryz.prog 54 [.str line] (.val true [.d (.i (JW h:Nat)),.own 23 0 sf.reads.length sf.reads.length]) [(23,.arr 3 1 (sf.reads.map Qy))]:=by
 have hwn:=JCh 32 line
 rw [hc] at hwn
 simp only [List.length_cons] at hwn
 have hsp:=JDI line 32 hl
 rw [hc] at hsp
 have hwl:=JA0 32 line
 rw [hc] at hwl
 obtain ⟨hsf,hstep⟩:=JHu ws _ sf hf
 have bh:=JCl fh
 have br:=JCl fr
 have hgt:decide (((ws.length:Int)+1+1)>1)=true:=decide_eq_true (by omega)
 have hgt2:decide ((((ws.length+1+1:Nat)):Int)>1)=true:=decide_eq_true (by omega)
 have htk:(((h::r::ws).map encStr)).take (h::r::ws).length=(h::r::ws).map encStr:=List.take_of_length_le (by simp)
 have hbs:∀k,k≤ws.length→JE6 (Je ⟨[(JW r:Int)],(0,0)⟩ ws k).reads:=fun k hk=>by
  induction k with
  |zero=>rw [JBw];exact ⟨by simp,by simp,by simp [Y9],by simp [Y9];omega⟩
  |succ k ih=>
   obtain ⟨w,hw⟩:∃w,ws[k]? = some w:=⟨_,List.getElem?_eq_getElem (by omega)⟩
   obtain ⟨g,g1,g2,g3,g4⟩:=JDo (hstep k w hw)
   rw [g4]
   have:=JCm g1
   exact JAy (ih (by omega)) ⟨by omega,by omega⟩ g.1 (by omega)
 have h2n:Int.toNat 2=2:=rfl
 have htw:List.take ws.length (List.map encStr ws)=List.map encStr ws:=List.take_of_length_le (by simp)
 refine Js Jf Tryz.func54 rfl JDv JJ rfl ?_
 refine JB.reg ?_
 have X:=(((Fx.mk hgt).a hgt2).a h2n).a htw
 refine JA.o1 JP ?_
 refine JA.nil (JB.reg ?_)
 refine JA.o1 JP ?_
 refine JA.cal (hsp) JY JP V30 (fr1 JD) JP ?_
 refine JA.o1 JP ?_
 have X:=Fx.mk htk
 refine JA.frz 11900 V90 ?_
 refine JA.nil (JB.reg ?_)
 have X:=(((Fx.mk hgt).a hgt2).a h2n).a htw
 refine JA.o1 JP ?_
 refine JA.o1 ZR ?_
 refine JA.o1 JP ?_
 refine JA.c1 (JAe h fh) JP JP ?_
 iterate 3 (refine JA.o1 JP ?_)
 refine JA.nil (JB.assocS (JB.reg ?_))
 iterate 3 (refine JA.o1 JP ?_)
 refine JA.nil ?_
 refine JB.cndS JP (fun hb18=>?_) (fun hb18=>?_)
 ·skip
  refine JB.assocS (JB.reg ?_)
  refine JA.o1 JP ?_
  refine JA.o1 ZR ?_
  refine JA.o1 JP ?_
  refine JA.c1 (JAe r fr) JP JP ?_
  iterate 3 (refine JA.o1 JP ?_)
  refine JA.nil (JB.assocS (JB.reg ?_))
  iterate 3 (refine JA.o1 JP ?_)
  refine JA.nil (JB.assocS (JB.reg ?_))
  refine JA.o1 JP ?_
  refine JA.o1 ZR ?_
  iterate 2 (refine JA.o1 JP ?_)
  refine JA.nil (JB.blk ?_)
  refine JB.forA [2,4,5,27,28,29] [2,4,5,23] (ws.length) (fun k=>[.slot 29 (.int k),.obj 4 (.cells [.d (.i (JW h:Nat)),.own 23 0 (Je ⟨[(JW r:Int)],(0,0)⟩ ws k).reads.length (Je ⟨[(JW r:Int)],(0,0)⟩ ws k).reads.length]),.obj 23 (.arr 3 1 ((Je ⟨[(JW r:Int)],(0,0)⟩ ws k).reads.map Qy)),.obj 5 (.cells [.d (.i ((Je ⟨[(JW r:Int)],(0,0)⟩ ws k).last.1:Nat)),.d (.i (Je ⟨[(JW r:Int)],(0,0)⟩ ws k).last.2)])]) (fun _=>True) (fun k=>by simp only [go_sem]<;>rfl) V28 ?_ (fun k hk hX=>?_)
  ·trivial
  ·skip
   refine JB.reg ?_
   refine JA.o1 JP ?_
   refine JA.nil ?_
   refine JB.cndS JP (fun hb30=>?_) (fun hb30=>?_)
   ·skip
    have hlt:k<ws.length:=by simpa using hb30
    obtain ⟨w,hw⟩:∃w,ws[k]? = some w:=⟨_,List.getElem?_eq_getElem hlt⟩
    obtain ⟨g,hg,hnb,hlen,hst⟩:=JDo (hstep k w hw)
    have hwk:w.length≤1000000000:=Nat.le_trans (hwl w (List.mem_cons_of_mem _ (List.mem_cons_of_mem _ (List.mem_of_getElem? hw)))) hl
    have hgb:=JCm hg
    have hbk:=hbs k (by omega)
    have hal:=Y4 g.2 g.1 (Je ⟨[(JW r:Int)],(0,0)⟩ ws k).reads
    refine JB.skipS (JB.blk (JB.reg ?_))
    have X:=(X.a hw).a hst
    refine JA.o1 ZR ?_
    iterate 2 (refine JA.o1 JP ?_)
    refine JA.nil (JB.reg ?_)
    refine JA.o1 JP ?_
    refine JA.c1 (JGq hwk hg) JP JP ?_
    iterate 2 (refine JA.o1 JP ?_)
    refine JA.nil ?_
    by_cases h0:(Je ⟨[(JW r:Int)],(0,0)⟩ ws k).last.1=0
    ·skip
     have e0:((((Je ⟨[(JW r:Int)],(0,0)⟩ ws k).last.1:Nat):Int)==0)=true:=by rw [h0];rfl
     refine JB.reg ?_
     have X:=X.a e0
     iterate 4 (refine JA.o1 JP ?_)
     iterate 5 (refine JA.s ?_)
     refine JA.o1 JP ?_
     refine JA.c1 (YH true rfl) JP JP ?_
     refine JA.nil (JB.assocS (JB.reg ?_))
     iterate 3 (refine JA.o1 JP ?_)
     refine JA.nil (JB.blk ?_)
     refine JB.forA [2,4,5,8,27,28,29,47,48] [2,4,5,8,23] (g.1) (fun j=>[.slot 48 (.int j),.obj 4 (.cells [.d (.i (JW h:Nat)),.own 23 0 (Jq g.2 j (Je ⟨[(JW r:Int)],(0,0)⟩ ws k).reads).length (Jq g.2 j (Je ⟨[(JW r:Int)],(0,0)⟩ ws k).reads).length]),.obj 23 (.arr 3 1 ((Jq g.2 j (Je ⟨[(JW r:Int)],(0,0)⟩ ws k).reads).map Qy))]) (fun _=>True) (fun j=>by simp only [go_sem]<;>rfl) V33 ?_ (fun j hj Xj=>?_)
     ·trivial
     ·skip
      refine JB.reg ?_
      refine JA.o1 JP ?_
      refine JA.nil ?_
      refine JB.cndS JP (fun hb49=>?_) (fun hb49=>?_)
      ·skip
       have hj:j<g.1:=by have:=of_decide_eq_true hb49;omega
       have hRl:=Y4 g.2 j (Je ⟨[(JW r:Int)],(0,0)⟩ ws k).reads
       have hbj:=JAy hbk ⟨hgb.2.2.1,by omega⟩ j (by omega)
       have hp1:1≤(Jq g.2 j (Je ⟨[(JW r:Int)],(0,0)⟩ ws k).reads).length:=List.length_pos_iff.2 hbj.1
       have hlg:=JCH hbj.1
       have hl16:decide (((Jq g.2 j (Je ⟨[(JW r:Int)],(0,0)⟩ ws k).reads).length:Int)<16)=true:=decide_eq_true (by omega)
       have h1n:(((Jq g.2 j (Je ⟨[(JW r:Int)],(0,0)⟩ ws k).reads).length:Int)-1).toNat=(Jq g.2 j (Je ⟨[(JW r:Int)],(0,0)⟩ ws k).reads).length-1:=by omega
       have hsu:=JAw g.2 j (Je ⟨[(JW r:Int)],(0,0)⟩ ws k).reads
       have hb3:=hbj.2.2.1
       have hb4:=hbj.2.2.2
       refine JB.skipS (JB.blk (JB.reg ?_))
       have X:=(((X.a hl16).a h1n).a hlg).a hsu
       iterate 4 (refine JA.o1 JP ?_)
       refine JA.c1 (YH true rfl) JP JP ?_
       refine JA.nil ?_
       refine JB.opk1 19 ?_
       iterate 7 (refine JF.o1 JP ?_)
       refine JF.o1 Yh ?_
       refine JF.o1 ZR ?_
       iterate 3 (refine JF.o1 JP ?_)
       refine JF.o1 Yh ?_
       refine JF.o1 JP ?_
       refine JF.o1 V1 ?_
       iterate 2 (refine JF.o1 JP ?_)
       refine JF.nil (QO.finT JJ JJ JJ ?_)
       refine JR.nrm (JB.reg1 ?_)
       refine JA.o1 Yh ?_
       refine JA.o1 JP ?_
       refine JA.nil ?_
       refine JU.nxt ?_ ?_ ?_
       ·omega
       ·exact JN.kp [2,4,5,8,27,28,29,47,48] [2,4,5,8,23] V9
       ·trivial
      ·skip
       have hje:j=g.1:=by have:=of_decide_eq_false hb49;omega
       subst hje
       refine JB.exitS (JU.ext (JR.hit (JB.reg1 ?_)))
       iterate 2 (refine JA.o1 JP ?_)
       refine JA.nil (JR.nrm (JB.reg1 ?_))
       refine JA.o1 Yh ?_
       refine JA.o1 JP ?_
       refine JA.nil ?_
       refine JU.nxt ?_ ?_ ?_
       ·omega
       ·exact JN.kp [2,4,5,27,28,29] [2,4,5,23] V34
       ·trivial
    ·skip
     have e0:((((Je ⟨[(JW r:Int)],(0,0)⟩ ws k).last.1:Nat):Int)==0)=false:=by simpa using h0
     have e5:((Je ⟨[(JW r:Int)],(0,0)⟩ ws k).last.2 != g.2)=true:=by simpa using hnb.resolve_left h0
     refine JB.reg ?_
     have X:=(X.a e0).a e5
     iterate 4 (refine JA.o1 JP ?_)
     iterate 5 (refine JA.y1 JP ?_)
     refine JA.o1 JP ?_
     refine JA.c1 (YH true rfl) JP JP ?_
     refine JA.nil (JB.assocS (JB.reg ?_))
     iterate 3 (refine JA.o1 JP ?_)
     refine JA.nil (JB.blk ?_)
     refine JB.forA [2,4,5,8,27,28,29,47,48] [2,4,5,8,23] (g.1) (fun j=>[.slot 48 (.int j),.obj 4 (.cells [.d (.i (JW h:Nat)),.own 23 0 (Jq g.2 j (Je ⟨[(JW r:Int)],(0,0)⟩ ws k).reads).length (Jq g.2 j (Je ⟨[(JW r:Int)],(0,0)⟩ ws k).reads).length]),.obj 23 (.arr 3 1 ((Jq g.2 j (Je ⟨[(JW r:Int)],(0,0)⟩ ws k).reads).map Qy))]) (fun _=>True) (fun j=>by simp only [go_sem]<;>rfl) V33 ?_ (fun j hj Xj=>?_)
     ·trivial
     ·skip
      refine JB.reg ?_
      refine JA.o1 JP ?_
      refine JA.nil ?_
      refine JB.cndS JP (fun hb49=>?_) (fun hb49=>?_)
      ·skip
       have hj:j<g.1:=by have:=of_decide_eq_true hb49;omega
       have hRl:=Y4 g.2 j (Je ⟨[(JW r:Int)],(0,0)⟩ ws k).reads
       have hbj:=JAy hbk ⟨hgb.2.2.1,by omega⟩ j (by omega)
       have hp1:1≤(Jq g.2 j (Je ⟨[(JW r:Int)],(0,0)⟩ ws k).reads).length:=List.length_pos_iff.2 hbj.1
       have hlg:=JCH hbj.1
       have hl16:decide (((Jq g.2 j (Je ⟨[(JW r:Int)],(0,0)⟩ ws k).reads).length:Int)<16)=true:=decide_eq_true (by omega)
       have h1n:(((Jq g.2 j (Je ⟨[(JW r:Int)],(0,0)⟩ ws k).reads).length:Int)-1).toNat=(Jq g.2 j (Je ⟨[(JW r:Int)],(0,0)⟩ ws k).reads).length-1:=by omega
       have hsu:=JAw g.2 j (Je ⟨[(JW r:Int)],(0,0)⟩ ws k).reads
       have hb3:=hbj.2.2.1
       have hb4:=hbj.2.2.2
       refine JB.skipS (JB.blk (JB.reg ?_))
       have X:=(((X.a hl16).a h1n).a hlg).a hsu
       iterate 4 (refine JA.o1 JP ?_)
       refine JA.c1 (YH true rfl) JP JP ?_
       refine JA.nil ?_
       refine JB.opk1 19 ?_
       iterate 7 (refine JF.o1 JP ?_)
       refine JF.o1 Yh ?_
       refine JF.o1 ZR ?_
       iterate 3 (refine JF.o1 JP ?_)
       refine JF.o1 Yh ?_
       refine JF.o1 JP ?_
       refine JF.o1 V1 ?_
       iterate 2 (refine JF.o1 JP ?_)
       refine JF.nil (QO.finT JJ JJ JJ ?_)
       refine JR.nrm (JB.reg1 ?_)
       refine JA.o1 Yh ?_
       refine JA.o1 JP ?_
       refine JA.nil ?_
       refine JU.nxt ?_ ?_ ?_
       ·omega
       ·exact JN.kp [2,4,5,8,27,28,29,47,48] [2,4,5,8,23] V9
       ·trivial
      ·skip
       have hje:j=g.1:=by have:=of_decide_eq_false hb49;omega
       subst hje
       refine JB.exitS (JU.ext (JR.hit (JB.reg1 ?_)))
       iterate 2 (refine JA.o1 JP ?_)
       refine JA.nil (JR.nrm (JB.reg1 ?_))
       refine JA.o1 Yh ?_
       refine JA.o1 JP ?_
       refine JA.nil ?_
       refine JU.nxt ?_ ?_ ?_
       ·omega
       ·exact JN.kp [2,4,5,27,28,29] [2,4,5,23] V34
       ·trivial
   ·skip
    have hke:k=ws.length:=by have h9:ws.length≤k:=(by simpa using hb30);omega
    subst hke
    have hta:List.take sf.reads.length (List.map Qy sf.reads)=List.map Qy sf.reads:=List.take_of_length_le (by simp)
    refine JB.exitS (JU.ext (JR.hit (JB.reg ?_)))
    have X:=(X.a hsf).a hta
    iterate 2 (refine JA.o1 JP ?_)
    refine JA.nil ?_
    exact Ends.fin [23] (rs:=[.cell 2 31]) rfl JP V35
 ·exact absurd hb18 (by simp)
end Go.Mw
namespace Go.Mw
open Go.Proofs Go.Bk Go.RowKit
def rowP (x:Pg × Value):List D:=[.i x.1.house,.raw x.2]
def JA6 (b j:Nat)(x:Pg × Value):AO:=.pin x.2 (.own (b+5000+j) 0 x.1.reads.length x.1.reads.length)
def JAC (x:Pg × Value):AO:=.arr 3 1 (x.1.reads.map Qy)
def QJ (b:Nat):Nat→List (Pg × Value)→List (Nat × AO)
 |_,[]=>[]
 |j,x::r=>(b+2000+j,JA6 b j x)::(b+5000+j,JAC x)::QJ b (j+1) r
theorem JBt {b q:Nat}:∀ {L:List (Pg × Value)} {j:Nat},j+L.length≤1000→look (QJ b j L) q =
  if b+2000+j≤q∧q<b+2000+j+L.length then (L[q-(b+2000+j)]?).map (JA6 b (q-(b+2000))) else if b+5000+j≤q∧q<b+5000+j+L.length then (L[q-(b+5000+j)]?).map JAC else none
 |[],j,_=>by
  simp only [QJ,look,List.length_nil]
  rw [if_neg (by omega),if_neg (by omega)]
 |x::r,j,h=>by
  simp only [List.length_cons] at h ⊢
  simp only [QJ,look]
  rw [JBt (L:=r) (j:=j+1) (by omega)]
  by_cases h1:q=b+2000+j
  ·subst h1
   rw [if_pos rfl,if_pos (by omega),Nat.sub_self]
   simp
  ·rw [if_neg h1]
   by_cases h2:q=b+5000+j
   ·subst h2
    rw [if_pos rfl,if_neg (by omega),if_pos (by omega),Nat.sub_self];simp
   ·rw [if_neg h2]
    by_cases h3:b+2000+j≤q∧q<b+2000+j+(r.length+1)
    ·rw [if_pos (by omega),if_pos h3,show q-(b+2000+j)=(q-(b+2000+(j+1)))+1 by omega,List.getElem?_cons_succ]
    ·rw [if_neg (by omega),if_neg h3]
     by_cases h4:b+5000+j≤q∧q<b+5000+j+(r.length+1)
     ·rw [if_pos (by omega),if_pos h4,show q-(b+5000+j)=(q-(b+5000+(j+1)))+1 by omega,List.getElem?_cons_succ]
     ·rw [if_neg (by omega),if_neg h4]
theorem JJI {b q:Nat}{L:List (Pg × Value)}(hl:L.length≤900)(h:q<b+2000∨(b+2900≤q∧q<b+5000)∨b+5900≤q):look (QJ b 0 L) q=none:=by
 rw [JBt (by omega),if_neg (by omega),if_neg (by omega)]
theorem JMf {b i:Nat}{L:List (Pg × Value)}{x:Pg × Value}(hl:L.length≤900)(h:L[i]? = some x):look (QJ b 0 L) (b+2000+i)=some (JA6 b i x):=by
 have hi:=(List.getElem?_eq_some_iff.1 h).1
 rw [JBt (by omega),if_pos (by omega),show b+2000+i-(b+2000+0)=i by omega,h];rfl
theorem JMe {b i:Nat}{L:List (Pg × Value)}{x:Pg × Value}(hl:L.length≤900)(h:L[i]? = some x):look (QJ b 0 L) (b+5000+i)=some (JAC x):=by
 have hi:=(List.getElem?_eq_some_iff.1 h).1
 rw [JBt (by omega),if_neg (by omega),if_pos (by omega),show b+5000+i-(b+5000+0)=i by omega,h];rfl
theorem JHb {f:Nat→Nat}{b c:Nat}:∀ {L:List (Pg × Value)} {j:Nat},(∀i,j≤i→i<j+L.length→f (b+2000+i)=c+2000+i∧f (b+5000+i)=c+5000+i)→(QJ b j L).map (fun p=>(f p.1,p.2.ren f))=QJ c j L
 |[],_,_=>rfl
 |x::r,j,h=>by
  obtain ⟨h1,h2⟩:=h j (Nat.le_refl _) (by simp)
  have ih:=JHb (L:=r) (j:=j+1) fun i hi hl=>h i (by omega) ZS
  simp only [QJ,List.map_cons]
  rw [ih]
  simp only [JA6,JAC,AO.ren,AL.ren,h1,h2]
theorem JMx {p:Nat→Bool}{b:Nat}:∀ {L:List (Pg × Value)} {j:Nat},(∀i,p (b+2000+i)=true∧p (b+5000+i)=true)→Zu p (QJ b j L)=QJ b j L
 |[],_,_=>rfl
 |x::r,j,h=>by
  have ih:=JMx (L:=r) (j:=j+1) h
  simp only [QJ,Zu,(h j).1,(h j).2,if_true]
  rw [ih]
  simp only [JA6,JAC,AO.kp,AL.kp,(h j).2,if_true]
theorem JMy {b:Nat}(x:Pg × Value):∀ {L:List (Pg × Value)} {j:Nat},QJ b j (L++[x])=QJ b j L++[(b+2000+(j+L.length),JA6 b (j+L.length) x),(b+5000+(j+L.length),JAC x)]
 |[],j=>by simp [QJ]
 |y::r,j=>by
  rw [List.cons_append,QJ,QJ,JMy x (L:=r) (j:=j+1),List.length_cons,show j+1+r.length=j+(r.length+1) by omega];rfl
theorem JRi {tm:List (Nat × AV)}{bh:Jh}{a:AO}{L:List (Pg × Value)}{x:Pg × Value}(hl:L.length<900)(ha:∀f,a.ren f=a)(ht:∀f:Nat→Nat,f 1000=1000→tm.map (fun p=>(p.1,p.2.ren f))=tm) :
  JN ⟨tm,(1000,a)::(1900,.pin x.2 (.own 14023 0 x.1.reads.length x.1.reads.length))::(14023,JAC x)::QJ 0 0 L,bh⟩ ⟨tm,(1000,a)::QJ 0 0 (L++[x]),bh⟩:=by
 have tl:ZF (L.length%1000)=none:=JOZ (by omega)
 refine JN.trans (JN.ren1 _ 14023 (5000+L.length) ?_ (by omega) (by omega) ?_) ?_
 ·show look _ (5000+L.length)=none
  simp only [look]
  rw [if_neg (by omega),if_neg (by omega),if_neg (by omega),JBt (by omega),if_neg (by omega),if_neg (by omega)]
 ·rw [show (5000+L.length)%1000=L.length%1000 by omega,tl];rfl
 have e1:(⟨tm,(1000,a)::(1900,.pin x.2 (.own 14023 0 x.1.reads.length x.1.reads.length))::(14023,JAC x)::QJ 0 0 L,bh⟩:JE).ren1 14023 (5000+L.length) =
   ⟨tm,(1000,a)::(1900,.pin x.2 (.own (5000+L.length) 0 x.1.reads.length x.1.reads.length))::(5000+L.length,JAC x)::QJ 0 0 L,bh⟩:=by
  unfold JE.ren1
  simp only [List.map_cons]
  rw [ht _ (by unfold r1;rfl),ha,JHb (c:=0) (fun i _ h=>by unfold r1;rw [if_neg (by omega),if_neg (by omega)];exact ⟨rfl,rfl⟩)]
  rfl
 rw [e1]
 refine JN.trans (JN.ren1 _ 1900 (2000+L.length) ?_ (by omega) (by omega) ?_) ?_
 ·show look _ (2000+L.length)=none
  simp only [look]
  rw [if_neg (by omega),if_neg (by omega),if_neg (by omega),JBt (by omega),if_neg (by omega),if_neg (by omega)]
 ·rw [show (2000+L.length)%1000=L.length%1000 by omega,tl];rfl
 have e2:(⟨tm,(1000,a)::(1900,.pin x.2 (.own (5000+L.length) 0 x.1.reads.length x.1.reads.length))::(5000+L.length,JAC x)::QJ 0 0 L,bh⟩:JE).ren1 1900 (2000+L.length) =
   ⟨tm,(1000,a)::(2000+L.length,JA6 0 L.length x)::(5000+L.length,JAC x)::QJ 0 0 L,bh⟩:=by
  unfold JE.ren1
  simp only [List.map_cons]
  rw [ht _ (by unfold r1;rfl),ha,JHb (c:=0) (fun i _ h=>by unfold r1;rw [if_neg (by omega),if_neg (by omega)];exact ⟨rfl,rfl⟩)]
  have h5:r1 1900 (2000+L.length) (5000+L.length)=5000+L.length:=by unfold r1;rw [if_neg (by omega)]
  have h6:r1 1900 (2000+L.length) 1900=2000+L.length:=by unfold r1;rw [if_pos rfl]
  have h7:r1 1900 (2000+L.length) 1000=1000:=by unfold r1;rw [if_neg (by omega)]
  simp only [AO.ren,AL.ren,h5,h6,h7,JA6,JAC,Nat.zero_add]
 rw [e2]
 refine JN.ob fun o=>?_
 rw [JMy]
 simp only [look]
 by_cases h1:o=1000
 ·subst h1;simp
 rw [if_neg h1,if_neg h1]
 have happ:∀(l m:List (Nat × AO)),look (l++m) o=(look l o).or (look m o):=fun l m=>by
  induction l with
  |nil=>simp [look]
  |cons p l ih=>
   obtain ⟨a,b⟩:=p
   simp only [List.cons_append,look]
   split
   ·rfl
   ·exact ih
 rw [happ]
 simp only [look,Nat.zero_add]
 by_cases h2:o=2000+L.length
 ·subst h2
  rw [JBt (by omega),if_neg (by omega),if_neg (by omega)];simp
 rw [if_neg h2,if_neg h2]
 by_cases h3:o=5000+L.length
 ·subst h3
  rw [JBt (by omega),if_neg (by omega),if_neg (by omega)];simp
 rw [if_neg h3,if_neg h3]
 cases look (QJ 0 0 L) o<;>rfl
end Go.Mw
namespace Go.Mw
open Go.Proofs Go.Bk Go.RowKit
attribute [local go_sem] decide_true beq_self_eq_true bne_self_eq_false
theorem JQa {line:Bs}{pg:Pg}(hl:line.length≤1000000000)(h:Yp line=some pg):(pg.reads=[]∧Jb Tryz.prog 54 [.str line] (.val true [.d (.i pg.house),.d (.raw (.slice none 0 0))]) []) ∨
  Jb Tryz.prog 54 [.str line] (.val true [.d (.i pg.house),.own 23 0 pg.reads.length pg.reads.length]) [(23,.arr 3 1 (pg.reads.map Qy))]:=by
 unfold Yp at h
 split at h
 ·cases h
 ·next x hc=>
  split at h
  ·next hf=>cases h;exact .inl ⟨rfl,JLb line x hc hl hf⟩
  ·cases h
 ·next x r ws hc=>
  split at h
  ·next hf=>
   obtain ⟨sf,h1,h2⟩:=Option.map_eq_some_iff.1 h
   cases h2
   exact .inr (JQd line x r ws hc hl hf.1 hf.2 sf h1)
  ·cases h
def QG (b:Nat)(l:List Pg)(res:AV)(obs:List (Nat × AO)):Prop:=∃L:List (Pg × Value),L.map Prod.fst=l∧res=.leaf (.own (b+1000) 0 L.length L.length)∧obs=(b+1000,.arr 31 2 (L.map rowP))::QJ b 0 L
def stG (ls:List Bs)(bh:Jh)(L:List (Pg × Value)):JE:=⟨[(1,.leaf (.own 1000 0 L.length L.length)),(5,.leaf (.d (.sl 1 (ls.map encStr)))),(6,.int (ls.length:Nat)),(7,.int (L.length:Nat))],(1000,.arr 31 2 (L.map rowP))::QJ 0 0 L,bh⟩
def JBO (o:Nat):Bool:=o==1000 || (o==1900 || decide (2000≤o))
theorem JMS (L:List (Pg × Value)):Zu JBO (QJ 0 0 L)=QJ 0 0 L:=JMx fun i=>by unfold JBO;simp;omega
theorem JOV {ls:List Bs}{bh:Jh}{L:List (Pg × Value)}{x:Pg × Value}{pre:List (Nat × AO)}{tm:List (Nat × AV)}(hl:L.length<900)
  (htm:[1,5,6,7].map (fun s=>(s,((JE.mk tm (pre++QJ 0 0 L) bh).get s).kp JBO))=[(1,.leaf (.own 1000 0 (L.length+1) (L.length+1))),(5,.leaf (.d (.sl 1 (ls.map encStr)))),(6,.int (ls.length:Nat)),(7,.int ((L.length:Int)+1))])
  (h1:look (Zu JBO (pre++QJ 0 0 L)) 1000=some (.arr 31 2 (L.map rowP++[rowP x]))) (h2:look (Zu JBO (pre++QJ 0 0 L)) 1900=some (.pin x.2 (.own 14023 0 x.1.reads.length x.1.reads.length)))
  (h3:look (Zu JBO (pre++QJ 0 0 L)) 14023=some (JAC x)) (h4:∀o,o≠1000→o≠1900→o≠14023→look (Zu JBO (pre++QJ 0 0 L)) o=look (QJ 0 0 L) o) :
  JN ⟨tm,pre++QJ 0 0 L,bh⟩ (stG ls bh (L++[x])):=by
 refine JN.trans (JN.kpp (B:=⟨_,Zu JBO (pre++QJ 0 0 L),bh⟩) [1,5,6,7] JBO rfl) ?_
 rw [htm]
 refine JN.trans (JN.ob (ob':=(1000,.arr 31 2 (L.map rowP++[rowP x]))::(1900,.pin x.2 (.own 14023 0 x.1.reads.length x.1.reads.length))::(14023,JAC x)::QJ 0 0 L) fun o=>?_) ?_
 ·simp only [look]
  by_cases e1:o=1000
  ·subst e1;rw [if_pos rfl,h1]
  rw [if_neg e1]
  by_cases e2:o=1900
  ·subst e2;rw [if_pos rfl,h2]
  rw [if_neg e2]
  by_cases e3:o=14023
  ·subst e3;rw [if_pos rfl,h3]
  rw [if_neg e3,h4 o e1 e2 e3]
 ·refine JN.trans (JRi hl (fun f=>rfl) (fun f hf=>?_)) ?_
  ·simp only [List.map_cons,List.map_nil,AV.ren,AL.ren,hf]
  ·have e:(L++[x]).length=L.length+1:=by simp
   unfold stG
   rw [e,List.map_append,List.map_cons,List.map_nil,Int.natCast_add]
   exact JN.refl _
theorem JRP {C:Ctx Tryz.prog}{S:Jc}{M:J7}{ι:Nat→Value}{A:JE}{a:Act}{w:World}{b:Nat}{L:List (Pg × Value)}(hl:L.length≤900)(hR:Jg C S M ι A a w)(h0:A.obj (b+1000)=some (.arr 31 2 (L.map rowP)))(hP:∀i x,L[i]? = some x→A.obj (b+2000+i)=some (JA6 b i x)∧A.obj (b+5000+i)=some (JAC x))
  {v:Value} (h:Jd S ι A.obj w (.own (b+1000) 0 L.length L.length) v):RepD (Zn w) w (.sl 2 ((L.map Prod.fst).map Yx)) v:=by
 have h1:=JJc hR h0 (by simp) h
 rw [List.drop_zero,show L.length=(L.map rowP).length by simp,List.take_length] at h1
 generalize hes:L.map rowP=es at h1
 cases h1 with
 |nil k p c=>
  have:L=[]:=by simpa using hes
  subst this
  exact .nil _ _ _
 |sl k es bb off c vals hc hk hS hw hr=>
  have hlen:es.length=((L.map Prod.fst).map Yx).length:=by rw [←hes];simp
  rw [hlen]
  have hrow:∀(i:Nat) (e:List D) (j:Nat) (d:D),((L.map Prod.fst).map Yx)[i]? = some e→e[j]? = some d→∃e' d',es[i]? = some e' ∧ e'[j]? = some d' ∧ (∀v,RepD (Zn w) w d' v→RepD (Zn w) w d v):=fun i e j d he hd=>by
   rw [List.getElem?_map,List.getElem?_map] at he
   cases hx:L[i]? with
   |none=>rw [hx] at he;cases he
   |some x=>
    rw [hx] at he
    have he:Yx x.1=e:=Option.some.inj he
    refine ⟨rowP x,?_⟩
    have h4:es[i]? = some (rowP x):=by rw [←hes,List.getElem?_map,hx];rfl
    subst he
    match j,hd with
    |0,hd=>cases hd;exact ⟨_,h4,rfl,fun v h=>h⟩
    |1,hd=>
     cases hd
     refine ⟨_,h4,rfl,fun v hv=>?_⟩
     rw [Qm hv]
     obtain ⟨hp1,hp2⟩:=hP i x hx
     have hpin:=(hR.objs _ _ hp1).2
     have:=JJc hR hp2 (by simp) hpin
     rw [List.drop_zero,show x.1.reads.length=(x.1.reads.map Qy).length by simp,List.take_length] at this
     exact this
    |n+2,hd=>cases hd
  refine .sl _ _ bb off c vals (by rw [←hlen];exact hc) (fun i e he=>?_) (fun i e j d he hd=>?_) (fun i e j d he hd=>?_) fun i e j d he hd=>?_
  ·rw [List.getElem?_map] at he
   cases hx:(L.map Prod.fst)[i]? with
   |none=>rw [hx] at he;cases he
   |some x=>rw [hx] at he;cases he;rfl
  ·obtain ⟨e',d',q1,q2,_⟩:=hrow i e j d he hd
   exact hS i e' j d' q1 q2
  ·obtain ⟨e',d',q1,q2,_⟩:=hrow i e j d he hd
   exact hw i e' j d' q1 q2
  ·obtain ⟨e',d',q1,q2,q3⟩:=hrow i e j d he hd
   exact q3 _ (hr i e' j d' q1 q2)
end Go.Mw
namespace Go.Mw
open Go.Proofs Go.Bk Go.RowKit
attribute [local go_sem] decide_true beq_self_eq_true bne_self_eq_false
theorem JQg (text:Bs)(ls:List Bs)(l:List Pg)(hl:text.length≤1000000000)(h:Zv text=some ls)(hm:ls.mapM Yp=some l)(hpe:Yl l=0):JB0 Tryz.prog 52 [.leaf (.d (.pt [.raw (.string (bs text))]))] (QG 0 l):=by
 obtain ⟨hb1,hb2⟩:=JHX h
 obtain ⟨m1,m2⟩:=mapM_at ls l hm
 have hl32:l.length≤32:=(JAn hpe).1
 have hz:∀x∈l,x.reads.length≤1000:=fun x hx=>by
  obtain ⟨i,hi⟩:=List.mem_iff_getElem?.1 hx
  obtain ⟨line,hline⟩:∃line,ls[i]? = some line:=⟨_,List.getElem?_eq_getElem (by have:=(List.getElem?_eq_some_iff.1 hi).1;omega)⟩
  obtain ⟨pg,e1,e2⟩:=m2 i line hline
  rw [hi] at e2;cases e2
  have:=JJh e1;omega
 have h00:((0:Int)==0)=true:=rfl
 refine JLj Jf Tryz.func52 rfl JEs JJ (fun r0 o0=>?_)
 refine JB.reg ?_
 refine JA.o ?_
 refine JA.nil ?_
 refine JB.assocS ?_
 refine JB.reg ?_
 refine JA.o ?_
 refine JA.c1 (JGs hl h) JD JD ?_
 refine JA.o ?_
 refine JA.nilo 1 1000 31 2 JD JD (by omega) (by omega) JD ?_
 refine JA.o ?_
 refine JA.nil ?_
 refine JB.blk ?_
 refine JB.whlS (stG ls (.ret r0 o0)) (fun L=>L.length≤ls.length∧L.map Prod.fst=l.take L.length) (fun L=>ls.length-L.length) [] (JN.kp [1,5,6,7] [1000] JD) ⟨Nat.zero_le _,rfl⟩ (fun L hX=>?_)
 obtain ⟨hX1,hX2⟩:=hX
 have hL9:L.length<900:=by omega
 have l14:=JJI (b:=0) (q:=14) (L:=L) (by omega) (by omega)
 have l19:=JJI (b:=0) (q:=1900) (L:=L) (by omega) (by omega)
 have l23:=JJI (b:=0) (q:=14023) (L:=L) (by omega) (by omega)
 have hmr:(L.map rowP).length=L.length:=by simp
 unfold stG
 refine JB.reg ?_
 refine JA.o1 JD ?_
 refine JA.nil ?_
 refine JB.cndS JD (fun hb8=>?_) (fun hb8=>?_)
 ·have hlt:L.length<ls.length:=by simpa using hb8
  obtain ⟨line,hx⟩:∃line,ls[L.length]? = some line:=⟨_,List.getElem?_eq_getElem hlt⟩
  obtain ⟨pg,hpg,hpk⟩:=m2 L.length line hx
  have hwl:line.length≤1000000000:=Nat.le_trans (hb2 line (List.mem_of_getElem? hx)) hl
  have hts:=Yf hpk
  refine JB.skipS ?_
  refine JB.blk ?_
  refine JB.reg ?_
  refine JA.o1 (by simp only [go_sem,hx];(try simp (disch:=omega) only [if_pos]);(try simp only [go_sem,hx])<;> rfl) ?_
  iterate 2 (refine JA.o1 (by simp only [go_sem,hx]<;>rfl) ?_)
  refine JA.nil ?_
  refine JB.reg1 ?_
  iterate 2 (refine JA.o1 (by simp only [go_sem,hx]<;>rfl) ?_)
  rcases JQa hwl hpg with ⟨hnil,hc⟩|hc
  ·obtain ⟨ho,rs⟩:=pg
   have hnil:rs=[]:=hnil
   subst hnil
   refine JA.c1 hc (by simp only [go_sem,hx]<;>rfl) (by simp only [go_sem,hx]<;>rfl) ?_
   refine JA.o1 (by simp only [go_sem,l14]<;>rfl) ?_
   refine JA.o1 V8 ?_
   refine JA.o1 JD ?_
   refine JA.pinNil 1900 14023 3 1 (.inl (by simp only [go_sem,l19]<;>rfl)) (by simp only [go_sem,l23]<;>rfl) (by omega) (by omega) (by omega) (by omega) JD ?_
   refine JA.nil ?_
   refine JR.nrm ?_
   refine JB.reg1 ?_
   refine JA.o1 (by simp only [go_sem];(try simp (disch:=omega) only [IntWalk.i64_in,if_neg,if_pos])<;> rfl) ?_
   refine JA.o1 JD ?_
   refine JA.nil ?_
   refine Zm.nxt (L++[(⟨ho,[]⟩,.slice none 0 0)]) (by simp only [List.length_append,List.length_singleton];omega) ⟨by simp only [List.length_append,List.length_singleton];omega,by rw [List.map_append,hX2,List.length_append,List.length_singleton,hts];rfl⟩ ?_
   show JN _ (stG ls (.ret r0 o0) (L++[(⟨ho,[]⟩,.slice none 0 0)]))
   refine JOV (pre:=[_,_,_,_,_]) hL9 rfl rfl rfl rfl fun o e1 e2 e3=>?_
   show look (_::_::_::_::Zu JBO (QJ 0 0 L)) o=_
   rw [JMS]
   simp only [look,e1,e2,e3,if_false]
  ·refine JA.cal hc JY JD (by exact ⟨by first|exact Jj.pure rfl,trivial⟩) (fr1 (by simp only [go_sem,l23]<;>rfl)) JD ?_
   refine JA.pinS 13 1900 14023 pg.reads.length JD ⟨by simp only [go_sem,l19]<;>rfl,by omega⟩ JD (fun _=>by simp only [go_sem]<;>rfl) (fun _=>by simp only [go_sem,l14]<;>rfl) (fun _=>by simp only [go_sem]<;>rfl) (fun u=>?_)
   refine JA.o1 V8 ?_
   refine JA.o1 JD ?_
   refine JA.nil ?_
   refine JR.nrm ?_
   refine JB.reg1 ?_
   refine JA.o1 (by simp only [go_sem];(try simp (disch:=omega) only [IntWalk.i64_in,if_neg,if_pos])<;> rfl) ?_
   refine JA.o1 JD ?_
   refine JA.nil ?_
   refine Zm.nxt (L++[(pg,u)]) (by simp only [List.length_append,List.length_singleton];omega) ⟨by simp only [List.length_append,List.length_singleton];omega,by rw [List.map_append,hX2,List.length_append,List.length_singleton,hts];rfl⟩ ?_
   show JN _ (stG ls (.ret r0 o0) (L++[(pg,u)]))
   refine JOV (pre:=[_,_,_,_,_]) hL9 rfl rfl rfl rfl fun o e1 e2 e3=>?_
   show look (_::_::_::_::Zu JBO (QJ 0 0 L)) o=_
   rw [JMS]
   simp only [look,e1,e2,e3,if_false]
 ·skip
  have hke:L.length=ls.length:=(Nat.lt_or_ge L.length ls.length).elim (fun h=>absurd (decide_eq_true (show (L.length:Int)<(ls.length:Int) by omega)) (by rw [hb8];simp)) (fun h=>by omega)
  have hLl:L.map Prod.fst=l:=by rw [hX2,hke,←m1,List.take_length]
  refine JB.exitS ?_
  refine Zm.ext ?_
  refine JR.hit ?_
  refine JB.reg ?_
  refine JA.o1 JD ?_
  refine JA.calP (x:=Yt l) (res:=.int (Yl l)) (fun C S M ι a w hR=>?_) (JIi l (by omega) hz) JY (by rfl) (by simp only [go_sem,after]<;>rfl) ?_
  ·have hv:=QF hR (.tmp 17)
   have h2:=JRP (b:=0) (L:=L) (by omega) hR JD (fun i x hx=>?_) (Jl (show Jk S ι _ w (.leaf (.own 1000 0 L.length L.length)) (a.eval (.tmp 17)) from hv))
   ·rw [hLl] at h2;exact h2
   ·have hi:=(List.getElem?_eq_some_iff.1 hx).1
    have q1:=JMf (b:=0) (by omega) hx
    have q2:=JMe (b:=0) (by omega) hx
    constructor
    ·show look (_::QJ 0 0 L) (0+2000+i)=_
     simp only [look];rw [if_neg (by omega)];exact q1
    ·show look (_::QJ 0 0 L) (0+5000+i)=_
     simp only [look];rw [if_neg (by omega)];exact q2
  refine JA.o1 (by simp only [go_sem,hpe,h00]<;>rfl) ?_
  refine JA.c1 (YH true rfl) (by simp only [go_sem,hpe,h00]<;>rfl) (by simp only [go_sem,hpe,h00]<;>rfl) ?_
  refine JA.nil ?_
  refine JB.reg ?_
  refine JA.o1 JD ?_
  refine JA.o1 JD ?_
  refine JA.nil ?_
  exact ⟨⟨.inr rfl,.leaf (.own 1000 0 L.length L.length),by simp only [go_sem]<;>rfl,L,hLl,rfl,rfl⟩,rfl⟩
end Go.Mw
namespace Go.Mw
open Go.Proofs Go.Bk Go.RowKit
theorem JQh {text:Bs}{l:List Pg}(hl:text.length≤1000000000)(h:ZM text=some l):JB0 Tryz.prog 52 [.leaf (.d (.pt [.raw (.string (bs text))]))] (QG 0 l):=by
 obtain ⟨ls,h1,h2,h3⟩:=JNE h
 exact JQg text ls l hl h1 h2 h3
theorem JQn {text:Bs}{l:List Pg}(hl:text.length≤1000000000)(h:ZM text=some l):JB0 Tryz.prog 51 [.leaf (.d (.fn 52 [.pt [.raw (.string (bs text))]]))] (fun res obs=>∃x,QG 0 l (.leaf x) obs∧res=.tup [(false,[x]),(false,[.d (.raw (.int .i64 0))])]):=
 JRD JNc (fun res obs ⟨L,_,hr,ho⟩=>⟨_,hr,fun S ι w v hv=>JM4 hv ⟨31,2,L.map rowP,by rw [ho];simp [look],List.length_map _⟩⟩) (JQh hl h)
theorem JQo {b:Bs}(hb:b.length≤1000000000)(h:ZM b=none):Jb Tryz.prog 51 [.leaf (.d (.fn 52 [.pt [.raw (.string (bs b))]]))] (.tup [(false,[.d (.raw (.slice none 0 0))]),(false,[.d (.i 8)])]) []:=
 JGy JNe (fun _ _=>.raw _ rfl) (JM7 hb h)
def QR (b:Nat)(r:Option (List Pg))(res:AV)(obs:List (Nat × AO)):Prop:=∃L:List (Pg × Value),L.map Prod.fst=r.getD []∧res=.tup [(false,[.own (b+1000) 0 L.length L.length]),(false,[.d (.raw (.int .i64 (bif r.isSome then 0 else 8)))])]∧obs=(b+1000,.arr 31 2 (L.map rowP))::QJ b 0 L
theorem JSd (B b:Nat)(L:List (Pg × Value)):(QJ b 0 L).map (fun p=>(rn [] B p.1,p.2.ren (rn [] B)))=QJ (B+b) 0 L:=
 JHb fun i _ _=>⟨by show B+(b+2000+i)=_;omega,by show B+(b+5000+i)=_;omega⟩
theorem JKs {tm:List (Nat × AV)}{ob:List (Nat × AO)}{bh:Jh}{d B b:Nat}{res:AV}{L:List (Pg × Value)}:after ⟨tm,ob,bh⟩ d (rn [] B) res ((b+1000,.arr 31 2 (L.map rowP))::QJ b 0 L) bh=⟨(d,res.ren (rn [] B))::tm,(B+(b+1000),.arr 31 2 (L.map rowP))::(QJ (B+b) 0 L++ob),bh⟩:=by
 unfold after
 simp only [List.map_cons]
 rw [JSd];rfl
theorem JPz {b:Bs}(hb:b.length≤1000000000):JB0 Tryz.prog 18 [.str b] (QR 6000 (ZM b)):=by
 refine JLj Jf Tryz.func18 rfl JID JJ (fun r0 o0=>?_)
 refine JB.reg ?_
 iterate 3 (refine JA.o ?_)
 refine JA.nil ?_
 refine JB.reg ?_
 refine JA.frz 1 JD ?_
 refine JA.o ?_
 refine JA.frz 4 JD ?_
 cases h:ZM b with
 |none=>
  refine JA.c1 (JQo hb h) JD JD ?_
  refine JA.o ?_
  refine JA.nilo 6 7000 31 2 JD JD (by omega) (by omega) JD ?_
  iterate 3 (refine JA.o ?_)
  refine JA.nil ?_
  exact ⟨⟨.inr rfl,.tup [(false,[.own 7000 0 0 0]),(false,[.d (.raw (.int .i64 8))])],by simp only [go_sem]<;>rfl,[],rfl,rfl,by simp [QJ]⟩,rfl⟩
 |some l=>
  refine JA.calE (JQn hb h) JY JD ⟨_,_,rfl⟩ (fun res obs _ q y _=>by simp only [go_sem]<;>rfl) (fun res obs hQ=>?_)
  obtain ⟨x,⟨L,hL,hx,rfl⟩,rfl⟩:=hQ
  have hx:x=.own 1000 0 L.length L.length:=by
   simp only [AV.leaf,AV.val.injEq,List.cons.injEq] at hx
   exact hx.2.1
  subst hx
  rw [JKs]
  iterate 4 (refine JA.o ?_)
  refine JA.nil ?_
  exact ⟨⟨.inr rfl,.tup [(false,[.own 7000 0 L.length L.length]),(false,[.d (.raw (.int .i64 0))])],by simp only [go_sem]<;>rfl,L,hL,rfl,by simp⟩,rfl⟩
end Go.Mw
namespace Go.Mw
open Go.Proofs Go.Bk Go.RowKit
theorem JMk (f:Nat→AV)(s:Nat):∀ss:List Nat,look (ss.map fun q=>(q,f q)) s=if s∈ss then some (f s) else none
 |[]=>rfl
 |q::r=>by
  simp only [List.map_cons,look,JMk f s r,List.mem_cons]
  by_cases h:s=q
  ·subst h;simp
  ·simp [h]
theorem JN.so {tm tm':List (Nat × AV)}{ob ob':List (Nat × AO)}{bh:Jh}(ss:List Nat)(h1:(ss.map fun s=>(s,(JE.mk tm ob bh).get s))=tm')(h2:∀o,look ob' o=look ob o):JN ⟨tm,ob,bh⟩ ⟨tm',ob',bh⟩:=by
 subst h1
 refine JN.trans (B:=⟨_,ob,bh⟩) ?_ (JN.ob h2)
 intro P C a w ⟨S,M,ι,hR⟩
 refine ⟨S,M,ι,hR.sub,hR.new,hR.inn,hR.minn,hR.sz,fun s=>?_,hR.objs,hR.dis,hR.own,hR.env,hR.tok,hR.fixed,hR.marks,hR.rdok,hR.pinned,hR.pinN⟩
 show Jk S ι (look ob) w ((look (ss.map fun q=>(q,(JE.mk tm ob bh).get q)) s).getD .dead) _
 rw [JMk]
 split
 ·exact hR.tms s
 ·trivial
theorem JA.unpinS {P:Program}{ops:Array Oper}{Φ:JE→Prop}{A A':JE}{l:List Oper}(G d:Nat){v:Value}{x:AL}(hG:A.obj G=some (.pin v x))(hs:A.get d=.leaf (.d (.raw v)))(hp:A.put [.slot d (.leaf x)]=A')(h':JA P ops Φ l A'):JA P ops Φ l A:=
 .ghost (JN.unpinS hG hs) (hp▸h')
theorem JOw {α:Type}(z:α)(l:List α){k:Nat}(h:k<l.length):(List.replicate k z++l.drop k).set k z=List.replicate (k+1) z++l.drop (k+1):=by
 rw [List.set_append_right _ _ (by simp),List.length_replicate,Nat.sub_self,List.drop_eq_getElem_cons h,List.set_cons_zero,List.replicate_succ',List.append_assoc];rfl
def JRA (x:Pl):List D:=[.i x.num,.i (-1),.i x.day]
def JB9 (k:Nat)(l:List Pl):List (List D):=(l.take k).map JRA++(l.drop k).map Y7
theorem JQ9 (l:List Pl):JB9 0 l=l.map Y7:=rfl
theorem JQ7 (k:Nat)(l:List Pl):(JB9 k l).length=l.length:=by unfold JB9;simp;omega
theorem JQ6 {k:Nat}{l:List Pl}{x:Pl}(h:l[k]? = some x):(JB9 k l)[k]? = some [.i x.num,.i x.cls,.i x.day]:=by
 obtain ⟨hk,h'⟩:=List.getElem?_eq_some_iff.1 h
 unfold JB9
 rw [List.getElem?_append_right ZS,List.length_map,List.length_take,Nat.min_eq_left (by omega),Nat.sub_self,List.getElem?_map,List.getElem?_drop,Nat.add_zero,h];rfl
theorem JQ8 {k:Nat}{l:List Pl}{x:Pl}(h:l[k]? = some x):(JB9 k l).set k [.i x.num,.i (-1),.i x.day]=JB9 (k+1) l:=by
 obtain ⟨hk,h'⟩:=List.getElem?_eq_some_iff.1 h
 unfold JB9
 rw [List.set_append_right _ _ ZS,List.length_map,List.length_take,Nat.min_eq_left (by omega),Nat.sub_self,List.drop_eq_getElem_cons hk,List.map_cons,List.set_cons_zero,Yf h,List.map_append,List.append_assoc];rfl
def ZY (j:Nat)(x:Pg × Value):Pg × Value:=(⟨x.1.house,List.replicate j (-1)++x.1.reads.drop j⟩,x.2)
def Zh (i:Nat)(L:List (Pg × Value)):List (Pg × Value):=(L.take i).map (fun x=>ZY x.1.reads.length x)++L.drop i
theorem JSr (x:Pg × Value):ZY 0 x=x:=rfl
theorem JFp {j:Nat}{x:Pg × Value}(h:j≤x.1.reads.length):(ZY j x).1.reads.length=x.1.reads.length:=by unfold ZY;simp;omega
theorem JSq {j:Nat}{x:Pg × Value}(h:j<x.1.reads.length):((ZY j x).1.reads.map Qy).set j [.i (-1)]=(ZY (j+1) x).1.reads.map Qy:=by
 show (List.map Qy (List.replicate j (-1)++x.1.reads.drop j)).set j (Qy (-1))=List.map Qy (List.replicate (j+1) (-1)++x.1.reads.drop (j+1))
 rw [←List.map_set,JOw (-1) x.1.reads h]
theorem JSp (i:Nat)(L:List (Pg × Value)):(Zh i L).length=L.length:=by unfold Zh;simp;omega
theorem JSn {i:Nat}{L:List (Pg × Value)}{x:Pg × Value}(h:L[i]? = some x):(Zh i L)[i]? = some x:=by
 obtain ⟨hk,h'⟩:=List.getElem?_eq_some_iff.1 h
 unfold Zh
 rw [List.getElem?_append_right ZS,List.length_map,List.length_take,Nat.min_eq_left (by omega),Nat.sub_self,List.getElem?_drop,Nat.add_zero,h]
theorem JSo {i:Nat}{L:List (Pg × Value)}{x:Pg × Value}(h:L[i]? = some x):(Zh i L).set i (ZY x.1.reads.length x)=Zh (i+1) L:=by
 obtain ⟨hk,h'⟩:=List.getElem?_eq_some_iff.1 h
 unfold Zh
 rw [List.set_append_right _ _ ZS,List.length_map,List.length_take,Nat.min_eq_left (by omega),Nat.sub_self,List.drop_eq_getElem_cons hk,List.set_cons_zero,Yf h,List.map_append,List.append_assoc];rfl
theorem set_self {α:Type}{L:List α}{i:Nat}{x:α}(h:L[i]? = some x):L.set i x=L:=by
 obtain ⟨hk,h'⟩:=List.getElem?_eq_some_iff.1 h
 rw [←h'];exact List.set_getElem_self hk
theorem JSc {b i:Nat}{L:List (Pg × Value)}{x y:Pg × Value}(hl:L.length≤900)(h:L[i]? = some x)(hu:y.2=x.2)(hn:y.1.reads.length=x.1.reads.length)(o:Nat):look (QJ b 0 (L.set i y)) o=if o=b+5000+i then some (JAC y) else look (QJ b 0 L) o:=by
 have hi:=(List.getElem?_eq_some_iff.1 h).1
 have hp:JA6 b i y=JA6 b i x:=by unfold JA6;rw [hu,hn]
 rw [JBt ZS,JBt (by omega),List.length_set]
 by_cases h1:b+2000+0≤o∧o<b+2000+0+L.length
 ·rw [if_pos h1,if_neg (by omega),if_pos h1,List.getElem?_set]
  by_cases h2:i=o-(b+2000+0)
  ·rw [if_pos h2,if_pos (by omega),←h2,h];simp [hp]
  ·rw [if_neg h2]
 ·rw [if_neg h1,if_neg h1]
  by_cases h3:b+5000+0≤o∧o<b+5000+0+L.length
  ·rw [if_pos h3,if_pos h3,List.getElem?_set]
   by_cases h2:i=o-(b+5000+0)
   ·rw [if_pos h2,if_pos (by omega),if_pos (by omega)];rfl
   ·rw [if_neg h2,if_neg (by omega)]
  ·rw [if_neg h3,if_neg h3,if_neg (by omega)]
theorem JO8 {tm:List (Nat × AV)}{bh:Jh}{e:Value}{L:List (Pg × Value)}(n:Nat):after ⟨tm,[],bh⟩ 133 (rn [] (1000*(133+1))) (.tup [(false,[.own (6000+1000) 0 n n]),(false,[.d (.raw e)])]) ((6000+1000,.arr 31 2 (L.map rowP))::QJ 6000 0 L) bh =
  ⟨(133,.tup [(false,[.own 141000 0 n n]),(false,[.d (.raw e)])])::tm,(141000,.arr 31 2 (L.map rowP))::QJ 140000 0 L,bh⟩:=by
 rw [JKs,List.append_nil];rfl
theorem JNJ {i:Nat}{L:List (Pg × Value)}{x:Pg × Value}(hl:L.length≤900)(h:L[i]? = some x):look (QJ 140000 0 L) (142000+i)=some (.pin x.2 (.own (145000+i) 0 x.1.reads.length x.1.reads.length)):=JMf (b:=140000) hl h
theorem JK0 {i:Nat}{L:List (Pg × Value)}{x:Pg × Value}(hl:L.length≤900)(h:L[i]? = some x):look (QJ 140000 0 L) (145000+i)=some (.arr 3 1 (x.1.reads.map Qy)):=JMe (b:=140000) hl h
end Go.Mw

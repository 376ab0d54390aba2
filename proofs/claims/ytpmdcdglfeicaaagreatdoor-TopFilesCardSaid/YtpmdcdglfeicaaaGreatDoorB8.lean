/- Contracts of the functions that the book reaches: what is valid, by the program. -/
import Derived.Test.YtpmdcdglfeicaaaGreatDoorD1
import Derived.Test.YtpmdcdglfeicaaaGreatDoorB5
import Derived.Test.YtpmdcdglfeicaaaGreatDoorB7
set_option maxRecDepth 20000
set_option maxHeartbeats 4000000
set_option linter.unusedSimpArgs false
set_option linter.unusedVariables false
set_option linter.unusedSectionVars false
set_option linter.deprecated false
namespace Go.Mw
open Go.Proofs
open Go.Bk
attribute [local go_sem] decide_true beq_self_eq_true bne_self_eq_false
theorem JBU {α:Type}{p:α→Bool}(l:List α):l.any (fun s=>!p s) = !l.all p:=by rw [List.not_all_eq_any_not]
def JCn (l:List Int)(k:Nat):Prop:=∀i,i+1<k→l.getD i 0<l.getD (i+1) 0
theorem JN4:∀(l:List Int),JCn l l.length→JAP l=true
 |[],_=>rfl
 |[_],_=>rfl
 |a::b::l,h=>by
  have h0:a<b:=h 0 (by simp)
  have h1:JCn (b::l) (b::l).length:=fun i hi=>h (i+1) (by simp at hi ⊢;omega)
  simp only [JAP,decide_eq_true h0,JN4 (b::l) h1,Bool.and_true]
theorem JN5:∀(l:List Int),JAP l=true→∀i,i+1<l.length→l.getD i 0<l.getD (i+1) 0
 |[],_,i,hi=>by simp at hi
 |[_],_,i,hi=>by simp at hi
 |a::b::l,h,0,_=>by simp only [JAP,Bool.and_eq_true,decide_eq_true_eq] at h;exact h.1
 |a::b::l,h,i+1,hi=>by
  simp only [JAP,Bool.and_eq_true] at h
  exact JN5 (b::l) h.2 i (by simp at hi ⊢;omega)
theorem JN7 {α:Type}{f:α→Int}{l:List α}{k:Nat}{x y:α}(h:JCn (l.map f) k)(hx:l[k]? = some x)(hy:l[k-1]? = some y)(hxy:f y<f x):JCn (l.map f) (k+1):=fun i hi=>by
 by_cases e:i+1<k
 ·exact h i e
 ·have:i+1=k:=by omega
  subst this
  have e1:(l.map f).getD i 0=f y:=by simp [List.getD,show l[i]? = some y from hy]
  have e2:(l.map f).getD (i+1) 0=f x:=by simp [List.getD,hx]
  rw [e1,e2];exact hxy
theorem JN6 (l:List Int):JCn l 1:=fun i hi=>absurd hi (by omega)
theorem JTq (l:List Int):JCn l 0:=fun i hi=>absurd hi (by omega)
theorem JTp {α:Type}{f:α→Int}{l:List α}{k:Nat}{x y:α}(hk:0<k)(hx:l[k]? = some x)(hy:l[k-1]? = some y)(hxy:¬f y<f x):JAP (l.map f)=false:=by
 rw [←Bool.not_eq_true]
 intro h
 have hl:=(List.getElem?_eq_some_iff.1 hx).1
 have:=JN5 _ h (k-1) YF
 rw [show k-1+1=k by omega] at this
 have e1:(l.map f).getD (k-1) 0=f y:=by simp [List.getD,hy]
 have e2:(l.map f).getD k 0=f x:=by simp [List.getD,hx]
 rw [e1,e2] at this
 exact hxy this
theorem JTo {α:Type}{f:α→Int}{l:List α}{k:Nat}(h:JCn (l.map f) k)(hk:l.length≤k):JAP (l.map f)=true:=JN4 _ fun i hi=>h i (by simp at hi;omega)
theorem JMM {n most:Nat}(ok rise:Bool)(h:most<n):JAz n most ok rise=3:=if_pos h
theorem JRF {n most:Nat}(rise:Bool)(h:n≤most):JAz n most false rise=1:=by unfold JAz;rw [if_neg (by omega)];rfl
theorem JRG {n most:Nat}(h:n≤most):JAz n most true false=7:=by unfold JAz;rw [if_neg (by omega)];rfl
theorem JRE {n most:Nat}(h:n≤most):JAz n most true true=0:=by unfold JAz;rw [if_neg (by omega)];rfl
theorem JOo:∀(l:List Int),(∀i,i+1<l.length→l.getD i 0≤l.getD (i+1) 0)→JAd l=true
 |[],_=>rfl
 |[_],_=>rfl
 |a::b::l,h=>by
  have h0:a≤b:=h 0 (by simp)
  have h1:∀i,i+1<(b::l).length→(b::l).getD i 0≤(b::l).getD (i+1) 0:=fun i hi=>h (i+1) (by simp at hi ⊢;omega)
  simp only [JAd,decide_eq_true h0,JOo (b::l) h1,Bool.and_true]
theorem JOq:∀(l:List Int),JAd l=true→∀i,i+1<l.length→l.getD i 0≤l.getD (i+1) 0
 |[],_,i,hi=>by simp at hi
 |[_],_,i,hi=>by simp at hi
 |a::b::l,h,0,_=>by simp only [JAd,Bool.and_eq_true,decide_eq_true_eq] at h;exact h.1
 |a::b::l,h,i+1,hi=>by
  simp only [JAd,Bool.and_eq_true] at h
  exact JOq (b::l) h.2 i (by simp at hi ⊢;omega)
theorem JHA {l:List Int}{i:Nat}{x:Int}(h:l[i]? = some x):l.getD i 0=x:=by simp [List.getD,h]
theorem JPy {g:FuncId}{ds:List D}(p:Int→Bool)(hg:JM Tryz.prog g=true)(l:List Int)(hl:l.length≤100000)(hp:∀s,s∈l→Jf Tryz.prog g (.int s::ds.map fun x=>.leaf (.d x)) (.bool (p s)) []):Jf Tryz.prog 173 [.leaf (.d (.sl 1 (l.map JAK))),.leaf (.d (.fn g ds))] (.int (JCZ (l.findIdx? p))) []:=by
 refine Jq Jj Tryz.func173 rfl (by simp only [List.length_cons,List.length_nil,Tryz.ntmps173];omega) JL rfl ?_
 refine JB.reg ?_
 refine JA.o ?_
 refine JA.nil (JB.assocS (JB.reg ?_))
 iterate 3 (refine JA.o ?_)
 refine JA.nil (JB.blk ?_)
 refine JB.forA [0,1,7,8] [] (l.length) (fun k=>[.slot 8 (.int k)]) (fun k=>(l.take k).any p=false) (fun k=>by simp only [go_sem]<;>rfl) JF ?_ (fun k hk hX=>?_)
 ·rfl
 ·skip
  refine JB.reg ?_
  refine JA.o ?_
  refine JA.nil ?_
  refine JB.cndS JF (fun hb9=>?_) (fun hb9=>?_)
  ·skip
   have hlt:=Yo hb9
   obtain ⟨s,hs⟩:=JAh hb9
   refine JB.skipS (JB.blk (JB.reg ?_))
   have X:=Fx.mk hs
   iterate 2 (refine JA.o1 JC ?_)
   refine JA.nil (JB.reg ?_)
   iterate 3 (refine JA.o1 JC ?_)
   refine JA.o1 QG ?_
   refine JA.o1 JC ?_
   refine JA.calw JF (hp s (List.mem_of_getElem? hs)) (by assumption) JC JC V90 (Yr) JC ?_
   refine JA.nil ?_
   refine JB.cnd JC (fun hb16=>?_) (fun hb16=>?_)
   ·skip
    have hr:=JG4 hX hs hb16
    refine JB.reg ?_
    have X:=X.a hr
    iterate 2 (refine JA.o1 Z2 ?_)
    refine JA.nil (JR.ret (JU.ret (JR.ret ?_)))
    exact Ends.fin [] (rs:=[.tmp 4]) rfl Z2 JCD
   ·skip
    refine JR.nrm (JB.reg1 ?_)
    refine JA.o1 Jx ?_
    refine JA.o1 JC ?_
    refine JA.nil ?_
    refine JU.nxt ?_ ?_ ?_
    ·omega
    ·exact JN.kp [0,1,7,8] [] Yi
    ·exact JGZ hX hs hb16
  ·skip
   have hr:=JG5 hX (Ys hb9)
   refine JB.exitS (JU.ext (JR.hit (JB.reg ?_)))
   have X:=Fx.mk hr
   refine JA.o1 Z2 ?_
   refine JA.nil ?_
   exact Ends.fin [] (rs:=[.tmp 4]) rfl Z2 JCD
theorem JPt {g:FuncId}{ds:List D}(p:Int→Bool)(hg:JM Tryz.prog g=true)(l:List Int)(hl:l.length≤100000)(hp:∀s,s∈l→Jf Tryz.prog g (.int s::ds.map fun x=>.leaf (.d x)) (.bool (p s)) []):Jf Tryz.prog 143 [.leaf (.d (.sl 1 (l.map JAK))),.leaf (.d (.fn g ds))] (.bool (l.any p)) []:=by
 refine Jq Jj Tryz.func143 rfl (by simp only [List.length_cons,List.length_nil,Tryz.ntmps143];omega) JL rfl ?_
 refine JB.reg ?_
 refine JA.o1 Yj ?_
 refine JA.nil (JB.reg ?_)
 iterate 2 (refine JA.o1 Yj ?_)
 refine JA.c1 (JPy p hg l hl hp) Yj Yj ?_
 iterate 2 (refine JA.o1 Yj ?_)
 refine JA.nil ?_
 exact Ends.fin [] (rs:=[.tmp 4]) rfl Yj JF7
theorem JPz {g:FuncId}{ds:List D}(p:Pg→Bool)(hg:JM Tryz.prog g=true)(l:List Pg)(hl:l.length≤100000)(hp:∀s,s∈l→Jf Tryz.prog g (pgV s::ds.map fun x=>.leaf (.d x)) (.bool (p s)) []):Jf Tryz.prog 172 [.leaf (.d (.sl 2 (l.map Zt))),.leaf (.d (.fn g ds))] (.int (JCZ (l.findIdx? p))) []:=by
 refine Jq Jj Tryz.func172 rfl (by simp only [List.length_cons,List.length_nil,Tryz.ntmps172];omega) JL rfl ?_
 refine JB.reg ?_
 refine JA.o ?_
 refine JA.nil (JB.assocS (JB.reg ?_))
 iterate 3 (refine JA.o ?_)
 refine JA.nil (JB.blk ?_)
 refine JB.forA [0,1,7,8] [] (l.length) (fun k=>[.slot 8 (.int k)]) (fun k=>(l.take k).any p=false) (fun k=>by simp only [go_sem]<;>rfl) JF ?_ (fun k hk hX=>?_)
 ·rfl
 ·skip
  refine JB.reg ?_
  refine JA.o ?_
  refine JA.nil ?_
  refine JB.cndS JF (fun hb9=>?_) (fun hb9=>?_)
  ·skip
   have hlt:=Yo hb9
   obtain ⟨s,hs⟩:=JAh hb9
   refine JB.skipS (JB.blk (JB.reg ?_))
   have X:=Fx.mk hs
   iterate 2 (refine JA.o1 JC ?_)
   refine JA.nil (JB.reg ?_)
   iterate 3 (refine JA.o1 JC ?_)
   refine JA.o1 QG ?_
   refine JA.o1 JC ?_
   refine JA.calw JF (hp s (List.mem_of_getElem? hs)) (by assumption) JC JC V90 (Yr) JC ?_
   refine JA.nil ?_
   refine JB.cnd JC (fun hb16=>?_) (fun hb16=>?_)
   ·skip
    have hr:=JG4 hX hs hb16
    refine JB.reg ?_
    have X:=X.a hr
    iterate 2 (refine JA.o1 Z2 ?_)
    refine JA.nil (JR.ret (JU.ret (JR.ret ?_)))
    exact Ends.fin [] (rs:=[.tmp 4]) rfl Z2 JCD
   ·skip
    refine JR.nrm (JB.reg1 ?_)
    refine JA.o1 Jx ?_
    refine JA.o1 JC ?_
    refine JA.nil ?_
    refine JU.nxt ?_ ?_ ?_
    ·omega
    ·exact JN.kp [0,1,7,8] [] Yi
    ·exact JGZ hX hs hb16
  ·skip
   have hr:=JG5 hX (Ys hb9)
   refine JB.exitS (JU.ext (JR.hit (JB.reg ?_)))
   have X:=Fx.mk hr
   refine JA.o1 Z2 ?_
   refine JA.nil ?_
   exact Ends.fin [] (rs:=[.tmp 4]) rfl Z2 JCD
theorem JPu {g:FuncId}{ds:List D}(p:Pg→Bool)(hg:JM Tryz.prog g=true)(l:List Pg)(hl:l.length≤100000)(hp:∀s,s∈l→Jf Tryz.prog g (pgV s::ds.map fun x=>.leaf (.d x)) (.bool (p s)) []):Jf Tryz.prog 139 [.leaf (.d (.sl 2 (l.map Zt))),.leaf (.d (.fn g ds))] (.bool (l.any p)) []:=by
 refine Jq Jj Tryz.func139 rfl (by simp only [List.length_cons,List.length_nil,Tryz.ntmps139];omega) JL rfl ?_
 refine JB.reg ?_
 refine JA.o1 Yj ?_
 refine JA.nil (JB.reg ?_)
 iterate 2 (refine JA.o1 Yj ?_)
 refine JA.c1 (JPz p hg l hl hp) Yj Yj ?_
 iterate 2 (refine JA.o1 Yj ?_)
 refine JA.nil ?_
 exact Ends.fin [] (rs:=[.tmp 4]) rfl Yj JF7
theorem JQP (n:Int):Jf Tryz.prog 141 [.int n] (.bool (!inD n 0 1073741824)) []:=by
 refine Jq Jj Tryz.func141 rfl (by simp only [List.length_cons,List.length_nil,Tryz.ntmps141];omega) JL rfl ?_
 refine JB.reg ?_
 refine JA.o ?_
 refine JA.nil (JB.reg ?_)
 refine JA.o ?_
 refine JA.c1 (JGj _ _ _) JF JF ?_
 iterate 2 (refine JA.o ?_)
 refine JA.nil ?_
 exact Ends.fin [] (rs:=[.tmp 2]) rfl JF Y3
theorem JEt (n:Int):Jf Tryz.prog 153 [.int n] (.bool false) []:=by
 refine Jq Jj Tryz.func153 rfl (by simp only [List.length_cons,List.length_nil,Tryz.ntmps153];omega) JL rfl ?_
 refine JB.reg ?_
 refine JA.o ?_
 refine JA.nil (JB.reg ?_)
 iterate 4 (refine JA.o ?_)
 refine JA.nil ?_
 exact Ends.fin [] (rs:=[.tmp 2]) rfl JF Y3
theorem JP5 (n m:Int):Jf Tryz.prog 174 [.int n,.int m] (.bool (decide (n<m))) []:=by
 refine Jq Jj Tryz.func174 rfl (by simp only [List.length_cons,List.length_nil,Tryz.ntmps174];omega) JL rfl ?_
 refine JB.reg ?_
 refine JA.o ?_
 refine JA.nil (JB.reg ?_)
 refine JA.o ?_
 refine JA.c1 (JEt _) JF JF ?_
 refine JA.o ?_
 refine JA.gop JF JF JF ?_
 refine JA.gcal JF (JEt _) Jr JF YQ JF ?_
 refine JA.gop JF JF JF ?_
 iterate 2 (refine JA.o ?_)
 iterate 3 (refine JA.gop JF JF JF ?_)
 iterate 2 (refine JA.o ?_)
 refine JA.nil ?_
 exact Ends.fin [] (rs:=[.tmp 4]) rfl JF Y3
theorem JP2 (l:List Int)(hl:l.length≤1000):Jf Tryz.prog 144 [.leaf (.d (JDC l))] (.bool (JAd l)) []:=by
 have h64:IntKind.i64.wrap ((l.length:Int)-1)=(l.length:Int)-1:=IntWalk.i64_in _ (by omega)
 have hz0:(l.length:Int)-1-((0:Nat):Int)=(l.length:Int)-1:=by omega
 refine Jq Jj Tryz.func144 rfl (by simp only [List.length_cons,List.length_nil,Tryz.ntmps144];omega) JL rfl ?_
 refine JB.reg ?_
 have X:=Fx.mk h64
 refine JA.o1 JC ?_
 refine JA.nil (JB.assocS (JB.reg ?_))
 iterate 2 (refine JA.o1 JC ?_)
 refine JA.o1 Jx ?_
 refine JA.o1 JC ?_
 refine JA.nil (JB.blk ?_)
 have X:=X.a hz0
 refine JB.forA [0,3] [] (l.length-1) (fun k=>[.slot 3 (.int ((l.length:Int)-1-k))]) (fun k=>∀i,l.length≤i+1+k→i+1<l.length→l.getD i 0≤l.getD (i+1) 0) (fun k=>by simp only [go_sem]<;>rfl) JC ?_ (fun k hk hX=>?_)
 ·exact fun i h1 h2=>absurd h1 (by omega)
 ·skip
  refine JB.assocS (JB.reg ?_)
  have X:=Fx.mk h64
  iterate 2 (refine JA.o1 JC ?_)
  refine JA.nil ?_
  refine JB.cndS JC (fun hb8=>?_) (fun hb8=>?_)
  ·skip
   have hgt:0<l.length-1-k:=by have:=of_decide_eq_true hb8;omega
   obtain ⟨x,hx⟩:∃x,l[l.length-1-k]? = some x:=⟨_,List.getElem?_eq_getElem (by omega)⟩
   obtain ⟨y,hy⟩:∃y,l[l.length-1-k-1]? = some y:=⟨_,List.getElem?_eq_getElem (by omega)⟩
   have t1:((l.length:Int)-1-(k:Int)).toNat=l.length-1-k:=by omega
   have w2:IntKind.i64.wrap ((l.length:Int)-1-(k:Int)-1)=(l.length:Int)-1-(k:Int)-1:=IntWalk.i64_in _ (by omega)
   have t2:((l.length:Int)-1-(k:Int)-1).toNat=l.length-1-k-1:=by omega
   have e3:(l.length:Int)-1-((k+1:Nat):Int)=(l.length:Int)-1-(k:Int)-1:=by omega
   refine JB.skipS (JB.blk ?_)
   refine JB.opk 12 ?_
   have X:=(((((X.a t1).a w2).a t2).a hx).a hy).a e3
   iterate 2 (refine JG.o1 JC ?_)
   refine JG.o1 QG ?_
   iterate 3 (refine JG.o1 JC ?_)
   refine JG.o1 Jx ?_
   refine JG.o1 QG ?_
   refine JG.o1 JC ?_
   refine JG.cal (JP5 x y) Jr JC Z4 (Yr) JC JF JF ?_
   refine JG.nil (QK.fin Qb Qb ?_)
   refine JB.cnd JC (fun hb20=>?_) (fun hb20=>?_)
   ·skip
    have hr:JAd l=false:=by
     rw [←Bool.not_eq_true]
     intro h
     have:=JOq l h (l.length-1-k-1) (by omega)
     rw [show l.length-1-k-1+1=l.length-1-k by omega,JHA hx,JHA hy] at this
     have:=of_decide_eq_true hb20
     omega
    refine JB.reg ?_
    have X:=X.a hr
    refine JA.o1 JC ?_
    refine JA.nil (JR.ret (JU.ret (JR.ret ?_)))
    exact Ends.fin [] (rs:=[.tmp 2]) rfl JC Qk
   ·skip
    refine JR.nrm (JB.reg1 ?_)
    refine JA.o1 JC ?_
    refine JA.o1 Jx ?_
    refine JA.o1 JC ?_
    refine JA.nil ?_
    refine JU.nxt ?_ ?_ ?_
    ·omega
    ·exact JN.kp [0,3] [] Yi
    ·exact fun i h1 h2=>if e:i+1=l.length-1-k then (by rw [show i=l.length-1-k-1 by omega,show l.length-1-k-1+1=l.length-1-k by omega,JHA hx,JHA hy];have:=of_decide_eq_false hb20;omega) else hX i (by omega) h2
  ·skip
   have hr:JAd l=true:=JOo l fun i hi=>hX i (by have:=of_decide_eq_false hb8;omega) hi
   refine JB.exitS (JU.ext (JR.hit (JB.reg ?_)))
   have X:=X.a hr
   refine JA.o1 JC ?_
   refine JA.nil ?_
   exact Ends.fin [] (rs:=[.tmp 2]) rfl JC Qk
theorem JQO (x:Pg)(h:x.reads.length≤1000):Jf Tryz.prog 100 [pgV x] (.bool (Yb x)) []:=by
 have hle:decide ((x.reads.length:Int)≤16)=decide (x.reads.length≤16):=by rw [decide_eq_decide];omega
 refine Jq Jj Tryz.func100 rfl (by simp only [List.length_cons,List.length_nil,Tryz.ntmps100];omega) JL rfl ?_
 refine JB.reg ?_
 have X:=Fx.mk hle
 iterate 2 (refine JA.o1 Zc ?_)
 refine JA.nil (JB.reg ?_)
 refine JA.o1 Zc ?_
 refine JA.nil (JB.reg ?_)
 iterate 2 (refine JA.o1 Zc ?_)
 refine JA.c1 (JGj _ _ _) Zc Zc ?_
 refine JA.o1 Zc ?_
 iterate 4 (refine JA.gop JF Zc JF ?_)
 iterate 2 (refine JA.o1 Zc ?_)
 iterate 3 (refine JA.gop JF Zc JF ?_)
 refine JA.gcal JF (JPt (fun n=>!inD n 0 1073741824) (ds:=[]) Jr x.reads (by omega) (fun n _=>JQP n)) Jr Zc Z4 Zc ?_
 refine JA.gop JF Zc JF ?_
 iterate 2 (refine JA.o1 Zc ?_)
 iterate 2 (refine JA.gop JF Zc JF ?_)
 refine JA.gcal JF (JP2 x.reads h) Jr Zc YQ Zc ?_
 iterate 2 (refine JA.o1 Zc ?_)
 refine JA.nil ?_
 exact Ends.fin [] (rs:=[.tmp 2]) rfl Zc (by simp only [go_sem,X.h,Yb,JBU,Bool.not_not]<;>first|rfl|exact QB)
theorem JL0 (x:Pg):Jf Tryz.prog 101 [pgV x] (.int x.house) []:=by
 refine Jq Jj Tryz.func101 rfl (by simp only [List.length_cons,List.length_nil,Tryz.ntmps101];omega) JL rfl ?_
 refine JB.reg ?_
 iterate 2 (refine JA.o ?_)
 refine JA.nil (JB.reg ?_)
 iterate 3 (refine JA.o ?_)
 refine JA.nil ?_
 exact Ends.fin [] (rs:=[.tmp 2]) rfl JF Y3
theorem JQF (x:Pg)(h:x.reads.length≤1000):Jf Tryz.prog 140 [pgV x,.leaf (.d (.pt [.fn 100 []]))] (.bool (!Yb x)) []:=by
 refine Jq Jj Tryz.func140 rfl (by simp only [List.length_cons,List.length_nil,Tryz.ntmps140];omega) JL rfl ?_
 refine JB.reg ?_
 iterate 2 (refine JA.o ?_)
 refine JA.nil (JB.reg ?_)
 iterate 2 (refine JA.o ?_)
 refine JA.calw JF (JQO x h) Jr JF JF YQ (Yr) JF ?_
 iterate 2 (refine JA.o ?_)
 refine JA.nil ?_
 exact Ends.fin [] (rs:=[.tmp 3]) rfl JF Y3
theorem JQK (l:List Pg)(most:Nat)(hl:l.length≤1000)(hm:most≤1000)(hz:∀x∈l,x.reads.length≤1000):Jf Tryz.prog 99 [.leaf (.d (JA7 l)),.int most,.leaf (.d (.fn 100 [])),.leaf (.d (.fn 101 []))] (.int (JAz l.length most (l.all Yb) (JAP (l.map Pg.house)))) []:=by
 refine Jq Jj Tryz.func99 rfl (by simp only [List.length_cons,List.length_nil,Tryz.ntmps99];omega) JL rfl ?_
 refine JB.reg ?_
 iterate 2 (refine JA.o1 JAu ?_)
 refine JA.nil (JB.blk (JB.reg ?_))
 iterate 5 (refine JA.o1 JAu ?_)
 refine JA.nil ?_
 refine JB.cnd JAu (fun hb10=>?_) (fun hb10=>?_)
 ·skip
  have hgt:most<l.length:=by have:=of_decide_eq_true hb10;omega
  have hr:=JMM (l.all Yb) (JAP (l.map Pg.house)) hgt
  refine JB.reg ?_
  have X:=Fx.mk hr
  refine JA.o1 YN ?_
  refine JA.nil (JR.ret ?_)
  exact Ends.fin [] (rs:=[.tmp 8]) rfl YN JF4
 ·skip
  have hle:l.length≤most:=by have:=of_decide_eq_false hb10;omega
  refine JB.reg ?_
  refine JA.frz 6 JF ?_
  iterate 2 (refine JA.o1 JAu ?_)
  refine JA.frz 17 JF ?_
  refine JA.c1 (JPu (fun x=>!Yb x) (ds:=[.pt [.fn 100 []]]) Jr l (by omega) (fun x hx=>JQF x (hz x hx))) JAu JAu ?_
  refine JA.o1 JAu ?_
  refine JA.nil ?_
  refine JB.cnd JAu (fun hb15=>?_) (fun hb15=>?_)
  ·skip
   have hno:l.all Yb=false:=by simpa using hb15
   have hr:=JRF (JAP (l.map Pg.house)) hle
   refine JB.reg ?_
   have X:=(Fx.mk hno).a hr
   refine JA.o1 YN ?_
   refine JA.nil (JR.ret ?_)
   exact Ends.fin [] (rs:=[.tmp 8]) rfl YN JF4
  ·skip
   have hyes:l.all Yb=true:=by simpa using hb15
   refine JR.nrm (JB.assocS (JB.reg ?_))
   iterate 3 (refine JA.o1 JAu ?_)
   refine JA.nil (JB.blk ?_)
   refine JB.forA [0,3,20,21] [] (l.length) (fun k=>[.slot 21 (.int k)]) (JCn (l.map Pg.house)) (fun k=>by simp only [go_sem]<;>rfl) JAu ?_ (fun k hk hX=>?_)
   ·exact JTq _
   ·skip
    refine JB.reg ?_
    refine JA.o1 JAu ?_
    refine JA.nil ?_
    refine JB.cndS JAu (fun hb22=>?_) (fun hb22=>?_)
    ·skip
     have hlt:=Yo hb22
     obtain ⟨x,hx⟩:=JAh hb22
     refine JB.skipS (JB.blk (JB.reg ?_))
     have X:=Fx.mk hx
     iterate 2 (refine JA.o1 YN ?_)
     refine JA.nil ?_
     by_cases h0:k=0
     ·skip
      subst h0
      have g1:decide ((0:Int)<((0:Nat):Int))=false:=rfl
      refine JB.opk 20 ?_
      have X:=X.a g1
      iterate 3 (refine JG.o1 YN ?_)
      iterate 14 (refine JG.s ?_)
      refine JG.o1 YN ?_
      refine JG.nil (QK.finT JL JL JL ?_)
      refine JB.cnd YN (fun hb41=>?_) (fun hb41=>?_)
      ·exact absurd hb41 (by simp)
      ·skip
       refine JR.nrm (JB.reg1 ?_)
       refine JA.o1 V56 ?_
       refine JA.o1 YN ?_
       refine JA.nil ?_
       refine JU.nxt ?_ ?_ ?_
       ·omega
       ·exact JN.kp [0,3,20,21] [] (by simp only [go_sem,X.h,JBU,gt_iff_lt]<;>first|exact QB|rfl)
       ·first|exact JN7 hX hx hy (by have:=of_decide_eq_false hb41;omega)|exact JN6 _
     ·skip
      have g1:decide ((0:Int)<(k:Int))=true:=decide_eq_true (by omega)
      obtain ⟨y,hy⟩:∃y,l[k-1]? = some y:=⟨_,List.getElem?_eq_getElem (by omega)⟩
      have t1:((k:Int)-1).toNat=k-1:=by omega
      refine JB.opk 20 ?_
      have X:=((X.a g1).a hy).a t1
      iterate 3 (refine JG.o1 YN ?_)
      iterate 3 (refine JG.y1 YN ?_)
      refine JG.y1 V67 ?_
      refine JG.y1 YN ?_
      refine JG.calw JF (JL0 x) Jr YN YN YQ (Yr) YN JF JF ?_
      iterate 3 (refine JG.y1 YN ?_)
      refine JG.y1 V56 ?_
      refine JG.y1 V67 ?_
      refine JG.y1 YN ?_
      refine JG.calw JF (JL0 y) Jr YN YN YQ (Yr) YN JF JF ?_
      refine JG.y1 YN ?_
      refine JG.o1 YN ?_
      refine JG.nil (QK.finT JL JL JL ?_)
      refine JB.cnd YN (fun hb41=>?_) (fun hb41=>?_)
      ·skip
       have hno:=JTp (f:=Pg.house) (by omega) hx hy (by have:=of_decide_eq_true hb41;omega)
       have hr:=JRG hle
       refine JB.reg ?_
       have X:=((X.a hyes).a hno).a hr
       refine JA.o1 YN ?_
       refine JA.nil (JR.ret (JU.ret (JR.ret ?_)))
       exact Ends.fin [] (rs:=[.tmp 8]) rfl YN JF4
      ·skip
       refine JR.nrm (JB.reg1 ?_)
       refine JA.o1 V56 ?_
       refine JA.o1 YN ?_
       refine JA.nil ?_
       refine JU.nxt ?_ ?_ ?_
       ·omega
       ·exact JN.kp [0,3,20,21] [] (by simp only [go_sem,X.h,JBU,gt_iff_lt]<;>first|exact QB|rfl)
       ·first|exact JN7 hX hx hy (by have:=of_decide_eq_false hb41;omega)|exact JN6 _
    ·skip
     have hr0:=JTo hX (Ys hb22)
     have hr:=JRE hle
     refine JB.exitS (JU.ext (JR.hit (JB.reg ?_)))
     have X:=((Fx.mk hyes).a hr0).a hr
     refine JA.o1 YN ?_
     refine JA.nil ?_
     exact Ends.fin [] (rs:=[.tmp 8]) rfl YN JF4
theorem JL1 (l:List Pg)(hl:l.length≤1000)(hz:∀x∈l,x.reads.length≤1000):Jf Tryz.prog 45 [.leaf (.d (JA7 l))] (.int (Yg l)) []:=by
 refine Jq Jj Tryz.func45 rfl (by simp only [List.length_cons,List.length_nil,Tryz.ntmps45];omega) JL rfl ?_
 refine JB.reg ?_
 refine JA.o1 JDf ?_
 refine JA.nil (JB.reg ?_)
 refine JA.o1 JDf ?_
 refine JA.c1 (JQK l 32 hl (by omega) hz) JDf JDf ?_
 refine JA.o1 JDf ?_
 refine JA.nil ?_
 exact Ends.fin [] (rs:=[.tmp 2]) rfl JDf (by simp only [go_sem,Yg]<;>first|rfl|exact QB)
end Go.Mw

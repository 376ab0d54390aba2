/- Contracts of the functions that the book reaches: what is valid, by the program. -/
import Derived.Test.YtpmdcdglfeicaaaGreatDoorD1
import Derived.Test.YtpmdcdglfeicaaaGreatDoorB4
import Derived.Test.YtpmdcdglfeicaaaGreatDoorB6
set_option maxRecDepth 20000
set_option maxHeartbeats 4000000
set_option linter.unusedSimpArgs false
set_option linter.unusedVariables false
set_option linter.unusedSectionVars false
set_option linter.deprecated false
namespace Go.Mw
open Go.Proofs
open Go.Bk
attribute [local go_sem] decide_true beq_self_eq_true bne_self_eq_false
theorem JBG {α:Type}{p:α→Bool}(l:List α):l.any (fun s=>!p s) = !l.all p:=by rw [List.not_all_eq_any_not]
def JBU (l:List Int)(k:Nat):Prop:=∀i,i+1<k→l.getD i 0<l.getD (i+1) 0
theorem JNm:∀(l:List Int),JBU l l.length→Yr l=true
 |[],_=>rfl
 |[_],_=>rfl
 |a::b::l,h=>by
  have h0:a<b:=h 0 (by simp)
  have h1:JBU (b::l) (b::l).length:=fun i hi=>h (i+1) (by simp at hi ⊢;omega)
  simp only [Yr,decide_eq_true h0,JNm (b::l) h1,Bool.and_true]
theorem JNn:∀(l:List Int),Yr l=true→∀i,i+1<l.length→l.getD i 0<l.getD (i+1) 0
 |[],_,i,hi=>by simp at hi
 |[_],_,i,hi=>by simp at hi
 |a::b::l,h,0,_=>by simp only [Yr,Bool.and_eq_true,decide_eq_true_eq] at h;exact h.1
 |a::b::l,h,i+1,hi=>by
  simp only [Yr,Bool.and_eq_true] at h
  exact JNn (b::l) h.2 i (by simp at hi ⊢;omega)
theorem JDg {α:Type}{f:α→Int}{l:List α}{k:Nat}{x y:α}(h:JBU (l.map f) k)(hx:l[k]? = some x)(hy:l[k-1]? = some y)(hxy:f y<f x):JBU (l.map f) (k+1):=fun i hi=>by
 by_cases e:i+1<k
 ·exact h i e
 ·have:i+1=k:=by omega
  subst this
  have e1:(l.map f).getD i 0=f y:=by simp [List.getD,show l[i]? = some y from hy]
  have e2:(l.map f).getD (i+1) 0=f x:=by simp [List.getD,hx]
  rw [e1,e2];exact hxy
theorem JDf (l:List Int):JBU l 1:=fun i hi=>absurd hi (by omega)
theorem JJ1 (l:List Int):JBU l 0:=fun i hi=>absurd hi (by omega)
theorem JHq {α:Type}{f:α→Int}{l:List α}{k:Nat}{x y:α}(hk:0<k)(hx:l[k]? = some x)(hy:l[k-1]? = some y)(hxy:¬f y<f x):Yr (l.map f)=false:=by
 rw [←Bool.not_eq_true]
 intro h
 have hl:=(List.getElem?_eq_some_iff.1 hx).1
 have:=JNn _ h (k-1) ZS
 rw [show k-1+1=k by omega] at this
 have e1:(l.map f).getD (k-1) 0=f y:=by simp [List.getD,hy]
 have e2:(l.map f).getD k 0=f x:=by simp [List.getD,hx]
 rw [e1,e2] at this
 exact hxy this
theorem JHp {α:Type}{f:α→Int}{l:List α}{k:Nat}(h:JBU (l.map f) k)(hk:l.length≤k):Yr (l.map f)=true:=JNm _ fun i hi=>h i (by simp at hi;omega)
theorem JFE {n most:Nat}(ok rise:Bool)(h:most<n):JAE n most ok rise=3:=if_pos h
theorem JDM {n most:Nat}(rise:Bool)(h:n≤most):JAE n most false rise=1:=by unfold JAE;rw [if_neg (by omega)];rfl
theorem JG8 {n most:Nat}(h:n≤most):JAE n most true false=7:=by unfold JAE;rw [if_neg (by omega)];rfl
theorem JG7 {n most:Nat}(h:n≤most):JAE n most true true=0:=by unfold JAE;rw [if_neg (by omega)];rfl
theorem JOO:∀(l:List Int),(∀i,i+1<l.length→l.getD i 0≤l.getD (i+1) 0)→ZE l=true
 |[],_=>rfl
 |[_],_=>rfl
 |a::b::l,h=>by
  have h0:a≤b:=h 0 (by simp)
  have h1:∀i,i+1<(b::l).length→(b::l).getD i 0≤(b::l).getD (i+1) 0:=fun i hi=>h (i+1) (by simp at hi ⊢;omega)
  simp only [ZE,decide_eq_true h0,JOO (b::l) h1,Bool.and_true]
theorem JOR:∀(l:List Int),ZE l=true→∀i,i+1<l.length→l.getD i 0≤l.getD (i+1) 0
 |[],_,i,hi=>by simp at hi
 |[_],_,i,hi=>by simp at hi
 |a::b::l,h,0,_=>by simp only [ZE,Bool.and_eq_true,decide_eq_true_eq] at h;exact h.1
 |a::b::l,h,i+1,hi=>by
  simp only [ZE,Bool.and_eq_true] at h
  exact JOR (b::l) h.2 i (by simp at hi ⊢;omega)
theorem JHN {l:List Int}{i:Nat}{x:Int}(h:l[i]? = some x):l.getD i 0=x:=by simp [List.getD,h]
theorem JPo {g:FuncId}{ds:List D}(p:Int→Bool)(hg:JO Tryz.prog g=true)(l:List Int)(hl:l.length≤100000)(hp:∀s,s∈l→Jb Tryz.prog g (.int s::ds.map fun x=>.leaf (.d x)) (.bool (p s)) []):Jb Tryz.prog 173 [.leaf (.d (.sl 1 (l.map Qy))),.leaf (.d (.fn g ds))] (.int (JCG (l.findIdx? p))) []:=by
 refine Js Jf Tryz.func173 rfl (by simp only [List.length_cons,List.length_nil,Tryz.ntmps173];omega) JJ rfl ?_
 refine JB.reg ?_
 refine JA.o ?_
 refine JA.nil (JB.assocS (JB.reg ?_))
 iterate 3 (refine JA.o ?_)
 refine JA.nil (JB.blk ?_)
 refine JB.forA [0,1,7,8] [] (l.length) (fun k=>[.slot 8 (.int k)]) (fun k=>(l.take k).any p=false) (fun k=>by simp only [go_sem]<;>rfl) JD ?_ (fun k hk hX=>?_)
 ·rfl
 ·skip
  refine JB.reg ?_
  refine JA.o ?_
  refine JA.nil ?_
  refine JB.cndS JD (fun hb9=>?_) (fun hb9=>?_)
  ·skip
   have hlt:=Yk hb9
   obtain ⟨s,hs⟩:=Yj hb9
   refine JB.skipS (JB.blk (JB.reg ?_))
   have X:=Fx.mk hs
   iterate 2 (refine JA.o1 JC ?_)
   refine JA.nil (JB.reg ?_)
   iterate 3 (refine JA.o1 JC ?_)
   refine JA.o1 QE ?_
   refine JA.o1 JC ?_
   refine JA.calw JD (hp s (List.mem_of_getElem? hs)) (by assumption) JC JC V87 (YX) JC ?_
   refine JA.nil ?_
   refine JB.cnd JC (fun hb16=>?_) (fun hb16=>?_)
   ·skip
    have hr:=JFa hX hs hb16
    refine JB.reg ?_
    have X:=X.a hr
    iterate 2 (refine JA.o1 Zf ?_)
    refine JA.nil (JR.ret (JU.ret (JR.ret ?_)))
    exact Ends.fin [] (rs:=[.tmp 4]) rfl Zf JBe
   ·skip
    refine JR.nrm (JB.reg1 ?_)
    refine JA.o1 Jv ?_
    refine JA.o1 JC ?_
    refine JA.nil ?_
    refine JU.nxt ?_ ?_ ?_
    ·omega
    ·exact JN.kp [0,1,7,8] [] ZA
    ·exact JE3 hX hs hb16
  ·skip
   have hr:=JFb hX (Yo hb9)
   refine JB.exitS (JU.ext (JR.hit (JB.reg ?_)))
   have X:=Fx.mk hr
   refine JA.o1 Zf ?_
   refine JA.nil ?_
   exact Ends.fin [] (rs:=[.tmp 4]) rfl Zf JBe
theorem JPj {g:FuncId}{ds:List D}(p:Int→Bool)(hg:JO Tryz.prog g=true)(l:List Int)(hl:l.length≤100000)(hp:∀s,s∈l→Jb Tryz.prog g (.int s::ds.map fun x=>.leaf (.d x)) (.bool (p s)) []):Jb Tryz.prog 143 [.leaf (.d (.sl 1 (l.map Qy))),.leaf (.d (.fn g ds))] (.bool (l.any p)) []:=by
 refine Js Jf Tryz.func143 rfl (by simp only [List.length_cons,List.length_nil,Tryz.ntmps143];omega) JJ rfl ?_
 refine JB.reg ?_
 refine JA.o1 Yg ?_
 refine JA.nil (JB.reg ?_)
 iterate 2 (refine JA.o1 Yg ?_)
 refine JA.c1 (JPo p hg l hl hp) Yg Yg ?_
 iterate 2 (refine JA.o1 Yg ?_)
 refine JA.nil ?_
 exact Ends.fin [] (rs:=[.tmp 4]) rfl Yg JEt
theorem JPs {g:FuncId}{ds:List D}(p:Tr→Bool)(hg:JO Tryz.prog g=true)(l:List Tr)(hl:l.length≤100000)(hp:∀s,s∈l→Jb Tryz.prog g (trV s::ds.map fun x=>.leaf (.d x)) (.bool (p s)) []):Jb Tryz.prog 193 [.leaf (.d (.sl 3 (l.map JFD))),.leaf (.d (.fn g ds))] (.int (JCG (l.findIdx? p))) []:=by
 refine Js Jf Tryz.func193 rfl (by simp only [List.length_cons,List.length_nil,Tryz.ntmps193];omega) JJ rfl ?_
 refine JB.reg ?_
 refine JA.o ?_
 refine JA.nil (JB.assocS (JB.reg ?_))
 iterate 3 (refine JA.o ?_)
 refine JA.nil (JB.blk ?_)
 refine JB.forA [0,1,7,8] [] (l.length) (fun k=>[.slot 8 (.int k)]) (fun k=>(l.take k).any p=false) (fun k=>by simp only [go_sem]<;>rfl) JD ?_ (fun k hk hX=>?_)
 ·rfl
 ·skip
  refine JB.reg ?_
  refine JA.o ?_
  refine JA.nil ?_
  refine JB.cndS JD (fun hb9=>?_) (fun hb9=>?_)
  ·skip
   have hlt:=Yk hb9
   obtain ⟨s,hs⟩:=Yj hb9
   refine JB.skipS (JB.blk (JB.reg ?_))
   have X:=Fx.mk hs
   iterate 2 (refine JA.o1 JC ?_)
   refine JA.nil (JB.reg ?_)
   iterate 3 (refine JA.o1 JC ?_)
   refine JA.o1 QE ?_
   refine JA.o1 JC ?_
   refine JA.calw JD (hp s (List.mem_of_getElem? hs)) (by assumption) JC JC V87 (YX) JC ?_
   refine JA.nil ?_
   refine JB.cnd JC (fun hb16=>?_) (fun hb16=>?_)
   ·skip
    have hr:=JFa hX hs hb16
    refine JB.reg ?_
    have X:=X.a hr
    iterate 2 (refine JA.o1 Zf ?_)
    refine JA.nil (JR.ret (JU.ret (JR.ret ?_)))
    exact Ends.fin [] (rs:=[.tmp 4]) rfl Zf JBe
   ·skip
    refine JR.nrm (JB.reg1 ?_)
    refine JA.o1 Jv ?_
    refine JA.o1 JC ?_
    refine JA.nil ?_
    refine JU.nxt ?_ ?_ ?_
    ·omega
    ·exact JN.kp [0,1,7,8] [] ZA
    ·exact JE3 hX hs hb16
  ·skip
   have hr:=JFb hX (Yo hb9)
   refine JB.exitS (JU.ext (JR.hit (JB.reg ?_)))
   have X:=Fx.mk hr
   refine JA.o1 Zf ?_
   refine JA.nil ?_
   exact Ends.fin [] (rs:=[.tmp 4]) rfl Zf JBe
theorem JPn {g:FuncId}{ds:List D}(p:Tr→Bool)(hg:JO Tryz.prog g=true)(l:List Tr)(hl:l.length≤100000)(hp:∀s,s∈l→Jb Tryz.prog g (trV s::ds.map fun x=>.leaf (.d x)) (.bool (p s)) []):Jb Tryz.prog 163 [.leaf (.d (.sl 3 (l.map JFD))),.leaf (.d (.fn g ds))] (.bool (l.any p)) []:=by
 refine Js Jf Tryz.func163 rfl (by simp only [List.length_cons,List.length_nil,Tryz.ntmps163];omega) JJ rfl ?_
 refine JB.reg ?_
 refine JA.o1 Yg ?_
 refine JA.nil (JB.reg ?_)
 iterate 2 (refine JA.o1 Yg ?_)
 refine JA.c1 (JPs p hg l hl hp) Yg Yg ?_
 iterate 2 (refine JA.o1 Yg ?_)
 refine JA.nil ?_
 exact Ends.fin [] (rs:=[.tmp 4]) rfl Yg JEt
theorem JPr {g:FuncId}{ds:List D}(p:Sh→Bool)(hg:JO Tryz.prog g=true)(l:List Sh)(hl:l.length≤100000)(hp:∀s,s∈l→Jb Tryz.prog g (shV s::ds.map fun x=>.leaf (.d x)) (.bool (p s)) []):Jb Tryz.prog 192 [.leaf (.d (.sl 2 (l.map JBn))),.leaf (.d (.fn g ds))] (.int (JCG (l.findIdx? p))) []:=by
 refine Js Jf Tryz.func192 rfl (by simp only [List.length_cons,List.length_nil,Tryz.ntmps192];omega) JJ rfl ?_
 refine JB.reg ?_
 refine JA.o ?_
 refine JA.nil (JB.assocS (JB.reg ?_))
 iterate 3 (refine JA.o ?_)
 refine JA.nil (JB.blk ?_)
 refine JB.forA [0,1,7,8] [] (l.length) (fun k=>[.slot 8 (.int k)]) (fun k=>(l.take k).any p=false) (fun k=>by simp only [go_sem]<;>rfl) JD ?_ (fun k hk hX=>?_)
 ·rfl
 ·skip
  refine JB.reg ?_
  refine JA.o ?_
  refine JA.nil ?_
  refine JB.cndS JD (fun hb9=>?_) (fun hb9=>?_)
  ·skip
   have hlt:=Yk hb9
   obtain ⟨s,hs⟩:=Yj hb9
   refine JB.skipS (JB.blk (JB.reg ?_))
   have X:=Fx.mk hs
   iterate 2 (refine JA.o1 JC ?_)
   refine JA.nil (JB.reg ?_)
   iterate 3 (refine JA.o1 JC ?_)
   refine JA.o1 QE ?_
   refine JA.o1 JC ?_
   refine JA.calw JD (hp s (List.mem_of_getElem? hs)) (by assumption) JC JC V87 (YX) JC ?_
   refine JA.nil ?_
   refine JB.cnd JC (fun hb16=>?_) (fun hb16=>?_)
   ·skip
    have hr:=JFa hX hs hb16
    refine JB.reg ?_
    have X:=X.a hr
    iterate 2 (refine JA.o1 Zf ?_)
    refine JA.nil (JR.ret (JU.ret (JR.ret ?_)))
    exact Ends.fin [] (rs:=[.tmp 4]) rfl Zf JBe
   ·skip
    refine JR.nrm (JB.reg1 ?_)
    refine JA.o1 Jv ?_
    refine JA.o1 JC ?_
    refine JA.nil ?_
    refine JU.nxt ?_ ?_ ?_
    ·omega
    ·exact JN.kp [0,1,7,8] [] ZA
    ·exact JE3 hX hs hb16
  ·skip
   have hr:=JFb hX (Yo hb9)
   refine JB.exitS (JU.ext (JR.hit (JB.reg ?_)))
   have X:=Fx.mk hr
   refine JA.o1 Zf ?_
   refine JA.nil ?_
   exact Ends.fin [] (rs:=[.tmp 4]) rfl Zf JBe
theorem JPm {g:FuncId}{ds:List D}(p:Sh→Bool)(hg:JO Tryz.prog g=true)(l:List Sh)(hl:l.length≤100000)(hp:∀s,s∈l→Jb Tryz.prog g (shV s::ds.map fun x=>.leaf (.d x)) (.bool (p s)) []):Jb Tryz.prog 160 [.leaf (.d (.sl 2 (l.map JBn))),.leaf (.d (.fn g ds))] (.bool (l.any p)) []:=by
 refine Js Jf Tryz.func160 rfl (by simp only [List.length_cons,List.length_nil,Tryz.ntmps160];omega) JJ rfl ?_
 refine JB.reg ?_
 refine JA.o1 Yg ?_
 refine JA.nil (JB.reg ?_)
 iterate 2 (refine JA.o1 Yg ?_)
 refine JA.c1 (JPr p hg l hl hp) Yg Yg ?_
 iterate 2 (refine JA.o1 Yg ?_)
 refine JA.nil ?_
 exact Ends.fin [] (rs:=[.tmp 4]) rfl Yg JEt
theorem JPq {g:FuncId}{ds:List D}(p:Pl→Bool)(hg:JO Tryz.prog g=true)(l:List Pl)(hl:l.length≤100000)(hp:∀s,s∈l→Jb Tryz.prog g (plV s::ds.map fun x=>.leaf (.d x)) (.bool (p s)) []):Jb Tryz.prog 186 [.leaf (.d (.sl 3 (l.map Y7))),.leaf (.d (.fn g ds))] (.int (JCG (l.findIdx? p))) []:=by
 refine Js Jf Tryz.func186 rfl (by simp only [List.length_cons,List.length_nil,Tryz.ntmps186];omega) JJ rfl ?_
 refine JB.reg ?_
 refine JA.o ?_
 refine JA.nil (JB.assocS (JB.reg ?_))
 iterate 3 (refine JA.o ?_)
 refine JA.nil (JB.blk ?_)
 refine JB.forA [0,1,7,8] [] (l.length) (fun k=>[.slot 8 (.int k)]) (fun k=>(l.take k).any p=false) (fun k=>by simp only [go_sem]<;>rfl) JD ?_ (fun k hk hX=>?_)
 ·rfl
 ·skip
  refine JB.reg ?_
  refine JA.o ?_
  refine JA.nil ?_
  refine JB.cndS JD (fun hb9=>?_) (fun hb9=>?_)
  ·skip
   have hlt:=Yk hb9
   obtain ⟨s,hs⟩:=Yj hb9
   refine JB.skipS (JB.blk (JB.reg ?_))
   have X:=Fx.mk hs
   iterate 2 (refine JA.o1 JC ?_)
   refine JA.nil (JB.reg ?_)
   iterate 3 (refine JA.o1 JC ?_)
   refine JA.o1 QE ?_
   refine JA.o1 JC ?_
   refine JA.calw JD (hp s (List.mem_of_getElem? hs)) (by assumption) JC JC V87 (YX) JC ?_
   refine JA.nil ?_
   refine JB.cnd JC (fun hb16=>?_) (fun hb16=>?_)
   ·skip
    have hr:=JFa hX hs hb16
    refine JB.reg ?_
    have X:=X.a hr
    iterate 2 (refine JA.o1 Zf ?_)
    refine JA.nil (JR.ret (JU.ret (JR.ret ?_)))
    exact Ends.fin [] (rs:=[.tmp 4]) rfl Zf JBe
   ·skip
    refine JR.nrm (JB.reg1 ?_)
    refine JA.o1 Jv ?_
    refine JA.o1 JC ?_
    refine JA.nil ?_
    refine JU.nxt ?_ ?_ ?_
    ·omega
    ·exact JN.kp [0,1,7,8] [] ZA
    ·exact JE3 hX hs hb16
  ·skip
   have hr:=JFb hX (Yo hb9)
   refine JB.exitS (JU.ext (JR.hit (JB.reg ?_)))
   have X:=Fx.mk hr
   refine JA.o1 Zf ?_
   refine JA.nil ?_
   exact Ends.fin [] (rs:=[.tmp 4]) rfl Zf JBe
theorem JPl {g:FuncId}{ds:List D}(p:Pl→Bool)(hg:JO Tryz.prog g=true)(l:List Pl)(hl:l.length≤100000)(hp:∀s,s∈l→Jb Tryz.prog g (plV s::ds.map fun x=>.leaf (.d x)) (.bool (p s)) []):Jb Tryz.prog 154 [.leaf (.d (.sl 3 (l.map Y7))),.leaf (.d (.fn g ds))] (.bool (l.any p)) []:=by
 refine Js Jf Tryz.func154 rfl (by simp only [List.length_cons,List.length_nil,Tryz.ntmps154];omega) JJ rfl ?_
 refine JB.reg ?_
 refine JA.o1 Yg ?_
 refine JA.nil (JB.reg ?_)
 iterate 2 (refine JA.o1 Yg ?_)
 refine JA.c1 (JPq p hg l hl hp) Yg Yg ?_
 iterate 2 (refine JA.o1 Yg ?_)
 refine JA.nil ?_
 exact Ends.fin [] (rs:=[.tmp 4]) rfl Yg JEt
theorem JPp {g:FuncId}{ds:List D}(p:Pg→Bool)(hg:JO Tryz.prog g=true)(l:List Pg)(hl:l.length≤100000)(hp:∀s,s∈l→Jb Tryz.prog g (pgV s::ds.map fun x=>.leaf (.d x)) (.bool (p s)) []):Jb Tryz.prog 172 [.leaf (.d (.sl 2 (l.map Yx))),.leaf (.d (.fn g ds))] (.int (JCG (l.findIdx? p))) []:=by
 refine Js Jf Tryz.func172 rfl (by simp only [List.length_cons,List.length_nil,Tryz.ntmps172];omega) JJ rfl ?_
 refine JB.reg ?_
 refine JA.o ?_
 refine JA.nil (JB.assocS (JB.reg ?_))
 iterate 3 (refine JA.o ?_)
 refine JA.nil (JB.blk ?_)
 refine JB.forA [0,1,7,8] [] (l.length) (fun k=>[.slot 8 (.int k)]) (fun k=>(l.take k).any p=false) (fun k=>by simp only [go_sem]<;>rfl) JD ?_ (fun k hk hX=>?_)
 ·rfl
 ·skip
  refine JB.reg ?_
  refine JA.o ?_
  refine JA.nil ?_
  refine JB.cndS JD (fun hb9=>?_) (fun hb9=>?_)
  ·skip
   have hlt:=Yk hb9
   obtain ⟨s,hs⟩:=Yj hb9
   refine JB.skipS (JB.blk (JB.reg ?_))
   have X:=Fx.mk hs
   iterate 2 (refine JA.o1 JC ?_)
   refine JA.nil (JB.reg ?_)
   iterate 3 (refine JA.o1 JC ?_)
   refine JA.o1 QE ?_
   refine JA.o1 JC ?_
   refine JA.calw JD (hp s (List.mem_of_getElem? hs)) (by assumption) JC JC V87 (YX) JC ?_
   refine JA.nil ?_
   refine JB.cnd JC (fun hb16=>?_) (fun hb16=>?_)
   ·skip
    have hr:=JFa hX hs hb16
    refine JB.reg ?_
    have X:=X.a hr
    iterate 2 (refine JA.o1 Zf ?_)
    refine JA.nil (JR.ret (JU.ret (JR.ret ?_)))
    exact Ends.fin [] (rs:=[.tmp 4]) rfl Zf JBe
   ·skip
    refine JR.nrm (JB.reg1 ?_)
    refine JA.o1 Jv ?_
    refine JA.o1 JC ?_
    refine JA.nil ?_
    refine JU.nxt ?_ ?_ ?_
    ·omega
    ·exact JN.kp [0,1,7,8] [] ZA
    ·exact JE3 hX hs hb16
  ·skip
   have hr:=JFb hX (Yo hb9)
   refine JB.exitS (JU.ext (JR.hit (JB.reg ?_)))
   have X:=Fx.mk hr
   refine JA.o1 Zf ?_
   refine JA.nil ?_
   exact Ends.fin [] (rs:=[.tmp 4]) rfl Zf JBe
theorem JPk {g:FuncId}{ds:List D}(p:Pg→Bool)(hg:JO Tryz.prog g=true)(l:List Pg)(hl:l.length≤100000)(hp:∀s,s∈l→Jb Tryz.prog g (pgV s::ds.map fun x=>.leaf (.d x)) (.bool (p s)) []):Jb Tryz.prog 139 [.leaf (.d (.sl 2 (l.map Yx))),.leaf (.d (.fn g ds))] (.bool (l.any p)) []:=by
 refine Js Jf Tryz.func139 rfl (by simp only [List.length_cons,List.length_nil,Tryz.ntmps139];omega) JJ rfl ?_
 refine JB.reg ?_
 refine JA.o1 Yg ?_
 refine JA.nil (JB.reg ?_)
 iterate 2 (refine JA.o1 Yg ?_)
 refine JA.c1 (JPp p hg l hl hp) Yg Yg ?_
 iterate 2 (refine JA.o1 Yg ?_)
 refine JA.nil ?_
 exact Ends.fin [] (rs:=[.tmp 4]) rfl Yg JEt
theorem JQU (t:Tr):Jb Tryz.prog 162 [trV t] (.bool (!JA9 t)) []:=by
 refine Js Jf Tryz.func162 rfl (by simp only [List.length_cons,List.length_nil,Tryz.ntmps162];omega) JJ rfl ?_
 refine JB.reg ?_
 iterate 2 (refine JA.o1 Z9 ?_)
 refine JA.nil (JB.reg ?_)
 iterate 2 (refine JA.o1 Z9 ?_)
 refine JA.c1 (JBI _ _ _) Z9 Z9 ?_
 iterate 2 (refine JA.o1 Z9 ?_)
 iterate 2 (refine JA.gop JD Z9 JD ?_)
 refine JA.gcal JD (JBI _ _ _) JY Z9 V24 Z9 ?_
 refine JA.gop JD Z9 JD ?_
 iterate 2 (refine JA.o1 Z9 ?_)
 iterate 2 (refine JA.gop JD Z9 JD ?_)
 refine JA.gcal JD (JBI _ _ _) JY Z9 V24 Z9 ?_
 refine JA.gop JD Z9 JD ?_
 iterate 2 (refine JA.o1 Z9 ?_)
 refine JA.nil ?_
 exact Ends.fin [] (rs:=[.tmp 2]) rfl Z9 (by simp only [go_sem,JA9,Bool.not_and]<;>first|rfl|exact QP)
theorem JQT (x:Sh)(h:x.tries.length≤1000):Jb Tryz.prog 129 [shV x] (.bool (JAO x)) []:=by
 have hle:decide ((x.tries.length:Int)≤6)=decide (x.tries.length≤6):=by rw [decide_eq_decide];omega
 refine Js Jf Tryz.func129 rfl (by simp only [List.length_cons,List.length_nil,Tryz.ntmps129];omega) JJ rfl ?_
 refine JB.reg ?_
 have X:=Fx.mk hle
 iterate 2 (refine JA.o1 JAP ?_)
 refine JA.nil (JB.reg ?_)
 refine JA.o1 JAP ?_
 refine JA.nil (JB.reg ?_)
 iterate 2 (refine JA.o1 JAP ?_)
 refine JA.c1 (JBI _ _ _) JAP JAP ?_
 refine JA.o1 JAP ?_
 iterate 4 (refine JA.gop JD JAP JD ?_)
 iterate 2 (refine JA.o1 JAP ?_)
 iterate 3 (refine JA.gop JD JAP JD ?_)
 refine JA.gcal JD (JPn (fun t=>!JA9 t) (ds:=[]) JY x.tries (by omega) (fun t _=>JQU t)) JY JAP V30 JAP ?_
 refine JA.gop JD JAP JD ?_
 iterate 2 (refine JA.o1 JAP ?_)
 refine JA.nil ?_
 exact Ends.fin [] (rs:=[.tmp 2]) rfl JAP (by simp only [go_sem,X.h,JAO,JBG,Bool.not_not]<;>first|rfl|exact QP)
theorem JQS (x:Pl):Jb Tryz.prog 119 [plV x] (.bool (JAH x)) []:=by
 refine Js Jf Tryz.func119 rfl (by simp only [List.length_cons,List.length_nil,Tryz.ntmps119];omega) JJ rfl ?_
 refine JB.reg ?_
 iterate 2 (refine JA.o1 JAS ?_)
 refine JA.nil (JB.reg ?_)
 iterate 2 (refine JA.o1 JAS ?_)
 refine JA.c1 (JBI _ _ _) JAS JAS ?_
 refine JA.o1 JAS ?_
 iterate 2 (refine JA.gop JD JAS JD ?_)
 refine JA.gcal JD (JBI _ _ _) JY JAS V24 JAS ?_
 iterate 2 (refine JA.o1 JAS ?_)
 iterate 2 (refine JA.gop JD JAS JD ?_)
 refine JA.gcal JD (JBI _ _ _) JY JAS V24 JAS ?_
 iterate 2 (refine JA.o1 JAS ?_)
 refine JA.nil ?_
 exact Ends.fin [] (rs:=[.tmp 2]) rfl JAS (by simp only [go_sem,JAH]<;>first|rfl|exact QP)
theorem JQR (n:Int):Jb Tryz.prog 141 [.int n] (.bool (!Ys n 0 1073741824)) []:=by
 refine Js Jf Tryz.func141 rfl (by simp only [List.length_cons,List.length_nil,Tryz.ntmps141];omega) JJ rfl ?_
 refine JB.reg ?_
 refine JA.o ?_
 refine JA.nil (JB.reg ?_)
 refine JA.o ?_
 refine JA.c1 (JBI _ _ _) JD JD ?_
 iterate 2 (refine JA.o ?_)
 refine JA.nil ?_
 exact Ends.fin [] (rs:=[.tmp 2]) rfl JD ZB
theorem JLV (n:Int):Jb Tryz.prog 153 [.int n] (.bool false) []:=by
 refine Js Jf Tryz.func153 rfl (by simp only [List.length_cons,List.length_nil,Tryz.ntmps153];omega) JJ rfl ?_
 refine JB.reg ?_
 refine JA.o ?_
 refine JA.nil (JB.reg ?_)
 iterate 4 (refine JA.o ?_)
 refine JA.nil ?_
 exact Ends.fin [] (rs:=[.tmp 2]) rfl JD ZB
theorem JPx (n m:Int):Jb Tryz.prog 174 [.int n,.int m] (.bool (decide (n<m))) []:=by
 refine Js Jf Tryz.func174 rfl (by simp only [List.length_cons,List.length_nil,Tryz.ntmps174];omega) JJ rfl ?_
 refine JB.reg ?_
 refine JA.o ?_
 refine JA.nil (JB.reg ?_)
 refine JA.o ?_
 refine JA.c1 (JLV _) JD JD ?_
 refine JA.o ?_
 refine JA.gop JD JD JD ?_
 refine JA.gcal JD (JLV _) JY JD Qc JD ?_
 refine JA.gop JD JD JD ?_
 iterate 2 (refine JA.o ?_)
 iterate 3 (refine JA.gop JD JD JD ?_)
 iterate 2 (refine JA.o ?_)
 refine JA.nil ?_
 exact Ends.fin [] (rs:=[.tmp 4]) rfl JD ZB
theorem JPt (l:List Int)(hl:l.length≤1000):Jb Tryz.prog 144 [.leaf (.d (Qz l))] (.bool (ZE l)) []:=by
 have h64:IntKind.i64.wrap ((l.length:Int)-1)=(l.length:Int)-1:=IntWalk.i64_in _ (by omega)
 have hz0:(l.length:Int)-1-((0:Nat):Int)=(l.length:Int)-1:=by omega
 refine Js Jf Tryz.func144 rfl (by simp only [List.length_cons,List.length_nil,Tryz.ntmps144];omega) JJ rfl ?_
 refine JB.reg ?_
 have X:=Fx.mk h64
 refine JA.o1 JC ?_
 refine JA.nil (JB.assocS (JB.reg ?_))
 iterate 2 (refine JA.o1 JC ?_)
 refine JA.o1 Jv ?_
 refine JA.o1 JC ?_
 refine JA.nil (JB.blk ?_)
 have X:=X.a hz0
 refine JB.forA [0,3] [] (l.length-1) (fun k=>[.slot 3 (.int ((l.length:Int)-1-k))]) (fun k=>∀i,l.length≤i+1+k→i+1<l.length→l.getD i 0≤l.getD (i+1) 0) (fun k=>by simp only [go_sem]<;>rfl) JC ?_ (fun k hk hX=>?_)
 ·exact fun i h1 h2=>absurd h1 (by omega)
 ·skip
  refine JB.assocS (JB.reg ?_)
  have X:=Fx.mk h64
  iterate 2 (refine JA.o1 JC ?_)
  refine JA.nil ?_
  refine JB.cndS JC (fun hb8=>?_) (fun hb8=>?_)
  ·skip
   have hgt:0<l.length-1-k:=by have:=of_decide_eq_true hb8;omega
   obtain ⟨x,hx⟩:∃x,l[l.length-1-k]? = some x:=⟨_,List.getElem?_eq_getElem (by omega)⟩
   obtain ⟨y,hy⟩:∃y,l[l.length-1-k-1]? = some y:=⟨_,List.getElem?_eq_getElem (by omega)⟩
   have t1:((l.length:Int)-1-(k:Int)).toNat=l.length-1-k:=by omega
   have w2:IntKind.i64.wrap ((l.length:Int)-1-(k:Int)-1)=(l.length:Int)-1-(k:Int)-1:=IntWalk.i64_in _ (by omega)
   have t2:((l.length:Int)-1-(k:Int)-1).toNat=l.length-1-k-1:=by omega
   have e3:(l.length:Int)-1-((k+1:Nat):Int)=(l.length:Int)-1-(k:Int)-1:=by omega
   refine JB.skipS (JB.blk ?_)
   refine JB.opk 12 ?_
   have X:=(((((X.a t1).a w2).a t2).a hx).a hy).a e3
   iterate 2 (refine JF.o1 JC ?_)
   refine JF.o1 QE ?_
   iterate 3 (refine JF.o1 JC ?_)
   refine JF.o1 Jv ?_
   refine JF.o1 QE ?_
   refine JF.o1 JC ?_
   refine JF.cal (JPx x y) JY JC V30 (YX) JC JD JD ?_
   refine JF.nil (QO.fin QZ QZ ?_)
   refine JB.cnd JC (fun hb20=>?_) (fun hb20=>?_)
   ·skip
    have hr:ZE l=false:=by
     rw [←Bool.not_eq_true]
     intro h
     have:=JOR l h (l.length-1-k-1) (by omega)
     rw [show l.length-1-k-1+1=l.length-1-k by omega,JHN hx,JHN hy] at this
     have:=of_decide_eq_true hb20
     omega
    refine JB.reg ?_
    have X:=X.a hr
    refine JA.o1 JC ?_
    refine JA.nil (JR.ret (JU.ret (JR.ret ?_)))
    exact Ends.fin [] (rs:=[.tmp 2]) rfl JC Qs
   ·skip
    refine JR.nrm (JB.reg1 ?_)
    refine JA.o1 JC ?_
    refine JA.o1 Jv ?_
    refine JA.o1 JC ?_
    refine JA.nil ?_
    refine JU.nxt ?_ ?_ ?_
    ·omega
    ·exact JN.kp [0,3] [] ZA
    ·exact fun i h1 h2=>if e:i+1=l.length-1-k then (by rw [show i=l.length-1-k-1 by omega,show l.length-1-k-1+1=l.length-1-k by omega,JHN hx,JHN hy];have:=of_decide_eq_false hb20;omega) else hX i (by omega) h2
  ·skip
   have hr:ZE l=true:=JOO l fun i hi=>hX i (by have:=of_decide_eq_false hb8;omega) hi
   refine JB.exitS (JU.ext (JR.hit (JB.reg ?_)))
   have X:=X.a hr
   refine JA.o1 JC ?_
   refine JA.nil ?_
   exact Ends.fin [] (rs:=[.tmp 2]) rfl JC Qs
theorem JQQ (x:Pg)(h:x.reads.length≤1000):Jb Tryz.prog 100 [pgV x] (.bool (YT x)) []:=by
 have hle:decide ((x.reads.length:Int)≤16)=decide (x.reads.length≤16):=by rw [decide_eq_decide];omega
 refine Js Jf Tryz.func100 rfl (by simp only [List.length_cons,List.length_nil,Tryz.ntmps100];omega) JJ rfl ?_
 refine JB.reg ?_
 have X:=Fx.mk hle
 iterate 2 (refine JA.o1 Zr ?_)
 refine JA.nil (JB.reg ?_)
 refine JA.o1 Zr ?_
 refine JA.nil (JB.reg ?_)
 iterate 2 (refine JA.o1 Zr ?_)
 refine JA.c1 (JBI _ _ _) Zr Zr ?_
 refine JA.o1 Zr ?_
 iterate 4 (refine JA.gop JD Zr JD ?_)
 iterate 2 (refine JA.o1 Zr ?_)
 iterate 3 (refine JA.gop JD Zr JD ?_)
 refine JA.gcal JD (JPj (fun n=>!Ys n 0 1073741824) (ds:=[]) JY x.reads (by omega) (fun n _=>JQR n)) JY Zr V30 Zr ?_
 refine JA.gop JD Zr JD ?_
 iterate 2 (refine JA.o1 Zr ?_)
 iterate 2 (refine JA.gop JD Zr JD ?_)
 refine JA.gcal JD (JPt x.reads h) JY Zr Qc Zr ?_
 iterate 2 (refine JA.o1 Zr ?_)
 refine JA.nil ?_
 exact Ends.fin [] (rs:=[.tmp 2]) rfl Zr (by simp only [go_sem,X.h,YT,JBG,Bool.not_not]<;>first|rfl|exact QP)
theorem JLY (x:Sh):Jb Tryz.prog 130 [shV x] (.int x.meter) []:=by
 refine Js Jf Tryz.func130 rfl (by simp only [List.length_cons,List.length_nil,Tryz.ntmps130];omega) JJ rfl ?_
 refine JB.reg ?_
 iterate 2 (refine JA.o ?_)
 refine JA.nil (JB.reg ?_)
 iterate 3 (refine JA.o ?_)
 refine JA.nil ?_
 exact Ends.fin [] (rs:=[.tmp 2]) rfl JD ZB
theorem JQC (x:Sh)(h:x.tries.length≤1000):Jb Tryz.prog 161 [shV x,.leaf (.d (.pt [.fn 129 []]))] (.bool (!JAO x)) []:=by
 refine Js Jf Tryz.func161 rfl (by simp only [List.length_cons,List.length_nil,Tryz.ntmps161];omega) JJ rfl ?_
 refine JB.reg ?_
 iterate 2 (refine JA.o ?_)
 refine JA.nil (JB.reg ?_)
 iterate 2 (refine JA.o ?_)
 refine JA.calw JD (JQT x h) JY JD JD Qc (YX) JD ?_
 iterate 2 (refine JA.o ?_)
 refine JA.nil ?_
 exact Ends.fin [] (rs:=[.tmp 3]) rfl JD ZB
theorem JQG (l:List Sh)(most:Nat)(hl:l.length≤1000)(hm:most≤1000)(hz:∀x∈l,x.tries.length≤1000):Jb Tryz.prog 128 [.leaf (.d (Z6 l)),.int most,.leaf (.d (.fn 129 [])),.leaf (.d (.fn 130 []))] (.int (JAE l.length most (l.all JAO) (Yr (l.map Sh.meter)))) []:=by
 refine Js Jf Tryz.func128 rfl (by simp only [List.length_cons,List.length_nil,Tryz.ntmps128];omega) JJ rfl ?_
 refine JB.reg ?_
 iterate 2 (refine JA.o1 YP ?_)
 refine JA.nil (JB.blk (JB.reg ?_))
 iterate 5 (refine JA.o1 YP ?_)
 refine JA.nil ?_
 refine JB.cnd YP (fun hb10=>?_) (fun hb10=>?_)
 ·skip
  have hgt:most<l.length:=by have:=of_decide_eq_true hb10;omega
  have hr:=JFE (l.all JAO) (Yr (l.map Sh.meter)) hgt
  refine JB.reg ?_
  have X:=Fx.mk hr
  refine JA.o1 J2 ?_
  refine JA.nil (JR.ret ?_)
  exact Ends.fin [] (rs:=[.tmp 8]) rfl J2 V95
 ·skip
  have hle:l.length≤most:=by have:=of_decide_eq_false hb10;omega
  refine JB.reg ?_
  refine JA.frz 6 JD ?_
  iterate 2 (refine JA.o1 YP ?_)
  refine JA.frz 17 JD ?_
  refine JA.c1 (JPm (fun x=>!JAO x) (ds:=[.pt [.fn 129 []]]) JY l (by omega) (fun x hx=>JQC x (hz x hx))) YP YP ?_
  refine JA.o1 YP ?_
  refine JA.nil ?_
  refine JB.cnd YP (fun hb15=>?_) (fun hb15=>?_)
  ·skip
   have hno:l.all JAO=false:=by simpa using hb15
   have hr:=JDM (Yr (l.map Sh.meter)) hle
   refine JB.reg ?_
   have X:=(Fx.mk hno).a hr
   refine JA.o1 J2 ?_
   refine JA.nil (JR.ret ?_)
   exact Ends.fin [] (rs:=[.tmp 8]) rfl J2 V95
  ·skip
   have hyes:l.all JAO=true:=by simpa using hb15
   refine JR.nrm (JB.assocS (JB.reg ?_))
   iterate 3 (refine JA.o1 YP ?_)
   refine JA.nil (JB.blk ?_)
   refine JB.forA [0,3,20,21] [] (l.length) (fun k=>[.slot 21 (.int k)]) (JBU (l.map Sh.meter)) (fun k=>by simp only [go_sem]<;>rfl) YP ?_ (fun k hk hX=>?_)
   ·exact JJ1 _
   ·skip
    refine JB.reg ?_
    refine JA.o1 YP ?_
    refine JA.nil ?_
    refine JB.cndS YP (fun hb22=>?_) (fun hb22=>?_)
    ·skip
     have hlt:=Yk hb22
     obtain ⟨x,hx⟩:=Yj hb22
     refine JB.skipS (JB.blk (JB.reg ?_))
     have X:=Fx.mk hx
     iterate 2 (refine JA.o1 J2 ?_)
     refine JA.nil ?_
     by_cases h0:k=0
     ·skip
      subst h0
      have g1:decide ((0:Int)<((0:Nat):Int))=false:=rfl
      refine JB.opk 20 ?_
      have X:=X.a g1
      iterate 3 (refine JF.o1 J2 ?_)
      iterate 14 (refine JF.s ?_)
      refine JF.o1 J2 ?_
      refine JF.nil (QO.finT JJ JJ JJ ?_)
      refine JB.cnd J2 (fun hb41=>?_) (fun hb41=>?_)
      ·exact absurd hb41 (by simp)
      ·skip
       refine JR.nrm (JB.reg1 ?_)
       refine JA.o1 V56 ?_
       refine JA.o1 J2 ?_
       refine JA.nil ?_
       refine JU.nxt ?_ ?_ ?_
       ·omega
       ·exact JN.kp [0,3,20,21] [] V96
       ·first|exact JDg hX hx hy JDz|exact JDf _
     ·skip
      have g1:decide ((0:Int)<(k:Int))=true:=decide_eq_true (by omega)
      obtain ⟨y,hy⟩:∃y,l[k-1]? = some y:=⟨_,List.getElem?_eq_getElem (by omega)⟩
      have t1:((k:Int)-1).toNat=k-1:=by omega
      refine JB.opk 20 ?_
      have X:=((X.a g1).a hy).a t1
      iterate 3 (refine JF.o1 J2 ?_)
      iterate 3 (refine JF.y1 J2 ?_)
      refine JF.y1 V67 ?_
      refine JF.y1 J2 ?_
      refine JF.calw JD (JLY x) JY J2 J2 Qc (YX) J2 JD JD ?_
      iterate 3 (refine JF.y1 J2 ?_)
      refine JF.y1 V56 ?_
      refine JF.y1 V67 ?_
      refine JF.y1 J2 ?_
      refine JF.calw JD (JLY y) JY J2 J2 Qc (YX) J2 JD JD ?_
      refine JF.y1 J2 ?_
      refine JF.o1 J2 ?_
      refine JF.nil (QO.finT JJ JJ JJ ?_)
      refine JB.cnd J2 (fun hb41=>?_) (fun hb41=>?_)
      ·skip
       have hno:=JHq (f:=Sh.meter) (by omega) hx hy (by have:=of_decide_eq_true hb41;omega)
       have hr:=JG8 hle
       refine JB.reg ?_
       have X:=((X.a hyes).a hno).a hr
       refine JA.o1 J2 ?_
       refine JA.nil (JR.ret (JU.ret (JR.ret ?_)))
       exact Ends.fin [] (rs:=[.tmp 8]) rfl J2 V95
      ·skip
       refine JR.nrm (JB.reg1 ?_)
       refine JA.o1 V56 ?_
       refine JA.o1 J2 ?_
       refine JA.nil ?_
       refine JU.nxt ?_ ?_ ?_
       ·omega
       ·exact JN.kp [0,3,20,21] [] V96
       ·first|exact JDg hX hx hy JDz|exact JDf _
    ·skip
     have hr0:=JHp hX (Yo hb22)
     have hr:=JG7 hle
     refine JB.exitS (JU.ext (JR.hit (JB.reg ?_)))
     have X:=((Fx.mk hyes).a hr0).a hr
     refine JA.o1 J2 ?_
     refine JA.nil ?_
     exact Ends.fin [] (rs:=[.tmp 8]) rfl J2 V95
theorem JQx (l:List Sh)(hl:l.length≤1000)(hz:∀x∈l,x.tries.length≤1000):Jb Tryz.prog 80 [.leaf (.d (Z6 l))] (.int (JC2 l)) []:=by
 refine Js Jf Tryz.func80 rfl (by simp only [List.length_cons,List.length_nil,Tryz.ntmps80];omega) JJ rfl ?_
 refine JB.reg ?_
 refine JA.o1 JD0 ?_
 refine JA.nil (JB.reg ?_)
 refine JA.o1 JD0 ?_
 refine JA.c1 (JQG l 12 hl (by omega) hz) JD0 JD0 ?_
 refine JA.o1 JD0 ?_
 refine JA.nil ?_
 exact Ends.fin [] (rs:=[.tmp 2]) rfl JD0 (by simp only [go_sem,JC2]<;>first|rfl|exact QP)
theorem JLX (x:Pl):Jb Tryz.prog 120 [plV x] (.int x.num) []:=by
 refine Js Jf Tryz.func120 rfl (by simp only [List.length_cons,List.length_nil,Tryz.ntmps120];omega) JJ rfl ?_
 refine JB.reg ?_
 iterate 2 (refine JA.o ?_)
 refine JA.nil (JB.reg ?_)
 iterate 3 (refine JA.o ?_)
 refine JA.nil ?_
 exact Ends.fin [] (rs:=[.tmp 2]) rfl JD ZB
theorem JQB (x:Pl):Jb Tryz.prog 155 [plV x,.leaf (.d (.pt [.fn 119 []]))] (.bool (!JAH x)) []:=by
 refine Js Jf Tryz.func155 rfl (by simp only [List.length_cons,List.length_nil,Tryz.ntmps155];omega) JJ rfl ?_
 refine JB.reg ?_
 iterate 2 (refine JA.o ?_)
 refine JA.nil (JB.reg ?_)
 iterate 2 (refine JA.o ?_)
 refine JA.calw JD (JQS x) JY JD JD Qc (YX) JD ?_
 iterate 2 (refine JA.o ?_)
 refine JA.nil ?_
 exact Ends.fin [] (rs:=[.tmp 3]) rfl JD ZB
theorem JQF (l:List Pl)(most:Nat)(hl:l.length≤1000)(hm:most≤1000)  : Jb Tryz.prog 118 [.leaf (.d (Yu l)),.int most,.leaf (.d (.fn 119 [])),.leaf (.d (.fn 120 []))] (.int (JAE l.length most (l.all JAH) (Yr (l.map Pl.num)))) []:=by
 refine Js Jf Tryz.func118 rfl (by simp only [List.length_cons,List.length_nil,Tryz.ntmps118];omega) JJ rfl ?_
 refine JB.reg ?_
 iterate 2 (refine JA.o1 YP ?_)
 refine JA.nil (JB.blk (JB.reg ?_))
 iterate 5 (refine JA.o1 YP ?_)
 refine JA.nil ?_
 refine JB.cnd YP (fun hb10=>?_) (fun hb10=>?_)
 ·skip
  have hgt:most<l.length:=by have:=of_decide_eq_true hb10;omega
  have hr:=JFE (l.all JAH) (Yr (l.map Pl.num)) hgt
  refine JB.reg ?_
  have X:=Fx.mk hr
  refine JA.o1 J2 ?_
  refine JA.nil (JR.ret ?_)
  exact Ends.fin [] (rs:=[.tmp 8]) rfl J2 V95
 ·skip
  have hle:l.length≤most:=by have:=of_decide_eq_false hb10;omega
  refine JB.reg ?_
  refine JA.frz 6 JD ?_
  iterate 2 (refine JA.o1 YP ?_)
  refine JA.frz 17 JD ?_
  refine JA.c1 (JPl (fun x=>!JAH x) (ds:=[.pt [.fn 119 []]]) JY l (by omega) (fun x hx=>JQB x)) YP YP ?_
  refine JA.o1 YP ?_
  refine JA.nil ?_
  refine JB.cnd YP (fun hb15=>?_) (fun hb15=>?_)
  ·skip
   have hno:l.all JAH=false:=by simpa using hb15
   have hr:=JDM (Yr (l.map Pl.num)) hle
   refine JB.reg ?_
   have X:=(Fx.mk hno).a hr
   refine JA.o1 J2 ?_
   refine JA.nil (JR.ret ?_)
   exact Ends.fin [] (rs:=[.tmp 8]) rfl J2 V95
  ·skip
   have hyes:l.all JAH=true:=by simpa using hb15
   refine JR.nrm (JB.assocS (JB.reg ?_))
   iterate 3 (refine JA.o1 YP ?_)
   refine JA.nil (JB.blk ?_)
   refine JB.forA [0,3,20,21] [] (l.length) (fun k=>[.slot 21 (.int k)]) (JBU (l.map Pl.num)) (fun k=>by simp only [go_sem]<;>rfl) YP ?_ (fun k hk hX=>?_)
   ·exact JJ1 _
   ·skip
    refine JB.reg ?_
    refine JA.o1 YP ?_
    refine JA.nil ?_
    refine JB.cndS YP (fun hb22=>?_) (fun hb22=>?_)
    ·skip
     have hlt:=Yk hb22
     obtain ⟨x,hx⟩:=Yj hb22
     refine JB.skipS (JB.blk (JB.reg ?_))
     have X:=Fx.mk hx
     iterate 2 (refine JA.o1 J2 ?_)
     refine JA.nil ?_
     by_cases h0:k=0
     ·skip
      subst h0
      have g1:decide ((0:Int)<((0:Nat):Int))=false:=rfl
      refine JB.opk 20 ?_
      have X:=X.a g1
      iterate 3 (refine JF.o1 J2 ?_)
      iterate 14 (refine JF.s ?_)
      refine JF.o1 J2 ?_
      refine JF.nil (QO.finT JJ JJ JJ ?_)
      refine JB.cnd J2 (fun hb41=>?_) (fun hb41=>?_)
      ·exact absurd hb41 (by simp)
      ·skip
       refine JR.nrm (JB.reg1 ?_)
       refine JA.o1 V56 ?_
       refine JA.o1 J2 ?_
       refine JA.nil ?_
       refine JU.nxt ?_ ?_ ?_
       ·omega
       ·exact JN.kp [0,3,20,21] [] V96
       ·first|exact JDg hX hx hy JDz|exact JDf _
     ·skip
      have g1:decide ((0:Int)<(k:Int))=true:=decide_eq_true (by omega)
      obtain ⟨y,hy⟩:∃y,l[k-1]? = some y:=⟨_,List.getElem?_eq_getElem (by omega)⟩
      have t1:((k:Int)-1).toNat=k-1:=by omega
      refine JB.opk 20 ?_
      have X:=((X.a g1).a hy).a t1
      iterate 3 (refine JF.o1 J2 ?_)
      iterate 3 (refine JF.y1 J2 ?_)
      refine JF.y1 V67 ?_
      refine JF.y1 J2 ?_
      refine JF.calw JD (JLX x) JY J2 J2 Qc (YX) J2 JD JD ?_
      iterate 3 (refine JF.y1 J2 ?_)
      refine JF.y1 V56 ?_
      refine JF.y1 V67 ?_
      refine JF.y1 J2 ?_
      refine JF.calw JD (JLX y) JY J2 J2 Qc (YX) J2 JD JD ?_
      refine JF.y1 J2 ?_
      refine JF.o1 J2 ?_
      refine JF.nil (QO.finT JJ JJ JJ ?_)
      refine JB.cnd J2 (fun hb41=>?_) (fun hb41=>?_)
      ·skip
       have hno:=JHq (f:=Pl.num) (by omega) hx hy (by have:=of_decide_eq_true hb41;omega)
       have hr:=JG8 hle
       refine JB.reg ?_
       have X:=((X.a hyes).a hno).a hr
       refine JA.o1 J2 ?_
       refine JA.nil (JR.ret (JU.ret (JR.ret ?_)))
       exact Ends.fin [] (rs:=[.tmp 8]) rfl J2 V95
      ·skip
       refine JR.nrm (JB.reg1 ?_)
       refine JA.o1 V56 ?_
       refine JA.o1 J2 ?_
       refine JA.nil ?_
       refine JU.nxt ?_ ?_ ?_
       ·omega
       ·exact JN.kp [0,3,20,21] [] V96
       ·first|exact JDg hX hx hy JDz|exact JDf _
    ·skip
     have hr0:=JHp hX (Yo hb22)
     have hr:=JG7 hle
     refine JB.exitS (JU.ext (JR.hit (JB.reg ?_)))
     have X:=((Fx.mk hyes).a hr0).a hr
     refine JA.o1 J2 ?_
     refine JA.nil ?_
     exact Ends.fin [] (rs:=[.tmp 8]) rfl J2 V95
theorem JEE (l:List Pl)(hl:l.length≤1000)  : Jb Tryz.prog 64 [.leaf (.d (Yu l))] (.int (ZO l)) []:=by
 refine Js Jf Tryz.func64 rfl (by simp only [List.length_cons,List.length_nil,Tryz.ntmps64];omega) JJ rfl ?_
 refine JB.reg ?_
 refine JA.o1 JD1 ?_
 refine JA.nil (JB.reg ?_)
 refine JA.o1 JD1 ?_
 refine JA.c1 (JQF l 60 hl (by omega)) JD1 JD1 ?_
 refine JA.o1 JD1 ?_
 refine JA.nil ?_
 exact Ends.fin [] (rs:=[.tmp 2]) rfl JD1 (by simp only [go_sem,ZO]<;>first|rfl|exact QP)
theorem JLW (x:Pg):Jb Tryz.prog 101 [pgV x] (.int x.house) []:=by
 refine Js Jf Tryz.func101 rfl (by simp only [List.length_cons,List.length_nil,Tryz.ntmps101];omega) JJ rfl ?_
 refine JB.reg ?_
 iterate 2 (refine JA.o ?_)
 refine JA.nil (JB.reg ?_)
 iterate 3 (refine JA.o ?_)
 refine JA.nil ?_
 exact Ends.fin [] (rs:=[.tmp 2]) rfl JD ZB
theorem JQA (x:Pg)(h:x.reads.length≤1000):Jb Tryz.prog 140 [pgV x,.leaf (.d (.pt [.fn 100 []]))] (.bool (!YT x)) []:=by
 refine Js Jf Tryz.func140 rfl (by simp only [List.length_cons,List.length_nil,Tryz.ntmps140];omega) JJ rfl ?_
 refine JB.reg ?_
 iterate 2 (refine JA.o ?_)
 refine JA.nil (JB.reg ?_)
 iterate 2 (refine JA.o ?_)
 refine JA.calw JD (JQQ x h) JY JD JD Qc (YX) JD ?_
 iterate 2 (refine JA.o ?_)
 refine JA.nil ?_
 exact Ends.fin [] (rs:=[.tmp 3]) rfl JD ZB
theorem JQE (l:List Pg)(most:Nat)(hl:l.length≤1000)(hm:most≤1000)(hz:∀x∈l,x.reads.length≤1000):Jb Tryz.prog 99 [.leaf (.d (Yt l)),.int most,.leaf (.d (.fn 100 [])),.leaf (.d (.fn 101 []))] (.int (JAE l.length most (l.all YT) (Yr (l.map Pg.house)))) []:=by
 refine Js Jf Tryz.func99 rfl (by simp only [List.length_cons,List.length_nil,Tryz.ntmps99];omega) JJ rfl ?_
 refine JB.reg ?_
 iterate 2 (refine JA.o1 YP ?_)
 refine JA.nil (JB.blk (JB.reg ?_))
 iterate 5 (refine JA.o1 YP ?_)
 refine JA.nil ?_
 refine JB.cnd YP (fun hb10=>?_) (fun hb10=>?_)
 ·skip
  have hgt:most<l.length:=by have:=of_decide_eq_true hb10;omega
  have hr:=JFE (l.all YT) (Yr (l.map Pg.house)) hgt
  refine JB.reg ?_
  have X:=Fx.mk hr
  refine JA.o1 J2 ?_
  refine JA.nil (JR.ret ?_)
  exact Ends.fin [] (rs:=[.tmp 8]) rfl J2 V95
 ·skip
  have hle:l.length≤most:=by have:=of_decide_eq_false hb10;omega
  refine JB.reg ?_
  refine JA.frz 6 JD ?_
  iterate 2 (refine JA.o1 YP ?_)
  refine JA.frz 17 JD ?_
  refine JA.c1 (JPk (fun x=>!YT x) (ds:=[.pt [.fn 100 []]]) JY l (by omega) (fun x hx=>JQA x (hz x hx))) YP YP ?_
  refine JA.o1 YP ?_
  refine JA.nil ?_
  refine JB.cnd YP (fun hb15=>?_) (fun hb15=>?_)
  ·skip
   have hno:l.all YT=false:=by simpa using hb15
   have hr:=JDM (Yr (l.map Pg.house)) hle
   refine JB.reg ?_
   have X:=(Fx.mk hno).a hr
   refine JA.o1 J2 ?_
   refine JA.nil (JR.ret ?_)
   exact Ends.fin [] (rs:=[.tmp 8]) rfl J2 V95
  ·skip
   have hyes:l.all YT=true:=by simpa using hb15
   refine JR.nrm (JB.assocS (JB.reg ?_))
   iterate 3 (refine JA.o1 YP ?_)
   refine JA.nil (JB.blk ?_)
   refine JB.forA [0,3,20,21] [] (l.length) (fun k=>[.slot 21 (.int k)]) (JBU (l.map Pg.house)) (fun k=>by simp only [go_sem]<;>rfl) YP ?_ (fun k hk hX=>?_)
   ·exact JJ1 _
   ·skip
    refine JB.reg ?_
    refine JA.o1 YP ?_
    refine JA.nil ?_
    refine JB.cndS YP (fun hb22=>?_) (fun hb22=>?_)
    ·skip
     have hlt:=Yk hb22
     obtain ⟨x,hx⟩:=Yj hb22
     refine JB.skipS (JB.blk (JB.reg ?_))
     have X:=Fx.mk hx
     iterate 2 (refine JA.o1 J2 ?_)
     refine JA.nil ?_
     by_cases h0:k=0
     ·skip
      subst h0
      have g1:decide ((0:Int)<((0:Nat):Int))=false:=rfl
      refine JB.opk 20 ?_
      have X:=X.a g1
      iterate 3 (refine JF.o1 J2 ?_)
      iterate 14 (refine JF.s ?_)
      refine JF.o1 J2 ?_
      refine JF.nil (QO.finT JJ JJ JJ ?_)
      refine JB.cnd J2 (fun hb41=>?_) (fun hb41=>?_)
      ·exact absurd hb41 (by simp)
      ·skip
       refine JR.nrm (JB.reg1 ?_)
       refine JA.o1 V56 ?_
       refine JA.o1 J2 ?_
       refine JA.nil ?_
       refine JU.nxt ?_ ?_ ?_
       ·omega
       ·exact JN.kp [0,3,20,21] [] V96
       ·first|exact JDg hX hx hy JDz|exact JDf _
     ·skip
      have g1:decide ((0:Int)<(k:Int))=true:=decide_eq_true (by omega)
      obtain ⟨y,hy⟩:∃y,l[k-1]? = some y:=⟨_,List.getElem?_eq_getElem (by omega)⟩
      have t1:((k:Int)-1).toNat=k-1:=by omega
      refine JB.opk 20 ?_
      have X:=((X.a g1).a hy).a t1
      iterate 3 (refine JF.o1 J2 ?_)
      iterate 3 (refine JF.y1 J2 ?_)
      refine JF.y1 V67 ?_
      refine JF.y1 J2 ?_
      refine JF.calw JD (JLW x) JY J2 J2 Qc (YX) J2 JD JD ?_
      iterate 3 (refine JF.y1 J2 ?_)
      refine JF.y1 V56 ?_
      refine JF.y1 V67 ?_
      refine JF.y1 J2 ?_
      refine JF.calw JD (JLW y) JY J2 J2 Qc (YX) J2 JD JD ?_
      refine JF.y1 J2 ?_
      refine JF.o1 J2 ?_
      refine JF.nil (QO.finT JJ JJ JJ ?_)
      refine JB.cnd J2 (fun hb41=>?_) (fun hb41=>?_)
      ·skip
       have hno:=JHq (f:=Pg.house) (by omega) hx hy (by have:=of_decide_eq_true hb41;omega)
       have hr:=JG8 hle
       refine JB.reg ?_
       have X:=((X.a hyes).a hno).a hr
       refine JA.o1 J2 ?_
       refine JA.nil (JR.ret (JU.ret (JR.ret ?_)))
       exact Ends.fin [] (rs:=[.tmp 8]) rfl J2 V95
      ·skip
       refine JR.nrm (JB.reg1 ?_)
       refine JA.o1 V56 ?_
       refine JA.o1 J2 ?_
       refine JA.nil ?_
       refine JU.nxt ?_ ?_ ?_
       ·omega
       ·exact JN.kp [0,3,20,21] [] V96
       ·first|exact JDg hX hx hy JDz|exact JDf _
    ·skip
     have hr0:=JHp hX (Yo hb22)
     have hr:=JG7 hle
     refine JB.exitS (JU.ext (JR.hit (JB.reg ?_)))
     have X:=((Fx.mk hyes).a hr0).a hr
     refine JA.o1 J2 ?_
     refine JA.nil ?_
     exact Ends.fin [] (rs:=[.tmp 8]) rfl J2 V95
theorem JLa (l:List Pg)(hl:l.length≤1000)(hz:∀x∈l,x.reads.length≤1000):Jb Tryz.prog 45 [.leaf (.d (Yt l))] (.int (Yl l)) []:=by
 refine Js Jf Tryz.func45 rfl (by simp only [List.length_cons,List.length_nil,Tryz.ntmps45];omega) JJ rfl ?_
 refine JB.reg ?_
 refine JA.o1 JD2 ?_
 refine JA.nil (JB.reg ?_)
 refine JA.o1 JD2 ?_
 refine JA.c1 (JQE l 32 hl (by omega) hz) JD2 JD2 ?_
 refine JA.o1 JD2 ?_
 refine JA.nil ?_
 exact Ends.fin [] (rs:=[.tmp 2]) rfl JD2 (by simp only [go_sem,Yl]<;>first|rfl|exact QP)
end Go.Mw

/- Contracts of the functions that the book reaches: what is valid, by the program. -/
import Derived.Test.YtpmdcdglfeicaaaGreatDoorD1
import Derived.Test.YtpmdcdglfeicaaaGreatDoorB4
import Derived.Test.YtpmdcdglfeicaaaGreatDoorB6
set_option maxRecDepth 20000
set_option maxHeartbeats 4000000
set_option linter.unusedSimpArgs false
set_option linter.unusedVariables false
set_option linter.unusedSectionVars false
set_option linter.deprecated false
namespace Go.Mw
open Go.Proofs
open Go.Bk
attribute [local go_sem] decide_true beq_self_eq_true bne_self_eq_false
theorem JBE {α:Type}{p:α→Bool}(l:List α):l.any (fun s=>!p s) = !l.all p:=by rw [List.not_all_eq_any_not]
def JAg (l:List Int)(k:Nat):Prop:=∀i,i+1<k→l.getD i 0<l.getD (i+1) 0
theorem JNa:∀(l:List Int),JAg l l.length→Qv l=true
 |[],_=>rfl
 |[_],_=>rfl
 |a::b::l,h=>by
  have h0:a<b:=h 0 (by simp)
  have h1:JAg (b::l) (b::l).length:=fun i hi=>h (i+1) (by simp at hi ⊢;omega)
  simp only [Qv,decide_eq_true h0,JNa (b::l) h1,Bool.and_true]
theorem JNb:∀(l:List Int),Qv l=true→∀i,i+1<l.length→l.getD i 0<l.getD (i+1) 0
 |[],_,i,hi=>by simp at hi
 |[_],_,i,hi=>by simp at hi
 |a::b::l,h,0,_=>by simp only [Qv,Bool.and_eq_true,decide_eq_true_eq] at h;exact h.1
 |a::b::l,h,i+1,hi=>by
  simp only [Qv,Bool.and_eq_true] at h
  exact JNb (b::l) h.2 i (by simp at hi ⊢;omega)
theorem JCM {α:Type}{f:α→Int}{l:List α}{k:Nat}{x y:α}(h:JAg (l.map f) k)(hx:l[k]? = some x)(hy:l[k-1]? = some y)(hxy:f y<f x):JAg (l.map f) (k+1):=fun i hi=>by
 by_cases e:i+1<k
 ·exact h i e
 ·have:i+1=k:=by omega
  subst this
  have e1:(l.map f).getD i 0=f y:=by simp [List.getD,show l[i]? = some y from hy]
  have e2:(l.map f).getD (i+1) 0=f x:=by simp [List.getD,hx]
  rw [e1,e2];exact hxy
theorem JCL (l:List Int):JAg l 1:=fun i hi=>absurd hi (by omega)
theorem JJt (l:List Int):JAg l 0:=fun i hi=>absurd hi (by omega)
theorem JEd {α:Type}{f:α→Int}{l:List α}{k:Nat}{x y:α}(hk:0<k)(hx:l[k]? = some x)(hy:l[k-1]? = some y)(hxy:¬f y<f x):Qv (l.map f)=false:=by
 rw [←Bool.not_eq_true]
 intro h
 have hl:=(List.getElem?_eq_some_iff.1 hx).1
 have:=JNb _ h (k-1) JAG
 rw [show k-1+1=k by omega] at this
 have e1:(l.map f).getD (k-1) 0=f y:=by simp [List.getD,hy]
 have e2:(l.map f).getD k 0=f x:=by simp [List.getD,hx]
 rw [e1,e2] at this
 exact hxy this
theorem JEc {α:Type}{f:α→Int}{l:List α}{k:Nat}(h:JAg (l.map f) k)(hk:l.length≤k):Qv (l.map f)=true:=JNa _ fun i hi=>h i (by simp at hi;omega)
theorem JCo {n most:Nat}(ok rise:Bool)(h:most<n):Zp n most ok rise=3:=if_pos h
theorem JAI {n most:Nat}(rise:Bool)(h:n≤most):Zp n most false rise=1:=by unfold Zp;rw [if_neg (by omega)];rfl
theorem JED {n most:Nat}(h:n≤most):Zp n most true false=7:=by unfold Zp;rw [if_neg (by omega)];rfl
theorem JEC {n most:Nat}(h:n≤most):Zp n most true true=0:=by unfold Zp;rw [if_neg (by omega)];rfl
theorem JOA:∀(l:List Int),(∀i,i+1<l.length→l.getD i 0≤l.getD (i+1) 0)→Y2 l=true
 |[],_=>rfl
 |[_],_=>rfl
 |a::b::l,h=>by
  have h0:a≤b:=h 0 (by simp)
  have h1:∀i,i+1<(b::l).length→(b::l).getD i 0≤(b::l).getD (i+1) 0:=fun i hi=>h (i+1) (by simp at hi ⊢;omega)
  simp only [Y2,decide_eq_true h0,JOA (b::l) h1,Bool.and_true]
theorem JOD:∀(l:List Int),Y2 l=true→∀i,i+1<l.length→l.getD i 0≤l.getD (i+1) 0
 |[],_,i,hi=>by simp at hi
 |[_],_,i,hi=>by simp at hi
 |a::b::l,h,0,_=>by simp only [Y2,Bool.and_eq_true,decide_eq_true_eq] at h;exact h.1
 |a::b::l,h,i+1,hi=>by
  simp only [Y2,Bool.and_eq_true] at h
  exact JOD (b::l) h.2 i (by simp at hi ⊢;omega)
theorem JHM {l:List Int}{i:Nat}{x:Int}(h:l[i]? = some x):l.getD i 0=x:=by simp [List.getD,h]
theorem JPb {g:FuncId}{ds:List D}(p:Int→Bool)(hg:JN Tryz.prog g=true)(l:List Int)(hl:l.length≤100000)(hp:∀s,s∈l→Jb Tryz.prog g (.int s::ds.map fun x=>.leaf (.d x)) (.bool (p s)) []):Jb Tryz.prog 173 [.leaf (.d (.sl 1 (l.map Zi))),.leaf (.d (.fn g ds))] (.int (JCF (l.findIdx? p))) []:=by
 refine Jq Jd Tryz.func173 rfl (by simp only [List.length_cons,List.length_nil,Tryz.ntmps173];omega) JH rfl ?_
 refine JB.reg ?_
 refine JA.o ?_
 refine JA.nil (JB.assocS (JB.reg ?_))
 iterate 3 (refine JA.o ?_)
 refine JA.nil (JB.blk ?_)
 refine JB.forA [0,1,7,8] [] (l.length) (fun k=>[.slot 8 (.int k)]) (fun k=>(l.take k).any p=false) (fun k=>by simp only [go_sem]<;>rfl) JD ?_ (fun k hk hX=>?_)
 ·rfl
 ·skip
  refine JB.reg ?_
  refine JA.o ?_
  refine JA.nil ?_
  refine JB.cndS JD (fun hb9=>?_) (fun hb9=>?_)
  ·skip
   have hlt:=Yj hb9
   obtain ⟨s,hs⟩:=Yh hb9
   refine JB.skipS (JB.blk (JB.reg ?_))
   have X:=Fx.mk hs
   iterate 2 (refine JA.o1 JC ?_)
   refine JA.nil (JB.reg ?_)
   iterate 3 (refine JA.o1 JC ?_)
   refine JA.o1 QQ ?_
   refine JA.o1 JC ?_
   refine JA.calw JD (hp s (List.mem_of_getElem? hs)) (by assumption) JC JC V97 (QZ) JC ?_
   refine JA.nil ?_
   refine JB.cnd JC (fun hb16=>?_) (fun hb16=>?_)
   ·skip
    have hr:=JFZ hX hs hb16
    refine JB.reg ?_
    have X:=X.a hr
    iterate 2 (refine JA.o1 ZT ?_)
    refine JA.nil (JP.ret (JV.ret (JP.ret ?_)))
    exact Ends.fin [] (rs:=[.tmp 4]) rfl ZT JBW
   ·skip
    refine JP.nrm (JB.reg1 ?_)
    refine JA.o1 QC ?_
    refine JA.o1 JC ?_
    refine JA.nil ?_
    refine JV.nxt ?_ ?_ ?_
    ·omega
    ·exact JO.kp [0,1,7,8] [] Zl
    ·exact JE2 hX hs hb16
  ·skip
   have hr:=JFa hX (Yi hb9)
   refine JB.exitS (JV.ext (JP.hit (JB.reg ?_)))
   have X:=Fx.mk hr
   refine JA.o1 ZT ?_
   refine JA.nil ?_
   exact Ends.fin [] (rs:=[.tmp 4]) rfl ZT JBW
theorem JPW {g:FuncId}{ds:List D}(p:Int→Bool)(hg:JN Tryz.prog g=true)(l:List Int)(hl:l.length≤100000)(hp:∀s,s∈l→Jb Tryz.prog g (.int s::ds.map fun x=>.leaf (.d x)) (.bool (p s)) []):Jb Tryz.prog 143 [.leaf (.d (.sl 1 (l.map Zi))),.leaf (.d (.fn g ds))] (.bool (l.any p)) []:=by
 refine Jq Jd Tryz.func143 rfl (by simp only [List.length_cons,List.length_nil,Tryz.ntmps143];omega) JH rfl ?_
 refine JB.reg ?_
 refine JA.o1 Ya ?_
 refine JA.nil (JB.reg ?_)
 iterate 2 (refine JA.o1 Ya ?_)
 refine JA.c1 (JPb p hg l hl hp) Ya Ya ?_
 iterate 2 (refine JA.o1 Ya ?_)
 refine JA.nil ?_
 exact Ends.fin [] (rs:=[.tmp 4]) rfl Ya JEu
theorem JPf {g:FuncId}{ds:List D}(p:Tr→Bool)(hg:JN Tryz.prog g=true)(l:List Tr)(hl:l.length≤100000)(hp:∀s,s∈l→Jb Tryz.prog g (trV s::ds.map fun x=>.leaf (.d x)) (.bool (p s)) []):Jb Tryz.prog 193 [.leaf (.d (.sl 3 (l.map Ye))),.leaf (.d (.fn g ds))] (.int (JCF (l.findIdx? p))) []:=by
 refine Jq Jd Tryz.func193 rfl (by simp only [List.length_cons,List.length_nil,Tryz.ntmps193];omega) JH rfl ?_
 refine JB.reg ?_
 refine JA.o ?_
 refine JA.nil (JB.assocS (JB.reg ?_))
 iterate 3 (refine JA.o ?_)
 refine JA.nil (JB.blk ?_)
 refine JB.forA [0,1,7,8] [] (l.length) (fun k=>[.slot 8 (.int k)]) (fun k=>(l.take k).any p=false) (fun k=>by simp only [go_sem]<;>rfl) JD ?_ (fun k hk hX=>?_)
 ·rfl
 ·skip
  refine JB.reg ?_
  refine JA.o ?_
  refine JA.nil ?_
  refine JB.cndS JD (fun hb9=>?_) (fun hb9=>?_)
  ·skip
   have hlt:=Yj hb9
   obtain ⟨s,hs⟩:=Yh hb9
   refine JB.skipS (JB.blk (JB.reg ?_))
   have X:=Fx.mk hs
   iterate 2 (refine JA.o1 JC ?_)
   refine JA.nil (JB.reg ?_)
   iterate 3 (refine JA.o1 JC ?_)
   refine JA.o1 QQ ?_
   refine JA.o1 JC ?_
   refine JA.calw JD (hp s (List.mem_of_getElem? hs)) (by assumption) JC JC V97 (QZ) JC ?_
   refine JA.nil ?_
   refine JB.cnd JC (fun hb16=>?_) (fun hb16=>?_)
   ·skip
    have hr:=JFZ hX hs hb16
    refine JB.reg ?_
    have X:=X.a hr
    iterate 2 (refine JA.o1 ZT ?_)
    refine JA.nil (JP.ret (JV.ret (JP.ret ?_)))
    exact Ends.fin [] (rs:=[.tmp 4]) rfl ZT JBW
   ·skip
    refine JP.nrm (JB.reg1 ?_)
    refine JA.o1 QC ?_
    refine JA.o1 JC ?_
    refine JA.nil ?_
    refine JV.nxt ?_ ?_ ?_
    ·omega
    ·exact JO.kp [0,1,7,8] [] Zl
    ·exact JE2 hX hs hb16
  ·skip
   have hr:=JFa hX (Yi hb9)
   refine JB.exitS (JV.ext (JP.hit (JB.reg ?_)))
   have X:=Fx.mk hr
   refine JA.o1 ZT ?_
   refine JA.nil ?_
   exact Ends.fin [] (rs:=[.tmp 4]) rfl ZT JBW
theorem JPa {g:FuncId}{ds:List D}(p:Tr→Bool)(hg:JN Tryz.prog g=true)(l:List Tr)(hl:l.length≤100000)(hp:∀s,s∈l→Jb Tryz.prog g (trV s::ds.map fun x=>.leaf (.d x)) (.bool (p s)) []):Jb Tryz.prog 163 [.leaf (.d (.sl 3 (l.map Ye))),.leaf (.d (.fn g ds))] (.bool (l.any p)) []:=by
 refine Jq Jd Tryz.func163 rfl (by simp only [List.length_cons,List.length_nil,Tryz.ntmps163];omega) JH rfl ?_
 refine JB.reg ?_
 refine JA.o1 Ya ?_
 refine JA.nil (JB.reg ?_)
 iterate 2 (refine JA.o1 Ya ?_)
 refine JA.c1 (JPf p hg l hl hp) Ya Ya ?_
 iterate 2 (refine JA.o1 Ya ?_)
 refine JA.nil ?_
 exact Ends.fin [] (rs:=[.tmp 4]) rfl Ya JEu
theorem JPe {g:FuncId}{ds:List D}(p:Sh→Bool)(hg:JN Tryz.prog g=true)(l:List Sh)(hl:l.length≤100000)(hp:∀s,s∈l→Jb Tryz.prog g (shV s::ds.map fun x=>.leaf (.d x)) (.bool (p s)) []):Jb Tryz.prog 192 [.leaf (.d (.sl 2 (l.map Zo))),.leaf (.d (.fn g ds))] (.int (JCF (l.findIdx? p))) []:=by
 refine Jq Jd Tryz.func192 rfl (by simp only [List.length_cons,List.length_nil,Tryz.ntmps192];omega) JH rfl ?_
 refine JB.reg ?_
 refine JA.o ?_
 refine JA.nil (JB.assocS (JB.reg ?_))
 iterate 3 (refine JA.o ?_)
 refine JA.nil (JB.blk ?_)
 refine JB.forA [0,1,7,8] [] (l.length) (fun k=>[.slot 8 (.int k)]) (fun k=>(l.take k).any p=false) (fun k=>by simp only [go_sem]<;>rfl) JD ?_ (fun k hk hX=>?_)
 ·rfl
 ·skip
  refine JB.reg ?_
  refine JA.o ?_
  refine JA.nil ?_
  refine JB.cndS JD (fun hb9=>?_) (fun hb9=>?_)
  ·skip
   have hlt:=Yj hb9
   obtain ⟨s,hs⟩:=Yh hb9
   refine JB.skipS (JB.blk (JB.reg ?_))
   have X:=Fx.mk hs
   iterate 2 (refine JA.o1 JC ?_)
   refine JA.nil (JB.reg ?_)
   iterate 3 (refine JA.o1 JC ?_)
   refine JA.o1 QQ ?_
   refine JA.o1 JC ?_
   refine JA.calw JD (hp s (List.mem_of_getElem? hs)) (by assumption) JC JC V97 (QZ) JC ?_
   refine JA.nil ?_
   refine JB.cnd JC (fun hb16=>?_) (fun hb16=>?_)
   ·skip
    have hr:=JFZ hX hs hb16
    refine JB.reg ?_
    have X:=X.a hr
    iterate 2 (refine JA.o1 ZT ?_)
    refine JA.nil (JP.ret (JV.ret (JP.ret ?_)))
    exact Ends.fin [] (rs:=[.tmp 4]) rfl ZT JBW
   ·skip
    refine JP.nrm (JB.reg1 ?_)
    refine JA.o1 QC ?_
    refine JA.o1 JC ?_
    refine JA.nil ?_
    refine JV.nxt ?_ ?_ ?_
    ·omega
    ·exact JO.kp [0,1,7,8] [] Zl
    ·exact JE2 hX hs hb16
  ·skip
   have hr:=JFa hX (Yi hb9)
   refine JB.exitS (JV.ext (JP.hit (JB.reg ?_)))
   have X:=Fx.mk hr
   refine JA.o1 ZT ?_
   refine JA.nil ?_
   exact Ends.fin [] (rs:=[.tmp 4]) rfl ZT JBW
theorem JPZ {g:FuncId}{ds:List D}(p:Sh→Bool)(hg:JN Tryz.prog g=true)(l:List Sh)(hl:l.length≤100000)(hp:∀s,s∈l→Jb Tryz.prog g (shV s::ds.map fun x=>.leaf (.d x)) (.bool (p s)) []):Jb Tryz.prog 160 [.leaf (.d (.sl 2 (l.map Zo))),.leaf (.d (.fn g ds))] (.bool (l.any p)) []:=by
 refine Jq Jd Tryz.func160 rfl (by simp only [List.length_cons,List.length_nil,Tryz.ntmps160];omega) JH rfl ?_
 refine JB.reg ?_
 refine JA.o1 Ya ?_
 refine JA.nil (JB.reg ?_)
 iterate 2 (refine JA.o1 Ya ?_)
 refine JA.c1 (JPe p hg l hl hp) Ya Ya ?_
 iterate 2 (refine JA.o1 Ya ?_)
 refine JA.nil ?_
 exact Ends.fin [] (rs:=[.tmp 4]) rfl Ya JEu
theorem JPd {g:FuncId}{ds:List D}(p:Pl→Bool)(hg:JN Tryz.prog g=true)(l:List Pl)(hl:l.length≤100000)(hp:∀s,s∈l→Jb Tryz.prog g (plV s::ds.map fun x=>.leaf (.d x)) (.bool (p s)) []):Jb Tryz.prog 186 [.leaf (.d (.sl 3 (l.map JAb))),.leaf (.d (.fn g ds))] (.int (JCF (l.findIdx? p))) []:=by
 refine Jq Jd Tryz.func186 rfl (by simp only [List.length_cons,List.length_nil,Tryz.ntmps186];omega) JH rfl ?_
 refine JB.reg ?_
 refine JA.o ?_
 refine JA.nil (JB.assocS (JB.reg ?_))
 iterate 3 (refine JA.o ?_)
 refine JA.nil (JB.blk ?_)
 refine JB.forA [0,1,7,8] [] (l.length) (fun k=>[.slot 8 (.int k)]) (fun k=>(l.take k).any p=false) (fun k=>by simp only [go_sem]<;>rfl) JD ?_ (fun k hk hX=>?_)
 ·rfl
 ·skip
  refine JB.reg ?_
  refine JA.o ?_
  refine JA.nil ?_
  refine JB.cndS JD (fun hb9=>?_) (fun hb9=>?_)
  ·skip
   have hlt:=Yj hb9
   obtain ⟨s,hs⟩:=Yh hb9
   refine JB.skipS (JB.blk (JB.reg ?_))
   have X:=Fx.mk hs
   iterate 2 (refine JA.o1 JC ?_)
   refine JA.nil (JB.reg ?_)
   iterate 3 (refine JA.o1 JC ?_)
   refine JA.o1 QQ ?_
   refine JA.o1 JC ?_
   refine JA.calw JD (hp s (List.mem_of_getElem? hs)) (by assumption) JC JC V97 (QZ) JC ?_
   refine JA.nil ?_
   refine JB.cnd JC (fun hb16=>?_) (fun hb16=>?_)
   ·skip
    have hr:=JFZ hX hs hb16
    refine JB.reg ?_
    have X:=X.a hr
    iterate 2 (refine JA.o1 ZT ?_)
    refine JA.nil (JP.ret (JV.ret (JP.ret ?_)))
    exact Ends.fin [] (rs:=[.tmp 4]) rfl ZT JBW
   ·skip
    refine JP.nrm (JB.reg1 ?_)
    refine JA.o1 QC ?_
    refine JA.o1 JC ?_
    refine JA.nil ?_
    refine JV.nxt ?_ ?_ ?_
    ·omega
    ·exact JO.kp [0,1,7,8] [] Zl
    ·exact JE2 hX hs hb16
  ·skip
   have hr:=JFa hX (Yi hb9)
   refine JB.exitS (JV.ext (JP.hit (JB.reg ?_)))
   have X:=Fx.mk hr
   refine JA.o1 ZT ?_
   refine JA.nil ?_
   exact Ends.fin [] (rs:=[.tmp 4]) rfl ZT JBW
theorem JPY {g:FuncId}{ds:List D}(p:Pl→Bool)(hg:JN Tryz.prog g=true)(l:List Pl)(hl:l.length≤100000)(hp:∀s,s∈l→Jb Tryz.prog g (plV s::ds.map fun x=>.leaf (.d x)) (.bool (p s)) []):Jb Tryz.prog 154 [.leaf (.d (.sl 3 (l.map JAb))),.leaf (.d (.fn g ds))] (.bool (l.any p)) []:=by
 refine Jq Jd Tryz.func154 rfl (by simp only [List.length_cons,List.length_nil,Tryz.ntmps154];omega) JH rfl ?_
 refine JB.reg ?_
 refine JA.o1 Ya ?_
 refine JA.nil (JB.reg ?_)
 iterate 2 (refine JA.o1 Ya ?_)
 refine JA.c1 (JPd p hg l hl hp) Ya Ya ?_
 iterate 2 (refine JA.o1 Ya ?_)
 refine JA.nil ?_
 exact Ends.fin [] (rs:=[.tmp 4]) rfl Ya JEu
theorem JPc {g:FuncId}{ds:List D}(p:Pg→Bool)(hg:JN Tryz.prog g=true)(l:List Pg)(hl:l.length≤100000)(hp:∀s,s∈l→Jb Tryz.prog g (pgV s::ds.map fun x=>.leaf (.d x)) (.bool (p s)) []):Jb Tryz.prog 172 [.leaf (.d (.sl 2 (l.map JAa))),.leaf (.d (.fn g ds))] (.int (JCF (l.findIdx? p))) []:=by
 refine Jq Jd Tryz.func172 rfl (by simp only [List.length_cons,List.length_nil,Tryz.ntmps172];omega) JH rfl ?_
 refine JB.reg ?_
 refine JA.o ?_
 refine JA.nil (JB.assocS (JB.reg ?_))
 iterate 3 (refine JA.o ?_)
 refine JA.nil (JB.blk ?_)
 refine JB.forA [0,1,7,8] [] (l.length) (fun k=>[.slot 8 (.int k)]) (fun k=>(l.take k).any p=false) (fun k=>by simp only [go_sem]<;>rfl) JD ?_ (fun k hk hX=>?_)
 ·rfl
 ·skip
  refine JB.reg ?_
  refine JA.o ?_
  refine JA.nil ?_
  refine JB.cndS JD (fun hb9=>?_) (fun hb9=>?_)
  ·skip
   have hlt:=Yj hb9
   obtain ⟨s,hs⟩:=Yh hb9
   refine JB.skipS (JB.blk (JB.reg ?_))
   have X:=Fx.mk hs
   iterate 2 (refine JA.o1 JC ?_)
   refine JA.nil (JB.reg ?_)
   iterate 3 (refine JA.o1 JC ?_)
   refine JA.o1 QQ ?_
   refine JA.o1 JC ?_
   refine JA.calw JD (hp s (List.mem_of_getElem? hs)) (by assumption) JC JC V97 (QZ) JC ?_
   refine JA.nil ?_
   refine JB.cnd JC (fun hb16=>?_) (fun hb16=>?_)
   ·skip
    have hr:=JFZ hX hs hb16
    refine JB.reg ?_
    have X:=X.a hr
    iterate 2 (refine JA.o1 ZT ?_)
    refine JA.nil (JP.ret (JV.ret (JP.ret ?_)))
    exact Ends.fin [] (rs:=[.tmp 4]) rfl ZT JBW
   ·skip
    refine JP.nrm (JB.reg1 ?_)
    refine JA.o1 QC ?_
    refine JA.o1 JC ?_
    refine JA.nil ?_
    refine JV.nxt ?_ ?_ ?_
    ·omega
    ·exact JO.kp [0,1,7,8] [] Zl
    ·exact JE2 hX hs hb16
  ·skip
   have hr:=JFa hX (Yi hb9)
   refine JB.exitS (JV.ext (JP.hit (JB.reg ?_)))
   have X:=Fx.mk hr
   refine JA.o1 ZT ?_
   refine JA.nil ?_
   exact Ends.fin [] (rs:=[.tmp 4]) rfl ZT JBW
theorem JPX {g:FuncId}{ds:List D}(p:Pg→Bool)(hg:JN Tryz.prog g=true)(l:List Pg)(hl:l.length≤100000)(hp:∀s,s∈l→Jb Tryz.prog g (pgV s::ds.map fun x=>.leaf (.d x)) (.bool (p s)) []):Jb Tryz.prog 139 [.leaf (.d (.sl 2 (l.map JAa))),.leaf (.d (.fn g ds))] (.bool (l.any p)) []:=by
 refine Jq Jd Tryz.func139 rfl (by simp only [List.length_cons,List.length_nil,Tryz.ntmps139];omega) JH rfl ?_
 refine JB.reg ?_
 refine JA.o1 Ya ?_
 refine JA.nil (JB.reg ?_)
 iterate 2 (refine JA.o1 Ya ?_)
 refine JA.c1 (JPc p hg l hl hp) Ya Ya ?_
 iterate 2 (refine JA.o1 Ya ?_)
 refine JA.nil ?_
 exact Ends.fin [] (rs:=[.tmp 4]) rfl Ya JEu
theorem JQG (t:Tr):Jb Tryz.prog 162 [trV t] (.bool (!ZB t)) []:=by
 refine Jq Jd Tryz.func162 rfl (by simp only [List.length_cons,List.length_nil,Tryz.ntmps162];omega) JH rfl ?_
 refine JB.reg ?_
 iterate 2 (refine JA.o1 JAC ?_)
 refine JA.nil (JB.reg ?_)
 iterate 2 (refine JA.o1 JAC ?_)
 refine JA.c1 (JBH _ _ _) JAC JAC ?_
 iterate 2 (refine JA.o1 JAC ?_)
 iterate 2 (refine JA.gop JD JAC JD ?_)
 refine JA.gcal JD (JBH _ _ _) JW JAC Zb JAC ?_
 refine JA.gop JD JAC JD ?_
 iterate 2 (refine JA.o1 JAC ?_)
 iterate 2 (refine JA.gop JD JAC JD ?_)
 refine JA.gcal JD (JBH _ _ _) JW JAC Zb JAC ?_
 refine JA.gop JD JAC JD ?_
 iterate 2 (refine JA.o1 JAC ?_)
 refine JA.nil ?_
 exact Ends.fin [] (rs:=[.tmp 2]) rfl JAC (by simp only [go_sem,ZB,Bool.not_and]<;>first|rfl|exact QV)
theorem JQF (x:Sh)(h:x.tries.length≤1000):Jb Tryz.prog 129 [shV x] (.bool (Ym x)) []:=by
 have hle:decide ((x.tries.length:Int)≤6)=decide (x.tries.length≤6):=by rw [decide_eq_decide];omega
 refine Jq Jd Tryz.func129 rfl (by simp only [List.length_cons,List.length_nil,Tryz.ntmps129];omega) JH rfl ?_
 refine JB.reg ?_
 have X:=Fx.mk hle
 iterate 2 (refine JA.o1 JAL ?_)
 refine JA.nil (JB.reg ?_)
 refine JA.o1 JAL ?_
 refine JA.nil (JB.reg ?_)
 iterate 2 (refine JA.o1 JAL ?_)
 refine JA.c1 (JBH _ _ _) JAL JAL ?_
 refine JA.o1 JAL ?_
 iterate 4 (refine JA.gop JD JAL JD ?_)
 iterate 2 (refine JA.o1 JAL ?_)
 iterate 3 (refine JA.gop JD JAL JD ?_)
 refine JA.gcal JD (JPa (fun t=>!ZB t) (ds:=[]) JW x.tries (by omega) (fun t _=>JQG t)) JW JAL V32 JAL ?_
 refine JA.gop JD JAL JD ?_
 iterate 2 (refine JA.o1 JAL ?_)
 refine JA.nil ?_
 exact Ends.fin [] (rs:=[.tmp 2]) rfl JAL (by simp only [go_sem,X.h,Ym,JBE,Bool.not_not]<;>first|rfl|exact QV)
theorem JQE (x:Pl):Jb Tryz.prog 119 [plV x] (.bool (YR x)) []:=by
 refine Jq Jd Tryz.func119 rfl (by simp only [List.length_cons,List.length_nil,Tryz.ntmps119];omega) JH rfl ?_
 refine JB.reg ?_
 iterate 2 (refine JA.o1 JAN ?_)
 refine JA.nil (JB.reg ?_)
 iterate 2 (refine JA.o1 JAN ?_)
 refine JA.c1 (JBH _ _ _) JAN JAN ?_
 refine JA.o1 JAN ?_
 iterate 2 (refine JA.gop JD JAN JD ?_)
 refine JA.gcal JD (JBH _ _ _) JW JAN Zb JAN ?_
 iterate 2 (refine JA.o1 JAN ?_)
 iterate 2 (refine JA.gop JD JAN JD ?_)
 refine JA.gcal JD (JBH _ _ _) JW JAN Zb JAN ?_
 iterate 2 (refine JA.o1 JAN ?_)
 refine JA.nil ?_
 exact Ends.fin [] (rs:=[.tmp 2]) rfl JAN (by simp only [go_sem,YR]<;>first|rfl|exact QV)
theorem JQD (n:Int):Jb Tryz.prog 141 [.int n] (.bool (!Qj n 0 1073741824)) []:=by
 refine Jq Jd Tryz.func141 rfl (by simp only [List.length_cons,List.length_nil,Tryz.ntmps141];omega) JH rfl ?_
 refine JB.reg ?_
 refine JA.o ?_
 refine JA.nil (JB.reg ?_)
 refine JA.o ?_
 refine JA.c1 (JBH _ _ _) JD JD ?_
 iterate 2 (refine JA.o ?_)
 refine JA.nil ?_
 exact Ends.fin [] (rs:=[.tmp 2]) rfl JD Yn
theorem JLY (n:Int):Jb Tryz.prog 153 [.int n] (.bool false) []:=by
 refine Jq Jd Tryz.func153 rfl (by simp only [List.length_cons,List.length_nil,Tryz.ntmps153];omega) JH rfl ?_
 refine JB.reg ?_
 refine JA.o ?_
 refine JA.nil (JB.reg ?_)
 iterate 4 (refine JA.o ?_)
 refine JA.nil ?_
 exact Ends.fin [] (rs:=[.tmp 2]) rfl JD Yn
theorem JPk (n m:Int):Jb Tryz.prog 174 [.int n,.int m] (.bool (decide (n<m))) []:=by
 refine Jq Jd Tryz.func174 rfl (by simp only [List.length_cons,List.length_nil,Tryz.ntmps174];omega) JH rfl ?_
 refine JB.reg ?_
 refine JA.o ?_
 refine JA.nil (JB.reg ?_)
 refine JA.o ?_
 refine JA.c1 (JLY _) JD JD ?_
 refine JA.o ?_
 refine JA.gop JD JD JD ?_
 refine JA.gcal JD (JLY _) JW JD J6 JD ?_
 refine JA.gop JD JD JD ?_
 iterate 2 (refine JA.o ?_)
 iterate 3 (refine JA.gop JD JD JD ?_)
 iterate 2 (refine JA.o ?_)
 refine JA.nil ?_
 exact Ends.fin [] (rs:=[.tmp 4]) rfl JD Yn
theorem JPg (l:List Int)(hl:l.length≤1000):Jb Tryz.prog 144 [.leaf (.d (Qy l))] (.bool (Y2 l)) []:=by
 have h64:IntKind.i64.wrap ((l.length:Int)-1)=(l.length:Int)-1:=IntWalk.i64_in _ (by omega)
 have hz0:(l.length:Int)-1-((0:Nat):Int)=(l.length:Int)-1:=by omega
 refine Jq Jd Tryz.func144 rfl (by simp only [List.length_cons,List.length_nil,Tryz.ntmps144];omega) JH rfl ?_
 refine JB.reg ?_
 have X:=Fx.mk h64
 refine JA.o1 JC ?_
 refine JA.nil (JB.assocS (JB.reg ?_))
 iterate 2 (refine JA.o1 JC ?_)
 refine JA.o1 QC ?_
 refine JA.o1 JC ?_
 refine JA.nil (JB.blk ?_)
 have X:=X.a hz0
 refine JB.forA [0,3] [] (l.length-1) (fun k=>[.slot 3 (.int ((l.length:Int)-1-k))]) (fun k=>∀i,l.length≤i+1+k→i+1<l.length→l.getD i 0≤l.getD (i+1) 0) (fun k=>by simp only [go_sem]<;>rfl) JC ?_ (fun k hk hX=>?_)
 ·exact fun i h1 h2=>absurd h1 (by omega)
 ·skip
  refine JB.assocS (JB.reg ?_)
  have X:=Fx.mk h64
  iterate 2 (refine JA.o1 JC ?_)
  refine JA.nil ?_
  refine JB.cndS JC (fun hb8=>?_) (fun hb8=>?_)
  ·skip
   have hgt:0<l.length-1-k:=by have:=of_decide_eq_true hb8;omega
   obtain ⟨x,hx⟩:∃x,l[l.length-1-k]? = some x:=⟨_,List.getElem?_eq_getElem (by omega)⟩
   obtain ⟨y,hy⟩:∃y,l[l.length-1-k-1]? = some y:=⟨_,List.getElem?_eq_getElem (by omega)⟩
   have t1:((l.length:Int)-1-(k:Int)).toNat=l.length-1-k:=by omega
   have w2:IntKind.i64.wrap ((l.length:Int)-1-(k:Int)-1)=(l.length:Int)-1-(k:Int)-1:=IntWalk.i64_in _ (by omega)
   have t2:((l.length:Int)-1-(k:Int)-1).toNat=l.length-1-k-1:=by omega
   have e3:(l.length:Int)-1-((k+1:Nat):Int)=(l.length:Int)-1-(k:Int)-1:=by omega
   refine JB.skipS (JB.blk ?_)
   refine JB.opk 12 ?_
   have X:=(((((X.a t1).a w2).a t2).a hx).a hy).a e3
   iterate 2 (refine JF.o1 JC ?_)
   refine JF.o1 QQ ?_
   iterate 3 (refine JF.o1 JC ?_)
   refine JF.o1 QC ?_
   refine JF.o1 QQ ?_
   refine JF.o1 JC ?_
   refine JF.cal (JPk x y) JW JC V32 (QZ) JC JD JD ?_
   refine JF.nil (QW.fin J4 J4 ?_)
   refine JB.cnd JC (fun hb20=>?_) (fun hb20=>?_)
   ·skip
    have hr:Y2 l=false:=by
     rw [←Bool.not_eq_true]
     intro h
     have:=JOD l h (l.length-1-k-1) (by omega)
     rw [show l.length-1-k-1+1=l.length-1-k by omega,JHM hx,JHM hy] at this
     have:=of_decide_eq_true hb20
     omega
    refine JB.reg ?_
    have X:=X.a hr
    refine JA.o1 JC ?_
    refine JA.nil (JP.ret (JV.ret (JP.ret ?_)))
    exact Ends.fin [] (rs:=[.tmp 2]) rfl JC Qp
   ·skip
    refine JP.nrm (JB.reg1 ?_)
    refine JA.o1 JC ?_
    refine JA.o1 QC ?_
    refine JA.o1 JC ?_
    refine JA.nil ?_
    refine JV.nxt ?_ ?_ ?_
    ·omega
    ·exact JO.kp [0,3] [] Zl
    ·exact fun i h1 h2=>if e:i+1=l.length-1-k then (by rw [show i=l.length-1-k-1 by omega,show l.length-1-k-1+1=l.length-1-k by omega,JHM hx,JHM hy];have:=of_decide_eq_false hb20;omega) else hX i (by omega) h2
  ·skip
   have hr:Y2 l=true:=JOA l fun i hi=>hX i (by have:=of_decide_eq_false hb8;omega) hi
   refine JB.exitS (JV.ext (JP.hit (JB.reg ?_)))
   have X:=X.a hr
   refine JA.o1 JC ?_
   refine JA.nil ?_
   exact Ends.fin [] (rs:=[.tmp 2]) rfl JC Qp
theorem JQC (x:Pg)(h:x.reads.length≤1000):Jb Tryz.prog 100 [pgV x] (.bool (YW x)) []:=by
 have hle:decide ((x.reads.length:Int)≤16)=decide (x.reads.length≤16):=by rw [decide_eq_decide];omega
 refine Jq Jd Tryz.func100 rfl (by simp only [List.length_cons,List.length_nil,Tryz.ntmps100];omega) JH rfl ?_
 refine JB.reg ?_
 have X:=Fx.mk hle
 iterate 2 (refine JA.o1 Zk ?_)
 refine JA.nil (JB.reg ?_)
 refine JA.o1 Zk ?_
 refine JA.nil (JB.reg ?_)
 iterate 2 (refine JA.o1 Zk ?_)
 refine JA.c1 (JBH _ _ _) Zk Zk ?_
 refine JA.o1 Zk ?_
 iterate 4 (refine JA.gop JD Zk JD ?_)
 iterate 2 (refine JA.o1 Zk ?_)
 iterate 3 (refine JA.gop JD Zk JD ?_)
 refine JA.gcal JD (JPW (fun n=>!Qj n 0 1073741824) (ds:=[]) JW x.reads (by omega) (fun n _=>JQD n)) JW Zk V32 Zk ?_
 refine JA.gop JD Zk JD ?_
 iterate 2 (refine JA.o1 Zk ?_)
 iterate 2 (refine JA.gop JD Zk JD ?_)
 refine JA.gcal JD (JPg x.reads h) JW Zk J6 Zk ?_
 iterate 2 (refine JA.o1 Zk ?_)
 refine JA.nil ?_
 exact Ends.fin [] (rs:=[.tmp 2]) rfl Zk (by simp only [go_sem,X.h,YW,JBE,Bool.not_not]<;>first|rfl|exact QV)
theorem JLb (x:Sh):Jb Tryz.prog 130 [shV x] (.int x.meter) []:=by
 refine Jq Jd Tryz.func130 rfl (by simp only [List.length_cons,List.length_nil,Tryz.ntmps130];omega) JH rfl ?_
 refine JB.reg ?_
 iterate 2 (refine JA.o ?_)
 refine JA.nil (JB.reg ?_)
 iterate 3 (refine JA.o ?_)
 refine JA.nil ?_
 exact Ends.fin [] (rs:=[.tmp 2]) rfl JD Yn
theorem JPy (x:Sh)(h:x.tries.length≤1000):Jb Tryz.prog 161 [shV x,.leaf (.d (.pt [.fn 129 []]))] (.bool (!Ym x)) []:=by
 refine Jq Jd Tryz.func161 rfl (by simp only [List.length_cons,List.length_nil,Tryz.ntmps161];omega) JH rfl ?_
 refine JB.reg ?_
 iterate 2 (refine JA.o ?_)
 refine JA.nil (JB.reg ?_)
 iterate 2 (refine JA.o ?_)
 refine JA.calw JD (JQF x h) JW JD JD J6 (QZ) JD ?_
 iterate 2 (refine JA.o ?_)
 refine JA.nil ?_
 exact Ends.fin [] (rs:=[.tmp 3]) rfl JD Yn
theorem JP2 (l:List Sh)(most:Nat)(hl:l.length≤1000)(hm:most≤1000)(hz:∀x∈l,x.tries.length≤1000):Jb Tryz.prog 128 [.leaf (.d (Z7 l)),.int most,.leaf (.d (.fn 129 [])),.leaf (.d (.fn 130 []))] (.int (Zp l.length most (l.all Ym) (Qv (l.map Sh.meter)))) []:=by
 refine Jq Jd Tryz.func128 rfl (by simp only [List.length_cons,List.length_nil,Tryz.ntmps128];omega) JH rfl ?_
 refine JB.reg ?_
 iterate 2 (refine JA.o1 YB ?_)
 refine JA.nil (JB.blk (JB.reg ?_))
 iterate 5 (refine JA.o1 YB ?_)
 refine JA.nil ?_
 refine JB.cnd YB (fun hb10=>?_) (fun hb10=>?_)
 ·skip
  have hgt:most<l.length:=by have:=of_decide_eq_true hb10;omega
  have hr:=JCo (l.all Ym) (Qv (l.map Sh.meter)) hgt
  refine JB.reg ?_
  have X:=Fx.mk hr
  refine JA.o1 Jx ?_
  refine JA.nil (JP.ret ?_)
  exact Ends.fin [] (rs:=[.tmp 8]) rfl Jx JAi
 ·skip
  have hle:l.length≤most:=by have:=of_decide_eq_false hb10;omega
  refine JB.reg ?_
  refine JA.frz 6 JD ?_
  iterate 2 (refine JA.o1 YB ?_)
  refine JA.frz 17 JD ?_
  refine JA.c1 (JPZ (fun x=>!Ym x) (ds:=[.pt [.fn 129 []]]) JW l (by omega) (fun x hx=>JPy x (hz x hx))) YB YB ?_
  refine JA.o1 YB ?_
  refine JA.nil ?_
  refine JB.cnd YB (fun hb15=>?_) (fun hb15=>?_)
  ·skip
   have hno:l.all Ym=false:=by simpa using hb15
   have hr:=JAI (Qv (l.map Sh.meter)) hle
   refine JB.reg ?_
   have X:=(Fx.mk hno).a hr
   refine JA.o1 Jx ?_
   refine JA.nil (JP.ret ?_)
   exact Ends.fin [] (rs:=[.tmp 8]) rfl Jx JAi
  ·skip
   have hyes:l.all Ym=true:=by simpa using hb15
   refine JP.nrm (JB.assocS (JB.reg ?_))
   iterate 3 (refine JA.o1 YB ?_)
   refine JA.nil (JB.blk ?_)
   refine JB.forA [0,3,20,21] [] (l.length) (fun k=>[.slot 21 (.int k)]) (JAg (l.map Sh.meter)) (fun k=>by simp only [go_sem]<;>rfl) YB ?_ (fun k hk hX=>?_)
   ·exact JJt _
   ·skip
    refine JB.reg ?_
    refine JA.o1 YB ?_
    refine JA.nil ?_
    refine JB.cndS YB (fun hb22=>?_) (fun hb22=>?_)
    ·skip
     have hlt:=Yj hb22
     obtain ⟨x,hx⟩:=Yh hb22
     refine JB.skipS (JB.blk (JB.reg ?_))
     have X:=Fx.mk hx
     iterate 2 (refine JA.o1 Jx ?_)
     refine JA.nil ?_
     by_cases h0:k=0
     ·skip
      subst h0
      have g1:decide ((0:Int)<((0:Nat):Int))=false:=rfl
      refine JB.opk 20 ?_
      have X:=X.a g1
      iterate 3 (refine JF.o1 Jx ?_)
      iterate 14 (refine JF.s ?_)
      refine JF.o1 Jx ?_
      refine JF.nil (QW.finT JH JH JH ?_)
      refine JB.cnd Jx (fun hb41=>?_) (fun hb41=>?_)
      ·exact absurd hb41 (by simp)
      ·skip
       refine JP.nrm (JB.reg1 ?_)
       refine JA.o1 V60 ?_
       refine JA.o1 Jx ?_
       refine JA.nil ?_
       refine JV.nxt ?_ ?_ ?_
       ·omega
       ·exact JO.kp [0,3,20,21] [] JDn
       ·first|exact JCM hX hx hy JDr|exact JCL _
     ·skip
      have g1:decide ((0:Int)<(k:Int))=true:=decide_eq_true (by omega)
      obtain ⟨y,hy⟩:∃y,l[k-1]? = some y:=⟨_,List.getElem?_eq_getElem (by omega)⟩
      have t1:((k:Int)-1).toNat=k-1:=by omega
      refine JB.opk 20 ?_
      have X:=((X.a g1).a hy).a t1
      iterate 3 (refine JF.o1 Jx ?_)
      iterate 3 (refine JF.y1 Jx ?_)
      refine JF.y1 V75 ?_
      refine JF.y1 Jx ?_
      refine JF.calw JD (JLb x) JW Jx Jx J6 (QZ) Jx JD JD ?_
      iterate 3 (refine JF.y1 Jx ?_)
      refine JF.y1 V60 ?_
      refine JF.y1 V75 ?_
      refine JF.y1 Jx ?_
      refine JF.calw JD (JLb y) JW Jx Jx J6 (QZ) Jx JD JD ?_
      refine JF.y1 Jx ?_
      refine JF.o1 Jx ?_
      refine JF.nil (QW.finT JH JH JH ?_)
      refine JB.cnd Jx (fun hb41=>?_) (fun hb41=>?_)
      ·skip
       have hno:=JEd (f:=Sh.meter) (by omega) hx hy (by have:=of_decide_eq_true hb41;omega)
       have hr:=JED hle
       refine JB.reg ?_
       have X:=((X.a hyes).a hno).a hr
       refine JA.o1 Jx ?_
       refine JA.nil (JP.ret (JV.ret (JP.ret ?_)))
       exact Ends.fin [] (rs:=[.tmp 8]) rfl Jx JAi
      ·skip
       refine JP.nrm (JB.reg1 ?_)
       refine JA.o1 V60 ?_
       refine JA.o1 Jx ?_
       refine JA.nil ?_
       refine JV.nxt ?_ ?_ ?_
       ·omega
       ·exact JO.kp [0,3,20,21] [] JDn
       ·first|exact JCM hX hx hy JDr|exact JCL _
    ·skip
     have hr0:=JEc hX (Yi hb22)
     have hr:=JEC hle
     refine JB.exitS (JV.ext (JP.hit (JB.reg ?_)))
     have X:=((Fx.mk hyes).a hr0).a hr
     refine JA.o1 Jx ?_
     refine JA.nil ?_
     exact Ends.fin [] (rs:=[.tmp 8]) rfl Jx JAi
theorem JLe (l:List Sh)(hl:l.length≤1000)(hz:∀x∈l,x.tries.length≤1000):Jb Tryz.prog 80 [.leaf (.d (Z7 l))] (.int (Y9 l)) []:=by
 refine Jq Jd Tryz.func80 rfl (by simp only [List.length_cons,List.length_nil,Tryz.ntmps80];omega) JH rfl ?_
 refine JB.reg ?_
 refine JA.o1 JDs ?_
 refine JA.nil (JB.reg ?_)
 refine JA.o1 JDs ?_
 refine JA.c1 (JP2 l 12 hl (by omega) hz) JDs JDs ?_
 refine JA.o1 JDs ?_
 refine JA.nil ?_
 exact Ends.fin [] (rs:=[.tmp 2]) rfl JDs (by simp only [go_sem,Y9]<;>first|rfl|exact QV)
theorem JLa (x:Pl):Jb Tryz.prog 120 [plV x] (.int x.num) []:=by
 refine Jq Jd Tryz.func120 rfl (by simp only [List.length_cons,List.length_nil,Tryz.ntmps120];omega) JH rfl ?_
 refine JB.reg ?_
 iterate 2 (refine JA.o ?_)
 refine JA.nil (JB.reg ?_)
 iterate 3 (refine JA.o ?_)
 refine JA.nil ?_
 exact Ends.fin [] (rs:=[.tmp 2]) rfl JD Yn
theorem JPx (x:Pl):Jb Tryz.prog 155 [plV x,.leaf (.d (.pt [.fn 119 []]))] (.bool (!YR x)) []:=by
 refine Jq Jd Tryz.func155 rfl (by simp only [List.length_cons,List.length_nil,Tryz.ntmps155];omega) JH rfl ?_
 refine JB.reg ?_
 iterate 2 (refine JA.o ?_)
 refine JA.nil (JB.reg ?_)
 iterate 2 (refine JA.o ?_)
 refine JA.calw JD (JQE x) JW JD JD J6 (QZ) JD ?_
 iterate 2 (refine JA.o ?_)
 refine JA.nil ?_
 exact Ends.fin [] (rs:=[.tmp 3]) rfl JD Yn
theorem JP1 (l:List Pl)(most:Nat)(hl:l.length≤1000)(hm:most≤1000)  : Jb Tryz.prog 118 [.leaf (.d (JAU l)),.int most,.leaf (.d (.fn 119 [])),.leaf (.d (.fn 120 []))] (.int (Zp l.length most (l.all YR) (Qv (l.map Pl.num)))) []:=by
 refine Jq Jd Tryz.func118 rfl (by simp only [List.length_cons,List.length_nil,Tryz.ntmps118];omega) JH rfl ?_
 refine JB.reg ?_
 iterate 2 (refine JA.o1 YB ?_)
 refine JA.nil (JB.blk (JB.reg ?_))
 iterate 5 (refine JA.o1 YB ?_)
 refine JA.nil ?_
 refine JB.cnd YB (fun hb10=>?_) (fun hb10=>?_)
 ·skip
  have hgt:most<l.length:=by have:=of_decide_eq_true hb10;omega
  have hr:=JCo (l.all YR) (Qv (l.map Pl.num)) hgt
  refine JB.reg ?_
  have X:=Fx.mk hr
  refine JA.o1 Jx ?_
  refine JA.nil (JP.ret ?_)
  exact Ends.fin [] (rs:=[.tmp 8]) rfl Jx JAi
 ·skip
  have hle:l.length≤most:=by have:=of_decide_eq_false hb10;omega
  refine JB.reg ?_
  refine JA.frz 6 JD ?_
  iterate 2 (refine JA.o1 YB ?_)
  refine JA.frz 17 JD ?_
  refine JA.c1 (JPY (fun x=>!YR x) (ds:=[.pt [.fn 119 []]]) JW l (by omega) (fun x hx=>JPx x)) YB YB ?_
  refine JA.o1 YB ?_
  refine JA.nil ?_
  refine JB.cnd YB (fun hb15=>?_) (fun hb15=>?_)
  ·skip
   have hno:l.all YR=false:=by simpa using hb15
   have hr:=JAI (Qv (l.map Pl.num)) hle
   refine JB.reg ?_
   have X:=(Fx.mk hno).a hr
   refine JA.o1 Jx ?_
   refine JA.nil (JP.ret ?_)
   exact Ends.fin [] (rs:=[.tmp 8]) rfl Jx JAi
  ·skip
   have hyes:l.all YR=true:=by simpa using hb15
   refine JP.nrm (JB.assocS (JB.reg ?_))
   iterate 3 (refine JA.o1 YB ?_)
   refine JA.nil (JB.blk ?_)
   refine JB.forA [0,3,20,21] [] (l.length) (fun k=>[.slot 21 (.int k)]) (JAg (l.map Pl.num)) (fun k=>by simp only [go_sem]<;>rfl) YB ?_ (fun k hk hX=>?_)
   ·exact JJt _
   ·skip
    refine JB.reg ?_
    refine JA.o1 YB ?_
    refine JA.nil ?_
    refine JB.cndS YB (fun hb22=>?_) (fun hb22=>?_)
    ·skip
     have hlt:=Yj hb22
     obtain ⟨x,hx⟩:=Yh hb22
     refine JB.skipS (JB.blk (JB.reg ?_))
     have X:=Fx.mk hx
     iterate 2 (refine JA.o1 Jx ?_)
     refine JA.nil ?_
     by_cases h0:k=0
     ·skip
      subst h0
      have g1:decide ((0:Int)<((0:Nat):Int))=false:=rfl
      refine JB.opk 20 ?_
      have X:=X.a g1
      iterate 3 (refine JF.o1 Jx ?_)
      iterate 14 (refine JF.s ?_)
      refine JF.o1 Jx ?_
      refine JF.nil (QW.finT JH JH JH ?_)
      refine JB.cnd Jx (fun hb41=>?_) (fun hb41=>?_)
      ·exact absurd hb41 (by simp)
      ·skip
       refine JP.nrm (JB.reg1 ?_)
       refine JA.o1 V60 ?_
       refine JA.o1 Jx ?_
       refine JA.nil ?_
       refine JV.nxt ?_ ?_ ?_
       ·omega
       ·exact JO.kp [0,3,20,21] [] JDn
       ·first|exact JCM hX hx hy JDr|exact JCL _
     ·skip
      have g1:decide ((0:Int)<(k:Int))=true:=decide_eq_true (by omega)
      obtain ⟨y,hy⟩:∃y,l[k-1]? = some y:=⟨_,List.getElem?_eq_getElem (by omega)⟩
      have t1:((k:Int)-1).toNat=k-1:=by omega
      refine JB.opk 20 ?_
      have X:=((X.a g1).a hy).a t1
      iterate 3 (refine JF.o1 Jx ?_)
      iterate 3 (refine JF.y1 Jx ?_)
      refine JF.y1 V75 ?_
      refine JF.y1 Jx ?_
      refine JF.calw JD (JLa x) JW Jx Jx J6 (QZ) Jx JD JD ?_
      iterate 3 (refine JF.y1 Jx ?_)
      refine JF.y1 V60 ?_
      refine JF.y1 V75 ?_
      refine JF.y1 Jx ?_
      refine JF.calw JD (JLa y) JW Jx Jx J6 (QZ) Jx JD JD ?_
      refine JF.y1 Jx ?_
      refine JF.o1 Jx ?_
      refine JF.nil (QW.finT JH JH JH ?_)
      refine JB.cnd Jx (fun hb41=>?_) (fun hb41=>?_)
      ·skip
       have hno:=JEd (f:=Pl.num) (by omega) hx hy (by have:=of_decide_eq_true hb41;omega)
       have hr:=JED hle
       refine JB.reg ?_
       have X:=((X.a hyes).a hno).a hr
       refine JA.o1 Jx ?_
       refine JA.nil (JP.ret (JV.ret (JP.ret ?_)))
       exact Ends.fin [] (rs:=[.tmp 8]) rfl Jx JAi
      ·skip
       refine JP.nrm (JB.reg1 ?_)
       refine JA.o1 V60 ?_
       refine JA.o1 Jx ?_
       refine JA.nil ?_
       refine JV.nxt ?_ ?_ ?_
       ·omega
       ·exact JO.kp [0,3,20,21] [] JDn
       ·first|exact JCM hX hx hy JDr|exact JCL _
    ·skip
     have hr0:=JEc hX (Yi hb22)
     have hr:=JEC hle
     refine JB.exitS (JV.ext (JP.hit (JB.reg ?_)))
     have X:=((Fx.mk hyes).a hr0).a hr
     refine JA.o1 Jx ?_
     refine JA.nil ?_
     exact Ends.fin [] (rs:=[.tmp 8]) rfl Jx JAi
theorem JGv (l:List Pl)(hl:l.length≤1000)  : Jb Tryz.prog 64 [.leaf (.d (JAU l))] (.int (ZL l)) []:=by
 refine Jq Jd Tryz.func64 rfl (by simp only [List.length_cons,List.length_nil,Tryz.ntmps64];omega) JH rfl ?_
 refine JB.reg ?_
 refine JA.o1 JDt ?_
 refine JA.nil (JB.reg ?_)
 refine JA.o1 JDt ?_
 refine JA.c1 (JP1 l 60 hl (by omega)) JDt JDt ?_
 refine JA.o1 JDt ?_
 refine JA.nil ?_
 exact Ends.fin [] (rs:=[.tmp 2]) rfl JDt (by simp only [go_sem,ZL]<;>first|rfl|exact QV)
theorem JLZ (x:Pg):Jb Tryz.prog 101 [pgV x] (.int x.house) []:=by
 refine Jq Jd Tryz.func101 rfl (by simp only [List.length_cons,List.length_nil,Tryz.ntmps101];omega) JH rfl ?_
 refine JB.reg ?_
 iterate 2 (refine JA.o ?_)
 refine JA.nil (JB.reg ?_)
 iterate 3 (refine JA.o ?_)
 refine JA.nil ?_
 exact Ends.fin [] (rs:=[.tmp 2]) rfl JD Yn
theorem JPw (x:Pg)(h:x.reads.length≤1000):Jb Tryz.prog 140 [pgV x,.leaf (.d (.pt [.fn 100 []]))] (.bool (!YW x)) []:=by
 refine Jq Jd Tryz.func140 rfl (by simp only [List.length_cons,List.length_nil,Tryz.ntmps140];omega) JH rfl ?_
 refine JB.reg ?_
 iterate 2 (refine JA.o ?_)
 refine JA.nil (JB.reg ?_)
 iterate 2 (refine JA.o ?_)
 refine JA.calw JD (JQC x h) JW JD JD J6 (QZ) JD ?_
 iterate 2 (refine JA.o ?_)
 refine JA.nil ?_
 exact Ends.fin [] (rs:=[.tmp 3]) rfl JD Yn
theorem JP0 (l:List Pg)(most:Nat)(hl:l.length≤1000)(hm:most≤1000)(hz:∀x∈l,x.reads.length≤1000):Jb Tryz.prog 99 [.leaf (.d (Z6 l)),.int most,.leaf (.d (.fn 100 [])),.leaf (.d (.fn 101 []))] (.int (Zp l.length most (l.all YW) (Qv (l.map Pg.house)))) []:=by
 refine Jq Jd Tryz.func99 rfl (by simp only [List.length_cons,List.length_nil,Tryz.ntmps99];omega) JH rfl ?_
 refine JB.reg ?_
 iterate 2 (refine JA.o1 YB ?_)
 refine JA.nil (JB.blk (JB.reg ?_))
 iterate 5 (refine JA.o1 YB ?_)
 refine JA.nil ?_
 refine JB.cnd YB (fun hb10=>?_) (fun hb10=>?_)
 ·skip
  have hgt:most<l.length:=by have:=of_decide_eq_true hb10;omega
  have hr:=JCo (l.all YW) (Qv (l.map Pg.house)) hgt
  refine JB.reg ?_
  have X:=Fx.mk hr
  refine JA.o1 Jx ?_
  refine JA.nil (JP.ret ?_)
  exact Ends.fin [] (rs:=[.tmp 8]) rfl Jx JAi
 ·skip
  have hle:l.length≤most:=by have:=of_decide_eq_false hb10;omega
  refine JB.reg ?_
  refine JA.frz 6 JD ?_
  iterate 2 (refine JA.o1 YB ?_)
  refine JA.frz 17 JD ?_
  refine JA.c1 (JPX (fun x=>!YW x) (ds:=[.pt [.fn 100 []]]) JW l (by omega) (fun x hx=>JPw x (hz x hx))) YB YB ?_
  refine JA.o1 YB ?_
  refine JA.nil ?_
  refine JB.cnd YB (fun hb15=>?_) (fun hb15=>?_)
  ·skip
   have hno:l.all YW=false:=by simpa using hb15
   have hr:=JAI (Qv (l.map Pg.house)) hle
   refine JB.reg ?_
   have X:=(Fx.mk hno).a hr
   refine JA.o1 Jx ?_
   refine JA.nil (JP.ret ?_)
   exact Ends.fin [] (rs:=[.tmp 8]) rfl Jx JAi
  ·skip
   have hyes:l.all YW=true:=by simpa using hb15
   refine JP.nrm (JB.assocS (JB.reg ?_))
   iterate 3 (refine JA.o1 YB ?_)
   refine JA.nil (JB.blk ?_)
   refine JB.forA [0,3,20,21] [] (l.length) (fun k=>[.slot 21 (.int k)]) (JAg (l.map Pg.house)) (fun k=>by simp only [go_sem]<;>rfl) YB ?_ (fun k hk hX=>?_)
   ·exact JJt _
   ·skip
    refine JB.reg ?_
    refine JA.o1 YB ?_
    refine JA.nil ?_
    refine JB.cndS YB (fun hb22=>?_) (fun hb22=>?_)
    ·skip
     have hlt:=Yj hb22
     obtain ⟨x,hx⟩:=Yh hb22
     refine JB.skipS (JB.blk (JB.reg ?_))
     have X:=Fx.mk hx
     iterate 2 (refine JA.o1 Jx ?_)
     refine JA.nil ?_
     by_cases h0:k=0
     ·skip
      subst h0
      have g1:decide ((0:Int)<((0:Nat):Int))=false:=rfl
      refine JB.opk 20 ?_
      have X:=X.a g1
      iterate 3 (refine JF.o1 Jx ?_)
      iterate 14 (refine JF.s ?_)
      refine JF.o1 Jx ?_
      refine JF.nil (QW.finT JH JH JH ?_)
      refine JB.cnd Jx (fun hb41=>?_) (fun hb41=>?_)
      ·exact absurd hb41 (by simp)
      ·skip
       refine JP.nrm (JB.reg1 ?_)
       refine JA.o1 V60 ?_
       refine JA.o1 Jx ?_
       refine JA.nil ?_
       refine JV.nxt ?_ ?_ ?_
       ·omega
       ·exact JO.kp [0,3,20,21] [] JDn
       ·first|exact JCM hX hx hy JDr|exact JCL _
     ·skip
      have g1:decide ((0:Int)<(k:Int))=true:=decide_eq_true (by omega)
      obtain ⟨y,hy⟩:∃y,l[k-1]? = some y:=⟨_,List.getElem?_eq_getElem (by omega)⟩
      have t1:((k:Int)-1).toNat=k-1:=by omega
      refine JB.opk 20 ?_
      have X:=((X.a g1).a hy).a t1
      iterate 3 (refine JF.o1 Jx ?_)
      iterate 3 (refine JF.y1 Jx ?_)
      refine JF.y1 V75 ?_
      refine JF.y1 Jx ?_
      refine JF.calw JD (JLZ x) JW Jx Jx J6 (QZ) Jx JD JD ?_
      iterate 3 (refine JF.y1 Jx ?_)
      refine JF.y1 V60 ?_
      refine JF.y1 V75 ?_
      refine JF.y1 Jx ?_
      refine JF.calw JD (JLZ y) JW Jx Jx J6 (QZ) Jx JD JD ?_
      refine JF.y1 Jx ?_
      refine JF.o1 Jx ?_
      refine JF.nil (QW.finT JH JH JH ?_)
      refine JB.cnd Jx (fun hb41=>?_) (fun hb41=>?_)
      ·skip
       have hno:=JEd (f:=Pg.house) (by omega) hx hy (by have:=of_decide_eq_true hb41;omega)
       have hr:=JED hle
       refine JB.reg ?_
       have X:=((X.a hyes).a hno).a hr
       refine JA.o1 Jx ?_
       refine JA.nil (JP.ret (JV.ret (JP.ret ?_)))
       exact Ends.fin [] (rs:=[.tmp 8]) rfl Jx JAi
      ·skip
       refine JP.nrm (JB.reg1 ?_)
       refine JA.o1 V60 ?_
       refine JA.o1 Jx ?_
       refine JA.nil ?_
       refine JV.nxt ?_ ?_ ?_
       ·omega
       ·exact JO.kp [0,3,20,21] [] JDn
       ·first|exact JCM hX hx hy JDr|exact JCL _
    ·skip
     have hr0:=JEc hX (Yi hb22)
     have hr:=JEC hle
     refine JB.exitS (JV.ext (JP.hit (JB.reg ?_)))
     have X:=((Fx.mk hyes).a hr0).a hr
     refine JA.o1 Jx ?_
     refine JA.nil ?_
     exact Ends.fin [] (rs:=[.tmp 8]) rfl Jx JAi
theorem JLc (l:List Pg)(hl:l.length≤1000)(hz:∀x∈l,x.reads.length≤1000):Jb Tryz.prog 45 [.leaf (.d (Z6 l))] (.int (Y1 l)) []:=by
 refine Jq Jd Tryz.func45 rfl (by simp only [List.length_cons,List.length_nil,Tryz.ntmps45];omega) JH rfl ?_
 refine JB.reg ?_
 refine JA.o1 JDu ?_
 refine JA.nil (JB.reg ?_)
 refine JA.o1 JDu ?_
 refine JA.c1 (JP0 l 32 hl (by omega) hz) JDu JDu ?_
 refine JA.o1 JDu ?_
 refine JA.nil ?_
 exact Ends.fin [] (rs:=[.tmp 2]) rfl JDu (by simp only [go_sem,Y1]<;>first|rfl|exact QV)
end Go.Mw

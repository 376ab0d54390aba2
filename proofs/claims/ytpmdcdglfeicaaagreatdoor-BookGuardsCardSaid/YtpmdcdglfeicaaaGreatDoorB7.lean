/- Contracts of the functions that the book reaches: what is valid, by the program. -/
import Derived.Test.YtpmdcdglfeicaaaGreatDoorD1
import Derived.Test.YtpmdcdglfeicaaaGreatDoorB4
import Derived.Test.YtpmdcdglfeicaaaGreatDoorB6
set_option maxRecDepth 20000
set_option maxHeartbeats 4000000
set_option linter.unusedSimpArgs false
set_option linter.unusedVariables false
set_option linter.unusedSectionVars false
set_option linter.deprecated false
namespace Go.Mw
open Go.Proofs
open Go.Bk
attribute [local go_sem] decide_true beq_self_eq_true bne_self_eq_false
theorem JBL {α:Type}{p:α→Bool}(l:List α):l.any (fun s=>!p s) = !l.all p:=by rw [List.not_all_eq_any_not]
def JB1 (l:List Int)(k:Nat):Prop:=∀i,i+1<k→l.getD i 0<l.getD (i+1) 0
theorem JN7:∀(l:List Int),JB1 l l.length→ZA l=true
 |[],_=>rfl
 |[_],_=>rfl
 |a::b::l,h=>by
  have h0:a<b:=h 0 (by simp)
  have h1:JB1 (b::l) (b::l).length:=fun i hi=>h (i+1) (by simp at hi ⊢;omega)
  simp only [ZA,decide_eq_true h0,JN7 (b::l) h1,Bool.and_true]
theorem JN8:∀(l:List Int),ZA l=true→∀i,i+1<l.length→l.getD i 0<l.getD (i+1) 0
 |[],_,i,hi=>by simp at hi
 |[_],_,i,hi=>by simp at hi
 |a::b::l,h,0,_=>by simp only [ZA,Bool.and_eq_true,decide_eq_true_eq] at h;exact h.1
 |a::b::l,h,i+1,hi=>by
  simp only [ZA,Bool.and_eq_true] at h
  exact JN8 (b::l) h.2 i (by simp at hi ⊢;omega)
theorem JEf {α:Type}{f:α→Int}{l:List α}{k:Nat}{x y:α}(h:JB1 (l.map f) k)(hx:l[k]? = some x)(hy:l[k-1]? = some y)(hxy:f y<f x):JB1 (l.map f) (k+1):=fun i hi=>by
 by_cases e:i+1<k
 ·exact h i e
 ·have:i+1=k:=by omega
  subst this
  have e1:(l.map f).getD i 0=f y:=by simp [List.getD,show l[i]? = some y from hy]
  have e2:(l.map f).getD (i+1) 0=f x:=by simp [List.getD,hx]
  rw [e1,e2];exact hxy
theorem JEe (l:List Int):JB1 l 1:=fun i hi=>absurd hi (by omega)
theorem JKA (l:List Int):JB1 l 0:=fun i hi=>absurd hi (by omega)
theorem JJ9 {α:Type}{f:α→Int}{l:List α}{k:Nat}{x y:α}(hk:0<k)(hx:l[k]? = some x)(hy:l[k-1]? = some y)(hxy:¬f y<f x):ZA (l.map f)=false:=by
 rw [←Bool.not_eq_true]
 intro h
 have hl:=(List.getElem?_eq_some_iff.1 hx).1
 have:=JN8 _ h (k-1) JAN
 rw [show k-1+1=k by omega] at this
 have e1:(l.map f).getD (k-1) 0=f y:=by simp [List.getD,hy]
 have e2:(l.map f).getD k 0=f x:=by simp [List.getD,hx]
 rw [e1,e2] at this
 exact hxy this
theorem JJ8 {α:Type}{f:α→Int}{l:List α}{k:Nat}(h:JB1 (l.map f) k)(hk:l.length≤k):ZA (l.map f)=true:=JN7 _ fun i hi=>h i (by simp at hi;omega)
theorem JFH {n most:Nat}(ok rise:Bool)(h:most<n):JAS n most ok rise=3:=if_pos h
theorem JIq {n most:Nat}(rise:Bool)(h:n≤most):JAS n most false rise=1:=by unfold JAS;rw [if_neg (by omega)];rfl
theorem JIr {n most:Nat}(h:n≤most):JAS n most true false=7:=by unfold JAS;rw [if_neg (by omega)];rfl
theorem JIp {n most:Nat}(h:n≤most):JAS n most true true=0:=by unfold JAS;rw [if_neg (by omega)];rfl
theorem JOk:∀(l:List Int),(∀i,i+1<l.length→l.getD i 0≤l.getD (i+1) 0)→JBD l=true
 |[],_=>rfl
 |[_],_=>rfl
 |a::b::l,h=>by
  have h0:a≤b:=h 0 (by simp)
  have h1:∀i,i+1<(b::l).length→(b::l).getD i 0≤(b::l).getD (i+1) 0:=fun i hi=>h (i+1) (by simp at hi ⊢;omega)
  simp only [JBD,decide_eq_true h0,JOk (b::l) h1,Bool.and_true]
theorem JOm:∀(l:List Int),JBD l=true→∀i,i+1<l.length→l.getD i 0≤l.getD (i+1) 0
 |[],_,i,hi=>by simp at hi
 |[_],_,i,hi=>by simp at hi
 |a::b::l,h,0,_=>by simp only [JBD,Bool.and_eq_true,decide_eq_true_eq] at h;exact h.1
 |a::b::l,h,i+1,hi=>by
  simp only [JBD,Bool.and_eq_true] at h
  exact JOm (b::l) h.2 i (by simp at hi ⊢;omega)
theorem JHS {l:List Int}{i:Nat}{x:Int}(h:l[i]? = some x):l.getD i 0=x:=by simp [List.getD,h]
theorem JQL {g:FuncId}{ds:List D}(p:Int→Bool)(hg:JN Tryz.prog g=true)(l:List Int)(hl:l.length≤100000)(hp:∀s,s∈l→Ja Tryz.prog g (.int s::ds.map fun x=>.leaf (.d x)) (.bool (p s)) []):Ja Tryz.prog 173 [.leaf (.d (.sl 1 (l.map ZR))),.leaf (.d (.fn g ds))] (.int (JCW (l.findIdx? p))) []:=by
 refine Js Jc Tryz.func173 rfl (by simp only [List.length_cons,List.length_nil,Tryz.ntmps173];omega) JI rfl ?_
 refine JB.reg ?_
 refine JA.o ?_
 refine JA.nil (JB.assocS (JB.reg ?_))
 iterate 3 (refine JA.o ?_)
 refine JA.nil (JB.blk ?_)
 refine JB.forA [0,1,7,8] [] (l.length) (fun k=>[.slot 8 (.int k)]) (fun k=>(l.take k).any p=false) (fun k=>by simp only [go_sem]<;>rfl) JD ?_ (fun k hk hX=>?_)
 ·rfl
 ·skip
  refine JB.reg ?_
  refine JA.o ?_
  refine JA.nil ?_
  refine JB.cndS JD (fun hb9=>?_) (fun hb9=>?_)
  ·skip
   have hlt:=ZU hb9
   obtain ⟨s,hs⟩:=ZQ hb9
   refine JB.skipS (JB.blk (JB.reg ?_))
   have X:=Fx.mk hs
   iterate 2 (refine JA.o1 JC ?_)
   refine JA.nil (JB.reg ?_)
   iterate 3 (refine JA.o1 JC ?_)
   refine JA.o1 YE ?_
   refine JA.o1 JC ?_
   refine JA.calw JD (hp s (List.mem_of_getElem? hs)) (by assumption) JC JC V92 (Qm) JC ?_
   refine JA.nil ?_
   refine JB.cnd JC (fun hb16=>?_) (fun hb16=>?_)
   ·skip
    have hr:=JFf hX hs hb16
    refine JB.reg ?_
    have X:=X.a hr
    iterate 2 (refine JA.o1 ZO ?_)
    refine JA.nil (JY.ret (Jb.ret (JY.ret ?_)))
    exact Ends.fin [] (rs:=[.tmp 4]) rfl ZO JBc
   ·skip
    refine JY.nrm (JB.reg1 ?_)
    refine JA.o1 J4 ?_
    refine JA.o1 JC ?_
    refine JA.nil ?_
    refine Jb.nxt ?_ ?_ ?_
    ·omega
    ·exact JO.kp [0,1,7,8] [] ZI
    ·exact JE5 hX hs hb16
  ·skip
   have hr:=JFg hX (ZS hb9)
   refine JB.exitS (Jb.ext (JY.hit (JB.reg ?_)))
   have X:=Fx.mk hr
   refine JA.o1 ZO ?_
   refine JA.nil ?_
   exact Ends.fin [] (rs:=[.tmp 4]) rfl ZO JBc
theorem JQF {g:FuncId}{ds:List D}(p:Int→Bool)(hg:JN Tryz.prog g=true)(l:List Int)(hl:l.length≤100000)(hp:∀s,s∈l→Ja Tryz.prog g (.int s::ds.map fun x=>.leaf (.d x)) (.bool (p s)) []):Ja Tryz.prog 143 [.leaf (.d (.sl 1 (l.map ZR))),.leaf (.d (.fn g ds))] (.bool (l.any p)) []:=by
 refine Js Jc Tryz.func143 rfl (by simp only [List.length_cons,List.length_nil,Tryz.ntmps143];omega) JI rfl ?_
 refine JB.reg ?_
 refine JA.o1 Yb ?_
 refine JA.nil (JB.reg ?_)
 iterate 2 (refine JA.o1 Yb ?_)
 refine JA.c1 (JQL p hg l hl hp) Yb Yb ?_
 iterate 2 (refine JA.o1 Yb ?_)
 refine JA.nil ?_
 exact Ends.fin [] (rs:=[.tmp 4]) rfl Yb JEv
theorem JQP {g:FuncId}{ds:List D}(p:Tr→Bool)(hg:JN Tryz.prog g=true)(l:List Tr)(hl:l.length≤100000)(hp:∀s,s∈l→Ja Tryz.prog g (trV s::ds.map fun x=>.leaf (.d x)) (.bool (p s)) []):Ja Tryz.prog 193 [.leaf (.d (.sl 3 (l.map Yd))),.leaf (.d (.fn g ds))] (.int (JCW (l.findIdx? p))) []:=by
 refine Js Jc Tryz.func193 rfl (by simp only [List.length_cons,List.length_nil,Tryz.ntmps193];omega) JI rfl ?_
 refine JB.reg ?_
 refine JA.o ?_
 refine JA.nil (JB.assocS (JB.reg ?_))
 iterate 3 (refine JA.o ?_)
 refine JA.nil (JB.blk ?_)
 refine JB.forA [0,1,7,8] [] (l.length) (fun k=>[.slot 8 (.int k)]) (fun k=>(l.take k).any p=false) (fun k=>by simp only [go_sem]<;>rfl) JD ?_ (fun k hk hX=>?_)
 ·rfl
 ·skip
  refine JB.reg ?_
  refine JA.o ?_
  refine JA.nil ?_
  refine JB.cndS JD (fun hb9=>?_) (fun hb9=>?_)
  ·skip
   have hlt:=ZU hb9
   obtain ⟨s,hs⟩:=ZQ hb9
   refine JB.skipS (JB.blk (JB.reg ?_))
   have X:=Fx.mk hs
   iterate 2 (refine JA.o1 JC ?_)
   refine JA.nil (JB.reg ?_)
   iterate 3 (refine JA.o1 JC ?_)
   refine JA.o1 YE ?_
   refine JA.o1 JC ?_
   refine JA.calw JD (hp s (List.mem_of_getElem? hs)) (by assumption) JC JC V92 (Qm) JC ?_
   refine JA.nil ?_
   refine JB.cnd JC (fun hb16=>?_) (fun hb16=>?_)
   ·skip
    have hr:=JFf hX hs hb16
    refine JB.reg ?_
    have X:=X.a hr
    iterate 2 (refine JA.o1 ZO ?_)
    refine JA.nil (JY.ret (Jb.ret (JY.ret ?_)))
    exact Ends.fin [] (rs:=[.tmp 4]) rfl ZO JBc
   ·skip
    refine JY.nrm (JB.reg1 ?_)
    refine JA.o1 J4 ?_
    refine JA.o1 JC ?_
    refine JA.nil ?_
    refine Jb.nxt ?_ ?_ ?_
    ·omega
    ·exact JO.kp [0,1,7,8] [] ZI
    ·exact JE5 hX hs hb16
  ·skip
   have hr:=JFg hX (ZS hb9)
   refine JB.exitS (Jb.ext (JY.hit (JB.reg ?_)))
   have X:=Fx.mk hr
   refine JA.o1 ZO ?_
   refine JA.nil ?_
   exact Ends.fin [] (rs:=[.tmp 4]) rfl ZO JBc
theorem JQJ {g:FuncId}{ds:List D}(p:Tr→Bool)(hg:JN Tryz.prog g=true)(l:List Tr)(hl:l.length≤100000)(hp:∀s,s∈l→Ja Tryz.prog g (trV s::ds.map fun x=>.leaf (.d x)) (.bool (p s)) []):Ja Tryz.prog 163 [.leaf (.d (.sl 3 (l.map Yd))),.leaf (.d (.fn g ds))] (.bool (l.any p)) []:=by
 refine Js Jc Tryz.func163 rfl (by simp only [List.length_cons,List.length_nil,Tryz.ntmps163];omega) JI rfl ?_
 refine JB.reg ?_
 refine JA.o1 Yb ?_
 refine JA.nil (JB.reg ?_)
 iterate 2 (refine JA.o1 Yb ?_)
 refine JA.c1 (JQP p hg l hl hp) Yb Yb ?_
 iterate 2 (refine JA.o1 Yb ?_)
 refine JA.nil ?_
 exact Ends.fin [] (rs:=[.tmp 4]) rfl Yb JEv
theorem JQO {g:FuncId}{ds:List D}(p:Sh→Bool)(hg:JN Tryz.prog g=true)(l:List Sh)(hl:l.length≤100000)(hp:∀s,s∈l→Ja Tryz.prog g (shV s::ds.map fun x=>.leaf (.d x)) (.bool (p s)) []):Ja Tryz.prog 192 [.leaf (.d (.sl 2 (l.map Zm))),.leaf (.d (.fn g ds))] (.int (JCW (l.findIdx? p))) []:=by
 refine Js Jc Tryz.func192 rfl (by simp only [List.length_cons,List.length_nil,Tryz.ntmps192];omega) JI rfl ?_
 refine JB.reg ?_
 refine JA.o ?_
 refine JA.nil (JB.assocS (JB.reg ?_))
 iterate 3 (refine JA.o ?_)
 refine JA.nil (JB.blk ?_)
 refine JB.forA [0,1,7,8] [] (l.length) (fun k=>[.slot 8 (.int k)]) (fun k=>(l.take k).any p=false) (fun k=>by simp only [go_sem]<;>rfl) JD ?_ (fun k hk hX=>?_)
 ·rfl
 ·skip
  refine JB.reg ?_
  refine JA.o ?_
  refine JA.nil ?_
  refine JB.cndS JD (fun hb9=>?_) (fun hb9=>?_)
  ·skip
   have hlt:=ZU hb9
   obtain ⟨s,hs⟩:=ZQ hb9
   refine JB.skipS (JB.blk (JB.reg ?_))
   have X:=Fx.mk hs
   iterate 2 (refine JA.o1 JC ?_)
   refine JA.nil (JB.reg ?_)
   iterate 3 (refine JA.o1 JC ?_)
   refine JA.o1 YE ?_
   refine JA.o1 JC ?_
   refine JA.calw JD (hp s (List.mem_of_getElem? hs)) (by assumption) JC JC V92 (Qm) JC ?_
   refine JA.nil ?_
   refine JB.cnd JC (fun hb16=>?_) (fun hb16=>?_)
   ·skip
    have hr:=JFf hX hs hb16
    refine JB.reg ?_
    have X:=X.a hr
    iterate 2 (refine JA.o1 ZO ?_)
    refine JA.nil (JY.ret (Jb.ret (JY.ret ?_)))
    exact Ends.fin [] (rs:=[.tmp 4]) rfl ZO JBc
   ·skip
    refine JY.nrm (JB.reg1 ?_)
    refine JA.o1 J4 ?_
    refine JA.o1 JC ?_
    refine JA.nil ?_
    refine Jb.nxt ?_ ?_ ?_
    ·omega
    ·exact JO.kp [0,1,7,8] [] ZI
    ·exact JE5 hX hs hb16
  ·skip
   have hr:=JFg hX (ZS hb9)
   refine JB.exitS (Jb.ext (JY.hit (JB.reg ?_)))
   have X:=Fx.mk hr
   refine JA.o1 ZO ?_
   refine JA.nil ?_
   exact Ends.fin [] (rs:=[.tmp 4]) rfl ZO JBc
theorem JQI {g:FuncId}{ds:List D}(p:Sh→Bool)(hg:JN Tryz.prog g=true)(l:List Sh)(hl:l.length≤100000)(hp:∀s,s∈l→Ja Tryz.prog g (shV s::ds.map fun x=>.leaf (.d x)) (.bool (p s)) []):Ja Tryz.prog 160 [.leaf (.d (.sl 2 (l.map Zm))),.leaf (.d (.fn g ds))] (.bool (l.any p)) []:=by
 refine Js Jc Tryz.func160 rfl (by simp only [List.length_cons,List.length_nil,Tryz.ntmps160];omega) JI rfl ?_
 refine JB.reg ?_
 refine JA.o1 Yb ?_
 refine JA.nil (JB.reg ?_)
 iterate 2 (refine JA.o1 Yb ?_)
 refine JA.c1 (JQO p hg l hl hp) Yb Yb ?_
 iterate 2 (refine JA.o1 Yb ?_)
 refine JA.nil ?_
 exact Ends.fin [] (rs:=[.tmp 4]) rfl Yb JEv
theorem JQN {g:FuncId}{ds:List D}(p:Pl→Bool)(hg:JN Tryz.prog g=true)(l:List Pl)(hl:l.length≤100000)(hp:∀s,s∈l→Ja Tryz.prog g (plV s::ds.map fun x=>.leaf (.d x)) (.bool (p s)) []):Ja Tryz.prog 186 [.leaf (.d (.sl 3 (l.map JAR))),.leaf (.d (.fn g ds))] (.int (JCW (l.findIdx? p))) []:=by
 refine Js Jc Tryz.func186 rfl (by simp only [List.length_cons,List.length_nil,Tryz.ntmps186];omega) JI rfl ?_
 refine JB.reg ?_
 refine JA.o ?_
 refine JA.nil (JB.assocS (JB.reg ?_))
 iterate 3 (refine JA.o ?_)
 refine JA.nil (JB.blk ?_)
 refine JB.forA [0,1,7,8] [] (l.length) (fun k=>[.slot 8 (.int k)]) (fun k=>(l.take k).any p=false) (fun k=>by simp only [go_sem]<;>rfl) JD ?_ (fun k hk hX=>?_)
 ·rfl
 ·skip
  refine JB.reg ?_
  refine JA.o ?_
  refine JA.nil ?_
  refine JB.cndS JD (fun hb9=>?_) (fun hb9=>?_)
  ·skip
   have hlt:=ZU hb9
   obtain ⟨s,hs⟩:=ZQ hb9
   refine JB.skipS (JB.blk (JB.reg ?_))
   have X:=Fx.mk hs
   iterate 2 (refine JA.o1 JC ?_)
   refine JA.nil (JB.reg ?_)
   iterate 3 (refine JA.o1 JC ?_)
   refine JA.o1 YE ?_
   refine JA.o1 JC ?_
   refine JA.calw JD (hp s (List.mem_of_getElem? hs)) (by assumption) JC JC V92 (Qm) JC ?_
   refine JA.nil ?_
   refine JB.cnd JC (fun hb16=>?_) (fun hb16=>?_)
   ·skip
    have hr:=JFf hX hs hb16
    refine JB.reg ?_
    have X:=X.a hr
    iterate 2 (refine JA.o1 ZO ?_)
    refine JA.nil (JY.ret (Jb.ret (JY.ret ?_)))
    exact Ends.fin [] (rs:=[.tmp 4]) rfl ZO JBc
   ·skip
    refine JY.nrm (JB.reg1 ?_)
    refine JA.o1 J4 ?_
    refine JA.o1 JC ?_
    refine JA.nil ?_
    refine Jb.nxt ?_ ?_ ?_
    ·omega
    ·exact JO.kp [0,1,7,8] [] ZI
    ·exact JE5 hX hs hb16
  ·skip
   have hr:=JFg hX (ZS hb9)
   refine JB.exitS (Jb.ext (JY.hit (JB.reg ?_)))
   have X:=Fx.mk hr
   refine JA.o1 ZO ?_
   refine JA.nil ?_
   exact Ends.fin [] (rs:=[.tmp 4]) rfl ZO JBc
theorem JQH {g:FuncId}{ds:List D}(p:Pl→Bool)(hg:JN Tryz.prog g=true)(l:List Pl)(hl:l.length≤100000)(hp:∀s,s∈l→Ja Tryz.prog g (plV s::ds.map fun x=>.leaf (.d x)) (.bool (p s)) []):Ja Tryz.prog 154 [.leaf (.d (.sl 3 (l.map JAR))),.leaf (.d (.fn g ds))] (.bool (l.any p)) []:=by
 refine Js Jc Tryz.func154 rfl (by simp only [List.length_cons,List.length_nil,Tryz.ntmps154];omega) JI rfl ?_
 refine JB.reg ?_
 refine JA.o1 Yb ?_
 refine JA.nil (JB.reg ?_)
 iterate 2 (refine JA.o1 Yb ?_)
 refine JA.c1 (JQN p hg l hl hp) Yb Yb ?_
 iterate 2 (refine JA.o1 Yb ?_)
 refine JA.nil ?_
 exact Ends.fin [] (rs:=[.tmp 4]) rfl Yb JEv
theorem JQM {g:FuncId}{ds:List D}(p:Pg→Bool)(hg:JN Tryz.prog g=true)(l:List Pg)(hl:l.length≤100000)(hp:∀s,s∈l→Ja Tryz.prog g (pgV s::ds.map fun x=>.leaf (.d x)) (.bool (p s)) []):Ja Tryz.prog 172 [.leaf (.d (.sl 2 (l.map JAr))),.leaf (.d (.fn g ds))] (.int (JCW (l.findIdx? p))) []:=by
 refine Js Jc Tryz.func172 rfl (by simp only [List.length_cons,List.length_nil,Tryz.ntmps172];omega) JI rfl ?_
 refine JB.reg ?_
 refine JA.o ?_
 refine JA.nil (JB.assocS (JB.reg ?_))
 iterate 3 (refine JA.o ?_)
 refine JA.nil (JB.blk ?_)
 refine JB.forA [0,1,7,8] [] (l.length) (fun k=>[.slot 8 (.int k)]) (fun k=>(l.take k).any p=false) (fun k=>by simp only [go_sem]<;>rfl) JD ?_ (fun k hk hX=>?_)
 ·rfl
 ·skip
  refine JB.reg ?_
  refine JA.o ?_
  refine JA.nil ?_
  refine JB.cndS JD (fun hb9=>?_) (fun hb9=>?_)
  ·skip
   have hlt:=ZU hb9
   obtain ⟨s,hs⟩:=ZQ hb9
   refine JB.skipS (JB.blk (JB.reg ?_))
   have X:=Fx.mk hs
   iterate 2 (refine JA.o1 JC ?_)
   refine JA.nil (JB.reg ?_)
   iterate 3 (refine JA.o1 JC ?_)
   refine JA.o1 YE ?_
   refine JA.o1 JC ?_
   refine JA.calw JD (hp s (List.mem_of_getElem? hs)) (by assumption) JC JC V92 (Qm) JC ?_
   refine JA.nil ?_
   refine JB.cnd JC (fun hb16=>?_) (fun hb16=>?_)
   ·skip
    have hr:=JFf hX hs hb16
    refine JB.reg ?_
    have X:=X.a hr
    iterate 2 (refine JA.o1 ZO ?_)
    refine JA.nil (JY.ret (Jb.ret (JY.ret ?_)))
    exact Ends.fin [] (rs:=[.tmp 4]) rfl ZO JBc
   ·skip
    refine JY.nrm (JB.reg1 ?_)
    refine JA.o1 J4 ?_
    refine JA.o1 JC ?_
    refine JA.nil ?_
    refine Jb.nxt ?_ ?_ ?_
    ·omega
    ·exact JO.kp [0,1,7,8] [] ZI
    ·exact JE5 hX hs hb16
  ·skip
   have hr:=JFg hX (ZS hb9)
   refine JB.exitS (Jb.ext (JY.hit (JB.reg ?_)))
   have X:=Fx.mk hr
   refine JA.o1 ZO ?_
   refine JA.nil ?_
   exact Ends.fin [] (rs:=[.tmp 4]) rfl ZO JBc
theorem JQG {g:FuncId}{ds:List D}(p:Pg→Bool)(hg:JN Tryz.prog g=true)(l:List Pg)(hl:l.length≤100000)(hp:∀s,s∈l→Ja Tryz.prog g (pgV s::ds.map fun x=>.leaf (.d x)) (.bool (p s)) []):Ja Tryz.prog 139 [.leaf (.d (.sl 2 (l.map JAr))),.leaf (.d (.fn g ds))] (.bool (l.any p)) []:=by
 refine Js Jc Tryz.func139 rfl (by simp only [List.length_cons,List.length_nil,Tryz.ntmps139];omega) JI rfl ?_
 refine JB.reg ?_
 refine JA.o1 Yb ?_
 refine JA.nil (JB.reg ?_)
 iterate 2 (refine JA.o1 Yb ?_)
 refine JA.c1 (JQM p hg l hl hp) Yb Yb ?_
 iterate 2 (refine JA.o1 Yb ?_)
 refine JA.nil ?_
 exact Ends.fin [] (rs:=[.tmp 4]) rfl Yb JEv
theorem JQ1 (t:Tr):Ja Tryz.prog 162 [trV t] (.bool (!Zt t)) []:=by
 refine Js Jc Tryz.func162 rfl (by simp only [List.length_cons,List.length_nil,Tryz.ntmps162];omega) JI rfl ?_
 refine JB.reg ?_
 iterate 2 (refine JA.o1 Z7 ?_)
 refine JA.nil (JB.reg ?_)
 iterate 2 (refine JA.o1 Z7 ?_)
 refine JA.c1 (JBO _ _ _) Z7 Z7 ?_
 iterate 2 (refine JA.o1 Z7 ?_)
 iterate 2 (refine JA.gop JD Z7 JD ?_)
 refine JA.gcal JD (JBO _ _ _) JV Z7 V24 Z7 ?_
 refine JA.gop JD Z7 JD ?_
 iterate 2 (refine JA.o1 Z7 ?_)
 iterate 2 (refine JA.gop JD Z7 JD ?_)
 refine JA.gcal JD (JBO _ _ _) JV Z7 V24 Z7 ?_
 refine JA.gop JD Z7 JD ?_
 iterate 2 (refine JA.o1 Z7 ?_)
 refine JA.nil ?_
 exact Ends.fin [] (rs:=[.tmp 2]) rfl Z7 (by simp only [go_sem,Zt,Bool.not_and]<;>first|rfl|exact Ql)
theorem JQ0 (x:Sh)(h:x.tries.length≤1000):Ja Tryz.prog 129 [shV x] (.bool (Z3 x)) []:=by
 have hle:decide ((x.tries.length:Int)≤6)=decide (x.tries.length≤6):=by rw [decide_eq_decide];omega
 refine Js Jc Tryz.func129 rfl (by simp only [List.length_cons,List.length_nil,Tryz.ntmps129];omega) JI rfl ?_
 refine JB.reg ?_
 have X:=Fx.mk hle
 iterate 2 (refine JA.o1 JAd ?_)
 refine JA.nil (JB.reg ?_)
 refine JA.o1 JAd ?_
 refine JA.nil (JB.reg ?_)
 iterate 2 (refine JA.o1 JAd ?_)
 refine JA.c1 (JBO _ _ _) JAd JAd ?_
 refine JA.o1 JAd ?_
 iterate 4 (refine JA.gop JD JAd JD ?_)
 iterate 2 (refine JA.o1 JAd ?_)
 iterate 3 (refine JA.gop JD JAd JD ?_)
 refine JA.gcal JD (JQJ (fun t=>!Zt t) (ds:=[]) JV x.tries (by omega) (fun t _=>JQ1 t)) JV JAd V33 JAd ?_
 refine JA.gop JD JAd JD ?_
 iterate 2 (refine JA.o1 JAd ?_)
 refine JA.nil ?_
 exact Ends.fin [] (rs:=[.tmp 2]) rfl JAd (by simp only [go_sem,X.h,Z3,JBL,Bool.not_not]<;>first|rfl|exact Ql)
theorem JQz (x:Pl):Ja Tryz.prog 119 [plV x] (.bool (JAV x)) []:=by
 refine Js Jc Tryz.func119 rfl (by simp only [List.length_cons,List.length_nil,Tryz.ntmps119];omega) JI rfl ?_
 refine JB.reg ?_
 iterate 2 (refine JA.o1 JAf ?_)
 refine JA.nil (JB.reg ?_)
 iterate 2 (refine JA.o1 JAf ?_)
 refine JA.c1 (JBO _ _ _) JAf JAf ?_
 refine JA.o1 JAf ?_
 iterate 2 (refine JA.gop JD JAf JD ?_)
 refine JA.gcal JD (JBO _ _ _) JV JAf V24 JAf ?_
 iterate 2 (refine JA.o1 JAf ?_)
 iterate 2 (refine JA.gop JD JAf JD ?_)
 refine JA.gcal JD (JBO _ _ _) JV JAf V24 JAf ?_
 iterate 2 (refine JA.o1 JAf ?_)
 refine JA.nil ?_
 exact Ends.fin [] (rs:=[.tmp 2]) rfl JAf (by simp only [go_sem,JAV]<;>first|rfl|exact Ql)
theorem JQy (n:Int):Ja Tryz.prog 141 [.int n] (.bool (!Ze n 0 1073741824)) []:=by
 refine Js Jc Tryz.func141 rfl (by simp only [List.length_cons,List.length_nil,Tryz.ntmps141];omega) JI rfl ?_
 refine JB.reg ?_
 refine JA.o ?_
 refine JA.nil (JB.reg ?_)
 refine JA.o ?_
 refine JA.c1 (JBO _ _ _) JD JD ?_
 iterate 2 (refine JA.o ?_)
 refine JA.nil ?_
 exact Ends.fin [] (rs:=[.tmp 2]) rfl JD Yj
theorem JLo (n:Int):Ja Tryz.prog 153 [.int n] (.bool false) []:=by
 refine Js Jc Tryz.func153 rfl (by simp only [List.length_cons,List.length_nil,Tryz.ntmps153];omega) JI rfl ?_
 refine JB.reg ?_
 refine JA.o ?_
 refine JA.nil (JB.reg ?_)
 iterate 4 (refine JA.o ?_)
 refine JA.nil ?_
 exact Ends.fin [] (rs:=[.tmp 2]) rfl JD Yj
theorem JQU (n m:Int):Ja Tryz.prog 174 [.int n,.int m] (.bool (decide (n<m))) []:=by
 refine Js Jc Tryz.func174 rfl (by simp only [List.length_cons,List.length_nil,Tryz.ntmps174];omega) JI rfl ?_
 refine JB.reg ?_
 refine JA.o ?_
 refine JA.nil (JB.reg ?_)
 refine JA.o ?_
 refine JA.c1 (JLo _) JD JD ?_
 refine JA.o ?_
 refine JA.gop JD JD JD ?_
 refine JA.gcal JD (JLo _) JV JD J6 JD ?_
 refine JA.gop JD JD JD ?_
 iterate 2 (refine JA.o ?_)
 iterate 3 (refine JA.gop JD JD JD ?_)
 iterate 2 (refine JA.o ?_)
 refine JA.nil ?_
 exact Ends.fin [] (rs:=[.tmp 4]) rfl JD Yj
theorem JQQ (l:List Int)(hl:l.length≤1000):Ja Tryz.prog 144 [.leaf (.d (Q5 l))] (.bool (JBD l)) []:=by
 have h64:IntKind.i64.wrap ((l.length:Int)-1)=(l.length:Int)-1:=IntWalk.i64_in _ (by omega)
 have hz0:(l.length:Int)-1-((0:Nat):Int)=(l.length:Int)-1:=by omega
 refine Js Jc Tryz.func144 rfl (by simp only [List.length_cons,List.length_nil,Tryz.ntmps144];omega) JI rfl ?_
 refine JB.reg ?_
 have X:=Fx.mk h64
 refine JA.o1 JC ?_
 refine JA.nil (JB.assocS (JB.reg ?_))
 iterate 2 (refine JA.o1 JC ?_)
 refine JA.o1 J4 ?_
 refine JA.o1 JC ?_
 refine JA.nil (JB.blk ?_)
 have X:=X.a hz0
 refine JB.forA [0,3] [] (l.length-1) (fun k=>[.slot 3 (.int ((l.length:Int)-1-k))]) (fun k=>∀i,l.length≤i+1+k→i+1<l.length→l.getD i 0≤l.getD (i+1) 0) (fun k=>by simp only [go_sem]<;>rfl) JC ?_ (fun k hk hX=>?_)
 ·exact fun i h1 h2=>absurd h1 (by omega)
 ·skip
  refine JB.assocS (JB.reg ?_)
  have X:=Fx.mk h64
  iterate 2 (refine JA.o1 JC ?_)
  refine JA.nil ?_
  refine JB.cndS JC (fun hb8=>?_) (fun hb8=>?_)
  ·skip
   have hgt:0<l.length-1-k:=by have:=of_decide_eq_true hb8;omega
   obtain ⟨x,hx⟩:∃x,l[l.length-1-k]? = some x:=⟨_,List.getElem?_eq_getElem (by omega)⟩
   obtain ⟨y,hy⟩:∃y,l[l.length-1-k-1]? = some y:=⟨_,List.getElem?_eq_getElem (by omega)⟩
   have t1:((l.length:Int)-1-(k:Int)).toNat=l.length-1-k:=by omega
   have w2:IntKind.i64.wrap ((l.length:Int)-1-(k:Int)-1)=(l.length:Int)-1-(k:Int)-1:=IntWalk.i64_in _ (by omega)
   have t2:((l.length:Int)-1-(k:Int)-1).toNat=l.length-1-k-1:=by omega
   have e3:(l.length:Int)-1-((k+1:Nat):Int)=(l.length:Int)-1-(k:Int)-1:=by omega
   refine JB.skipS (JB.blk ?_)
   refine JB.opk 12 ?_
   have X:=(((((X.a t1).a w2).a t2).a hx).a hy).a e3
   iterate 2 (refine JF.o1 JC ?_)
   refine JF.o1 YE ?_
   iterate 3 (refine JF.o1 JC ?_)
   refine JF.o1 J4 ?_
   refine JF.o1 YE ?_
   refine JF.o1 JC ?_
   refine JF.cal (JQU x y) JV JC V33 (Qm) JC JD JD ?_
   refine JF.nil (Qs.fin QB QB ?_)
   refine JB.cnd JC (fun hb20=>?_) (fun hb20=>?_)
   ·skip
    have hr:JBD l=false:=by
     rw [←Bool.not_eq_true]
     intro h
     have:=JOm l h (l.length-1-k-1) (by omega)
     rw [show l.length-1-k-1+1=l.length-1-k by omega,JHS hx,JHS hy] at this
     have:=of_decide_eq_true hb20
     omega
    refine JB.reg ?_
    have X:=X.a hr
    refine JA.o1 JC ?_
    refine JA.nil (JY.ret (Jb.ret (JY.ret ?_)))
    exact Ends.fin [] (rs:=[.tmp 2]) rfl JC YV
   ·skip
    refine JY.nrm (JB.reg1 ?_)
    refine JA.o1 JC ?_
    refine JA.o1 J4 ?_
    refine JA.o1 JC ?_
    refine JA.nil ?_
    refine Jb.nxt ?_ ?_ ?_
    ·omega
    ·exact JO.kp [0,3] [] ZI
    ·exact fun i h1 h2=>if e:i+1=l.length-1-k then (by rw [show i=l.length-1-k-1 by omega,show l.length-1-k-1+1=l.length-1-k by omega,JHS hx,JHS hy];have:=of_decide_eq_false hb20;omega) else hX i (by omega) h2
  ·skip
   have hr:JBD l=true:=JOk l fun i hi=>hX i (by have:=of_decide_eq_false hb8;omega) hi
   refine JB.exitS (Jb.ext (JY.hit (JB.reg ?_)))
   have X:=X.a hr
   refine JA.o1 JC ?_
   refine JA.nil ?_
   exact Ends.fin [] (rs:=[.tmp 2]) rfl JC YV
theorem JQx (x:Pg)(h:x.reads.length≤1000):Ja Tryz.prog 100 [pgV x] (.bool (ZF x)) []:=by
 have hle:decide ((x.reads.length:Int)≤16)=decide (x.reads.length≤16):=by rw [decide_eq_decide];omega
 refine Js Jc Tryz.func100 rfl (by simp only [List.length_cons,List.length_nil,Tryz.ntmps100];omega) JI rfl ?_
 refine JB.reg ?_
 have X:=Fx.mk hle
 iterate 2 (refine JA.o1 Zj ?_)
 refine JA.nil (JB.reg ?_)
 refine JA.o1 Zj ?_
 refine JA.nil (JB.reg ?_)
 iterate 2 (refine JA.o1 Zj ?_)
 refine JA.c1 (JBO _ _ _) Zj Zj ?_
 refine JA.o1 Zj ?_
 iterate 4 (refine JA.gop JD Zj JD ?_)
 iterate 2 (refine JA.o1 Zj ?_)
 iterate 3 (refine JA.gop JD Zj JD ?_)
 refine JA.gcal JD (JQF (fun n=>!Ze n 0 1073741824) (ds:=[]) JV x.reads (by omega) (fun n _=>JQy n)) JV Zj V33 Zj ?_
 refine JA.gop JD Zj JD ?_
 iterate 2 (refine JA.o1 Zj ?_)
 iterate 2 (refine JA.gop JD Zj JD ?_)
 refine JA.gcal JD (JQQ x.reads h) JV Zj J6 Zj ?_
 iterate 2 (refine JA.o1 Zj ?_)
 refine JA.nil ?_
 exact Ends.fin [] (rs:=[.tmp 2]) rfl Zj (by simp only [go_sem,X.h,ZF,JBL,Bool.not_not]<;>first|rfl|exact Ql)
theorem JLr (x:Sh):Ja Tryz.prog 130 [shV x] (.int x.meter) []:=by
 refine Js Jc Tryz.func130 rfl (by simp only [List.length_cons,List.length_nil,Tryz.ntmps130];omega) JI rfl ?_
 refine JB.reg ?_
 iterate 2 (refine JA.o ?_)
 refine JA.nil (JB.reg ?_)
 iterate 3 (refine JA.o ?_)
 refine JA.nil ?_
 exact Ends.fin [] (rs:=[.tmp 2]) rfl JD Yj
theorem JQi (x:Sh)(h:x.tries.length≤1000):Ja Tryz.prog 161 [shV x,.leaf (.d (.pt [.fn 129 []]))] (.bool (!Z3 x)) []:=by
 refine Js Jc Tryz.func161 rfl (by simp only [List.length_cons,List.length_nil,Tryz.ntmps161];omega) JI rfl ?_
 refine JB.reg ?_
 iterate 2 (refine JA.o ?_)
 refine JA.nil (JB.reg ?_)
 iterate 2 (refine JA.o ?_)
 refine JA.calw JD (JQ0 x h) JV JD JD J6 (Qm) JD ?_
 iterate 2 (refine JA.o ?_)
 refine JA.nil ?_
 exact Ends.fin [] (rs:=[.tmp 3]) rfl JD Yj
theorem JQn (l:List Sh)(most:Nat)(hl:l.length≤1000)(hm:most≤1000)(hz:∀x∈l,x.tries.length≤1000):Ja Tryz.prog 128 [.leaf (.d (JAY l)),.int most,.leaf (.d (.fn 129 [])),.leaf (.d (.fn 130 []))] (.int (JAS l.length most (l.all Z3) (ZA (l.map Sh.meter)))) []:=by
 refine Js Jc Tryz.func128 rfl (by simp only [List.length_cons,List.length_nil,Tryz.ntmps128];omega) JI rfl ?_
 refine JB.reg ?_
 iterate 2 (refine JA.o1 YQ ?_)
 refine JA.nil (JB.blk (JB.reg ?_))
 iterate 5 (refine JA.o1 YQ ?_)
 refine JA.nil ?_
 refine JB.cnd YQ (fun hb10=>?_) (fun hb10=>?_)
 ·skip
  have hgt:most<l.length:=by have:=of_decide_eq_true hb10;omega
  have hr:=JFH (l.all Z3) (ZA (l.map Sh.meter)) hgt
  refine JB.reg ?_
  have X:=Fx.mk hr
  refine JA.o1 Jx ?_
  refine JA.nil (JY.ret ?_)
  exact Ends.fin [] (rs:=[.tmp 8]) rfl Jx JAy
 ·skip
  have hle:l.length≤most:=by have:=of_decide_eq_false hb10;omega
  refine JB.reg ?_
  refine JA.frz 6 JD ?_
  iterate 2 (refine JA.o1 YQ ?_)
  refine JA.frz 17 JD ?_
  refine JA.c1 (JQI (fun x=>!Z3 x) (ds:=[.pt [.fn 129 []]]) JV l (by omega) (fun x hx=>JQi x (hz x hx))) YQ YQ ?_
  refine JA.o1 YQ ?_
  refine JA.nil ?_
  refine JB.cnd YQ (fun hb15=>?_) (fun hb15=>?_)
  ·skip
   have hno:l.all Z3=false:=by simpa using hb15
   have hr:=JIq (ZA (l.map Sh.meter)) hle
   refine JB.reg ?_
   have X:=(Fx.mk hno).a hr
   refine JA.o1 Jx ?_
   refine JA.nil (JY.ret ?_)
   exact Ends.fin [] (rs:=[.tmp 8]) rfl Jx JAy
  ·skip
   have hyes:l.all Z3=true:=by simpa using hb15
   refine JY.nrm (JB.assocS (JB.reg ?_))
   iterate 3 (refine JA.o1 YQ ?_)
   refine JA.nil (JB.blk ?_)
   refine JB.forA [0,3,20,21] [] (l.length) (fun k=>[.slot 21 (.int k)]) (JB1 (l.map Sh.meter)) (fun k=>by simp only [go_sem]<;>rfl) YQ ?_ (fun k hk hX=>?_)
   ·exact JKA _
   ·skip
    refine JB.reg ?_
    refine JA.o1 YQ ?_
    refine JA.nil ?_
    refine JB.cndS YQ (fun hb22=>?_) (fun hb22=>?_)
    ·skip
     have hlt:=ZU hb22
     obtain ⟨x,hx⟩:=ZQ hb22
     refine JB.skipS (JB.blk (JB.reg ?_))
     have X:=Fx.mk hx
     iterate 2 (refine JA.o1 Jx ?_)
     refine JA.nil ?_
     by_cases h0:k=0
     ·skip
      subst h0
      have g1:decide ((0:Int)<((0:Nat):Int))=false:=rfl
      refine JB.opk 20 ?_
      have X:=X.a g1
      iterate 3 (refine JF.o1 Jx ?_)
      iterate 14 (refine JF.s ?_)
      refine JF.o1 Jx ?_
      refine JF.nil (Qs.finT JI JI JI ?_)
      refine JB.cnd Jx (fun hb41=>?_) (fun hb41=>?_)
      ·exact absurd hb41 (by simp)
      ·skip
       refine JY.nrm (JB.reg1 ?_)
       refine JA.o1 V57 ?_
       refine JA.o1 Jx ?_
       refine JA.nil ?_
       refine Jb.nxt ?_ ?_ ?_
       ·omega
       ·exact JO.kp [0,3,20,21] [] JDt
       ·first|exact JEf hX hx hy JDz|exact JEe _
     ·skip
      have g1:decide ((0:Int)<(k:Int))=true:=decide_eq_true (by omega)
      obtain ⟨y,hy⟩:∃y,l[k-1]? = some y:=⟨_,List.getElem?_eq_getElem (by omega)⟩
      have t1:((k:Int)-1).toNat=k-1:=by omega
      refine JB.opk 20 ?_
      have X:=((X.a g1).a hy).a t1
      iterate 3 (refine JF.o1 Jx ?_)
      iterate 3 (refine JF.y1 Jx ?_)
      refine JF.y1 V71 ?_
      refine JF.y1 Jx ?_
      refine JF.calw JD (JLr x) JV Jx Jx J6 (Qm) Jx JD JD ?_
      iterate 3 (refine JF.y1 Jx ?_)
      refine JF.y1 V57 ?_
      refine JF.y1 V71 ?_
      refine JF.y1 Jx ?_
      refine JF.calw JD (JLr y) JV Jx Jx J6 (Qm) Jx JD JD ?_
      refine JF.y1 Jx ?_
      refine JF.o1 Jx ?_
      refine JF.nil (Qs.finT JI JI JI ?_)
      refine JB.cnd Jx (fun hb41=>?_) (fun hb41=>?_)
      ·skip
       have hno:=JJ9 (f:=Sh.meter) (by omega) hx hy (by have:=of_decide_eq_true hb41;omega)
       have hr:=JIr hle
       refine JB.reg ?_
       have X:=((X.a hyes).a hno).a hr
       refine JA.o1 Jx ?_
       refine JA.nil (JY.ret (Jb.ret (JY.ret ?_)))
       exact Ends.fin [] (rs:=[.tmp 8]) rfl Jx JAy
      ·skip
       refine JY.nrm (JB.reg1 ?_)
       refine JA.o1 V57 ?_
       refine JA.o1 Jx ?_
       refine JA.nil ?_
       refine Jb.nxt ?_ ?_ ?_
       ·omega
       ·exact JO.kp [0,3,20,21] [] JDt
       ·first|exact JEf hX hx hy JDz|exact JEe _
    ·skip
     have hr0:=JJ8 hX (ZS hb22)
     have hr:=JIp hle
     refine JB.exitS (Jb.ext (JY.hit (JB.reg ?_)))
     have X:=((Fx.mk hyes).a hr0).a hr
     refine JA.o1 Jx ?_
     refine JA.nil ?_
     exact Ends.fin [] (rs:=[.tmp 8]) rfl Jx JAy
theorem JLu (l:List Sh)(hl:l.length≤1000)(hz:∀x∈l,x.tries.length≤1000):Ja Tryz.prog 80 [.leaf (.d (JAY l))] (.int (Yp l)) []:=by
 refine Js Jc Tryz.func80 rfl (by simp only [List.length_cons,List.length_nil,Tryz.ntmps80];omega) JI rfl ?_
 refine JB.reg ?_
 refine JA.o1 JD0 ?_
 refine JA.nil (JB.reg ?_)
 refine JA.o1 JD0 ?_
 refine JA.c1 (JQn l 12 hl (by omega) hz) JD0 JD0 ?_
 refine JA.o1 JD0 ?_
 refine JA.nil ?_
 exact Ends.fin [] (rs:=[.tmp 2]) rfl JD0 (by simp only [go_sem,Yp]<;>first|rfl|exact Ql)
theorem JLq (x:Pl):Ja Tryz.prog 120 [plV x] (.int x.num) []:=by
 refine Js Jc Tryz.func120 rfl (by simp only [List.length_cons,List.length_nil,Tryz.ntmps120];omega) JI rfl ?_
 refine JB.reg ?_
 iterate 2 (refine JA.o ?_)
 refine JA.nil (JB.reg ?_)
 iterate 3 (refine JA.o ?_)
 refine JA.nil ?_
 exact Ends.fin [] (rs:=[.tmp 2]) rfl JD Yj
theorem JQh (x:Pl):Ja Tryz.prog 155 [plV x,.leaf (.d (.pt [.fn 119 []]))] (.bool (!JAV x)) []:=by
 refine Js Jc Tryz.func155 rfl (by simp only [List.length_cons,List.length_nil,Tryz.ntmps155];omega) JI rfl ?_
 refine JB.reg ?_
 iterate 2 (refine JA.o ?_)
 refine JA.nil (JB.reg ?_)
 iterate 2 (refine JA.o ?_)
 refine JA.calw JD (JQz x) JV JD JD J6 (Qm) JD ?_
 iterate 2 (refine JA.o ?_)
 refine JA.nil ?_
 exact Ends.fin [] (rs:=[.tmp 3]) rfl JD Yj
theorem JQm (l:List Pl)(most:Nat)(hl:l.length≤1000)(hm:most≤1000)  : Ja Tryz.prog 118 [.leaf (.d (JAK l)),.int most,.leaf (.d (.fn 119 [])),.leaf (.d (.fn 120 []))] (.int (JAS l.length most (l.all JAV) (ZA (l.map Pl.num)))) []:=by
 refine Js Jc Tryz.func118 rfl (by simp only [List.length_cons,List.length_nil,Tryz.ntmps118];omega) JI rfl ?_
 refine JB.reg ?_
 iterate 2 (refine JA.o1 YQ ?_)
 refine JA.nil (JB.blk (JB.reg ?_))
 iterate 5 (refine JA.o1 YQ ?_)
 refine JA.nil ?_
 refine JB.cnd YQ (fun hb10=>?_) (fun hb10=>?_)
 ·skip
  have hgt:most<l.length:=by have:=of_decide_eq_true hb10;omega
  have hr:=JFH (l.all JAV) (ZA (l.map Pl.num)) hgt
  refine JB.reg ?_
  have X:=Fx.mk hr
  refine JA.o1 Jx ?_
  refine JA.nil (JY.ret ?_)
  exact Ends.fin [] (rs:=[.tmp 8]) rfl Jx JAy
 ·skip
  have hle:l.length≤most:=by have:=of_decide_eq_false hb10;omega
  refine JB.reg ?_
  refine JA.frz 6 JD ?_
  iterate 2 (refine JA.o1 YQ ?_)
  refine JA.frz 17 JD ?_
  refine JA.c1 (JQH (fun x=>!JAV x) (ds:=[.pt [.fn 119 []]]) JV l (by omega) (fun x hx=>JQh x)) YQ YQ ?_
  refine JA.o1 YQ ?_
  refine JA.nil ?_
  refine JB.cnd YQ (fun hb15=>?_) (fun hb15=>?_)
  ·skip
   have hno:l.all JAV=false:=by simpa using hb15
   have hr:=JIq (ZA (l.map Pl.num)) hle
   refine JB.reg ?_
   have X:=(Fx.mk hno).a hr
   refine JA.o1 Jx ?_
   refine JA.nil (JY.ret ?_)
   exact Ends.fin [] (rs:=[.tmp 8]) rfl Jx JAy
  ·skip
   have hyes:l.all JAV=true:=by simpa using hb15
   refine JY.nrm (JB.assocS (JB.reg ?_))
   iterate 3 (refine JA.o1 YQ ?_)
   refine JA.nil (JB.blk ?_)
   refine JB.forA [0,3,20,21] [] (l.length) (fun k=>[.slot 21 (.int k)]) (JB1 (l.map Pl.num)) (fun k=>by simp only [go_sem]<;>rfl) YQ ?_ (fun k hk hX=>?_)
   ·exact JKA _
   ·skip
    refine JB.reg ?_
    refine JA.o1 YQ ?_
    refine JA.nil ?_
    refine JB.cndS YQ (fun hb22=>?_) (fun hb22=>?_)
    ·skip
     have hlt:=ZU hb22
     obtain ⟨x,hx⟩:=ZQ hb22
     refine JB.skipS (JB.blk (JB.reg ?_))
     have X:=Fx.mk hx
     iterate 2 (refine JA.o1 Jx ?_)
     refine JA.nil ?_
     by_cases h0:k=0
     ·skip
      subst h0
      have g1:decide ((0:Int)<((0:Nat):Int))=false:=rfl
      refine JB.opk 20 ?_
      have X:=X.a g1
      iterate 3 (refine JF.o1 Jx ?_)
      iterate 14 (refine JF.s ?_)
      refine JF.o1 Jx ?_
      refine JF.nil (Qs.finT JI JI JI ?_)
      refine JB.cnd Jx (fun hb41=>?_) (fun hb41=>?_)
      ·exact absurd hb41 (by simp)
      ·skip
       refine JY.nrm (JB.reg1 ?_)
       refine JA.o1 V57 ?_
       refine JA.o1 Jx ?_
       refine JA.nil ?_
       refine Jb.nxt ?_ ?_ ?_
       ·omega
       ·exact JO.kp [0,3,20,21] [] JDt
       ·first|exact JEf hX hx hy JDz|exact JEe _
     ·skip
      have g1:decide ((0:Int)<(k:Int))=true:=decide_eq_true (by omega)
      obtain ⟨y,hy⟩:∃y,l[k-1]? = some y:=⟨_,List.getElem?_eq_getElem (by omega)⟩
      have t1:((k:Int)-1).toNat=k-1:=by omega
      refine JB.opk 20 ?_
      have X:=((X.a g1).a hy).a t1
      iterate 3 (refine JF.o1 Jx ?_)
      iterate 3 (refine JF.y1 Jx ?_)
      refine JF.y1 V71 ?_
      refine JF.y1 Jx ?_
      refine JF.calw JD (JLq x) JV Jx Jx J6 (Qm) Jx JD JD ?_
      iterate 3 (refine JF.y1 Jx ?_)
      refine JF.y1 V57 ?_
      refine JF.y1 V71 ?_
      refine JF.y1 Jx ?_
      refine JF.calw JD (JLq y) JV Jx Jx J6 (Qm) Jx JD JD ?_
      refine JF.y1 Jx ?_
      refine JF.o1 Jx ?_
      refine JF.nil (Qs.finT JI JI JI ?_)
      refine JB.cnd Jx (fun hb41=>?_) (fun hb41=>?_)
      ·skip
       have hno:=JJ9 (f:=Pl.num) (by omega) hx hy (by have:=of_decide_eq_true hb41;omega)
       have hr:=JIr hle
       refine JB.reg ?_
       have X:=((X.a hyes).a hno).a hr
       refine JA.o1 Jx ?_
       refine JA.nil (JY.ret (Jb.ret (JY.ret ?_)))
       exact Ends.fin [] (rs:=[.tmp 8]) rfl Jx JAy
      ·skip
       refine JY.nrm (JB.reg1 ?_)
       refine JA.o1 V57 ?_
       refine JA.o1 Jx ?_
       refine JA.nil ?_
       refine Jb.nxt ?_ ?_ ?_
       ·omega
       ·exact JO.kp [0,3,20,21] [] JDt
       ·first|exact JEf hX hx hy JDz|exact JEe _
    ·skip
     have hr0:=JJ8 hX (ZS hb22)
     have hr:=JIp hle
     refine JB.exitS (Jb.ext (JY.hit (JB.reg ?_)))
     have X:=((Fx.mk hyes).a hr0).a hr
     refine JA.o1 Jx ?_
     refine JA.nil ?_
     exact Ends.fin [] (rs:=[.tmp 8]) rfl Jx JAy
theorem JG0 (l:List Pl)(hl:l.length≤1000)  : Ja Tryz.prog 64 [.leaf (.d (JAK l))] (.int (Yo l)) []:=by
 refine Js Jc Tryz.func64 rfl (by simp only [List.length_cons,List.length_nil,Tryz.ntmps64];omega) JI rfl ?_
 refine JB.reg ?_
 refine JA.o1 JD1 ?_
 refine JA.nil (JB.reg ?_)
 refine JA.o1 JD1 ?_
 refine JA.c1 (JQm l 60 hl (by omega)) JD1 JD1 ?_
 refine JA.o1 JD1 ?_
 refine JA.nil ?_
 exact Ends.fin [] (rs:=[.tmp 2]) rfl JD1 (by simp only [go_sem,Yo]<;>first|rfl|exact Ql)
theorem JLp (x:Pg):Ja Tryz.prog 101 [pgV x] (.int x.house) []:=by
 refine Js Jc Tryz.func101 rfl (by simp only [List.length_cons,List.length_nil,Tryz.ntmps101];omega) JI rfl ?_
 refine JB.reg ?_
 iterate 2 (refine JA.o ?_)
 refine JA.nil (JB.reg ?_)
 iterate 3 (refine JA.o ?_)
 refine JA.nil ?_
 exact Ends.fin [] (rs:=[.tmp 2]) rfl JD Yj
theorem JQg (x:Pg)(h:x.reads.length≤1000):Ja Tryz.prog 140 [pgV x,.leaf (.d (.pt [.fn 100 []]))] (.bool (!ZF x)) []:=by
 refine Js Jc Tryz.func140 rfl (by simp only [List.length_cons,List.length_nil,Tryz.ntmps140];omega) JI rfl ?_
 refine JB.reg ?_
 iterate 2 (refine JA.o ?_)
 refine JA.nil (JB.reg ?_)
 iterate 2 (refine JA.o ?_)
 refine JA.calw JD (JQx x h) JV JD JD J6 (Qm) JD ?_
 iterate 2 (refine JA.o ?_)
 refine JA.nil ?_
 exact Ends.fin [] (rs:=[.tmp 3]) rfl JD Yj
theorem JQl (l:List Pg)(most:Nat)(hl:l.length≤1000)(hm:most≤1000)(hz:∀x∈l,x.reads.length≤1000):Ja Tryz.prog 99 [.leaf (.d (JAU l)),.int most,.leaf (.d (.fn 100 [])),.leaf (.d (.fn 101 []))] (.int (JAS l.length most (l.all ZF) (ZA (l.map Pg.house)))) []:=by
 refine Js Jc Tryz.func99 rfl (by simp only [List.length_cons,List.length_nil,Tryz.ntmps99];omega) JI rfl ?_
 refine JB.reg ?_
 iterate 2 (refine JA.o1 YQ ?_)
 refine JA.nil (JB.blk (JB.reg ?_))
 iterate 5 (refine JA.o1 YQ ?_)
 refine JA.nil ?_
 refine JB.cnd YQ (fun hb10=>?_) (fun hb10=>?_)
 ·skip
  have hgt:most<l.length:=by have:=of_decide_eq_true hb10;omega
  have hr:=JFH (l.all ZF) (ZA (l.map Pg.house)) hgt
  refine JB.reg ?_
  have X:=Fx.mk hr
  refine JA.o1 Jx ?_
  refine JA.nil (JY.ret ?_)
  exact Ends.fin [] (rs:=[.tmp 8]) rfl Jx JAy
 ·skip
  have hle:l.length≤most:=by have:=of_decide_eq_false hb10;omega
  refine JB.reg ?_
  refine JA.frz 6 JD ?_
  iterate 2 (refine JA.o1 YQ ?_)
  refine JA.frz 17 JD ?_
  refine JA.c1 (JQG (fun x=>!ZF x) (ds:=[.pt [.fn 100 []]]) JV l (by omega) (fun x hx=>JQg x (hz x hx))) YQ YQ ?_
  refine JA.o1 YQ ?_
  refine JA.nil ?_
  refine JB.cnd YQ (fun hb15=>?_) (fun hb15=>?_)
  ·skip
   have hno:l.all ZF=false:=by simpa using hb15
   have hr:=JIq (ZA (l.map Pg.house)) hle
   refine JB.reg ?_
   have X:=(Fx.mk hno).a hr
   refine JA.o1 Jx ?_
   refine JA.nil (JY.ret ?_)
   exact Ends.fin [] (rs:=[.tmp 8]) rfl Jx JAy
  ·skip
   have hyes:l.all ZF=true:=by simpa using hb15
   refine JY.nrm (JB.assocS (JB.reg ?_))
   iterate 3 (refine JA.o1 YQ ?_)
   refine JA.nil (JB.blk ?_)
   refine JB.forA [0,3,20,21] [] (l.length) (fun k=>[.slot 21 (.int k)]) (JB1 (l.map Pg.house)) (fun k=>by simp only [go_sem]<;>rfl) YQ ?_ (fun k hk hX=>?_)
   ·exact JKA _
   ·skip
    refine JB.reg ?_
    refine JA.o1 YQ ?_
    refine JA.nil ?_
    refine JB.cndS YQ (fun hb22=>?_) (fun hb22=>?_)
    ·skip
     have hlt:=ZU hb22
     obtain ⟨x,hx⟩:=ZQ hb22
     refine JB.skipS (JB.blk (JB.reg ?_))
     have X:=Fx.mk hx
     iterate 2 (refine JA.o1 Jx ?_)
     refine JA.nil ?_
     by_cases h0:k=0
     ·skip
      subst h0
      have g1:decide ((0:Int)<((0:Nat):Int))=false:=rfl
      refine JB.opk 20 ?_
      have X:=X.a g1
      iterate 3 (refine JF.o1 Jx ?_)
      iterate 14 (refine JF.s ?_)
      refine JF.o1 Jx ?_
      refine JF.nil (Qs.finT JI JI JI ?_)
      refine JB.cnd Jx (fun hb41=>?_) (fun hb41=>?_)
      ·exact absurd hb41 (by simp)
      ·skip
       refine JY.nrm (JB.reg1 ?_)
       refine JA.o1 V57 ?_
       refine JA.o1 Jx ?_
       refine JA.nil ?_
       refine Jb.nxt ?_ ?_ ?_
       ·omega
       ·exact JO.kp [0,3,20,21] [] JDt
       ·first|exact JEf hX hx hy JDz|exact JEe _
     ·skip
      have g1:decide ((0:Int)<(k:Int))=true:=decide_eq_true (by omega)
      obtain ⟨y,hy⟩:∃y,l[k-1]? = some y:=⟨_,List.getElem?_eq_getElem (by omega)⟩
      have t1:((k:Int)-1).toNat=k-1:=by omega
      refine JB.opk 20 ?_
      have X:=((X.a g1).a hy).a t1
      iterate 3 (refine JF.o1 Jx ?_)
      iterate 3 (refine JF.y1 Jx ?_)
      refine JF.y1 V71 ?_
      refine JF.y1 Jx ?_
      refine JF.calw JD (JLp x) JV Jx Jx J6 (Qm) Jx JD JD ?_
      iterate 3 (refine JF.y1 Jx ?_)
      refine JF.y1 V57 ?_
      refine JF.y1 V71 ?_
      refine JF.y1 Jx ?_
      refine JF.calw JD (JLp y) JV Jx Jx J6 (Qm) Jx JD JD ?_
      refine JF.y1 Jx ?_
      refine JF.o1 Jx ?_
      refine JF.nil (Qs.finT JI JI JI ?_)
      refine JB.cnd Jx (fun hb41=>?_) (fun hb41=>?_)
      ·skip
       have hno:=JJ9 (f:=Pg.house) (by omega) hx hy (by have:=of_decide_eq_true hb41;omega)
       have hr:=JIr hle
       refine JB.reg ?_
       have X:=((X.a hyes).a hno).a hr
       refine JA.o1 Jx ?_
       refine JA.nil (JY.ret (Jb.ret (JY.ret ?_)))
       exact Ends.fin [] (rs:=[.tmp 8]) rfl Jx JAy
      ·skip
       refine JY.nrm (JB.reg1 ?_)
       refine JA.o1 V57 ?_
       refine JA.o1 Jx ?_
       refine JA.nil ?_
       refine Jb.nxt ?_ ?_ ?_
       ·omega
       ·exact JO.kp [0,3,20,21] [] JDt
       ·first|exact JEf hX hx hy JDz|exact JEe _
    ·skip
     have hr0:=JJ8 hX (ZS hb22)
     have hr:=JIp hle
     refine JB.exitS (Jb.ext (JY.hit (JB.reg ?_)))
     have X:=((Fx.mk hyes).a hr0).a hr
     refine JA.o1 Jx ?_
     refine JA.nil ?_
     exact Ends.fin [] (rs:=[.tmp 8]) rfl Jx JAy
theorem JLs (l:List Pg)(hl:l.length≤1000)(hz:∀x∈l,x.reads.length≤1000):Ja Tryz.prog 45 [.leaf (.d (JAU l))] (.int (Yf l)) []:=by
 refine Js Jc Tryz.func45 rfl (by simp only [List.length_cons,List.length_nil,Tryz.ntmps45];omega) JI rfl ?_
 refine JB.reg ?_
 refine JA.o1 JD2 ?_
 refine JA.nil (JB.reg ?_)
 refine JA.o1 JD2 ?_
 refine JA.c1 (JQl l 32 hl (by omega) hz) JD2 JD2 ?_
 refine JA.o1 JD2 ?_
 refine JA.nil ?_
 exact Ends.fin [] (rs:=[.tmp 2]) rfl JD2 (by simp only [go_sem,Yf]<;>first|rfl|exact Ql)
end Go.Mw

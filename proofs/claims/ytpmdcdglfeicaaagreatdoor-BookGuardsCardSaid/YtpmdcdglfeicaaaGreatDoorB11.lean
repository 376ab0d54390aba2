/- How sheets are read line by line; plain laws, no program in sight. -/
import Derived.Test.YtpmdcdglfeicaaaGreatDoorD1
import Derived.Test.YtpmdcdglfeicaaaGreatDoorB6
import Derived.Test.YtpmdcdglfeicaaaGreatDoorB4
import Derived.Test.YtpmdcdglfeicaaaGreatDoorB10
import Derived.Laws.StructEq
import Derived.ChangeKeysEq
import Derived.Test.YtpmdcdglfeicaaaGreatDoorB8
import Derived.WalkKit
import Derived.Defers
import Derived.Recover
import Derived.Test.YtpmdcdglfeicaaaGreatDoorB9
set_option maxRecDepth 20000
set_option maxHeartbeats 16000000
set_option linter.unusedSimpArgs false
set_option linter.unusedVariables false
set_option linter.unusedSectionVars false
set_option linter.deprecated false
namespace Go.Bk
def JA7 (f:List Sh→Bs→Option (List Sh))(ls:List Bs)(k:Nat):Option (List Sh):=(ls.take k).foldlM f []
theorem JMh (f:List Sh→Bs→Option (List Sh))(ls:List Bs):JA7 f ls 0=some []:=by simp [JA7]
theorem JMg {f:List Sh→Bs→Option (List Sh)}{ls:List Bs}{k:Nat}{s:Bs}{l:List Sh}(hs:ls[k]? = some s)(h:JA7 f ls k=some l):JA7 f ls (k+1)=f l s:=by
 unfold JA7 at h ⊢
 rw [List.take_add_one,hs,List.foldlM_append,h]
 simp
theorem JR9 {f:List Sh→Bs→Option (List Sh)}{ls:List Bs}:JA7 f ls ls.length=ls.foldlM f []:=by unfold JA7;rw [List.take_length]
theorem JSB {f:List Sh→Bs→Option (List Sh)}{ls:List Bs}{k:Nat}(h:JA7 f ls k=none):ls.foldlM f []=none:=by
 unfold JA7 at h
 rw [←List.take_append_drop k ls,List.foldlM_append,h];rfl
theorem JDf {α:Type}(l:List α):l=[]∨∃l' x,l=l'++[x]:=by
 cases h:l.getLast? with
 |none=>exact .inl JAM
 |some x=>
  obtain ⟨l',hl⟩:=List.getLast?_eq_some_iff.1 h
  exact .inr ⟨l',x,hl⟩
def Yt (l:List Sh):List Tr:=match l.getLast? with
 |some x=>x.tries
 |none=>[]
theorem JM2:Yt []=[]:=rfl
theorem JBu (l:List Sh)(x:Sh):Yt (l++[x])=x.tries:=by simp [Yt]
def JBm (n:Nat)(l:List Sh):Prop:=l.length≤n∧∀x∈l,x.tries.length≤n
theorem JLS:JBm 0 []:=⟨by simp,by simp⟩
theorem JLR {n:Nat}{l:List Sh}(h:JBm n l)(m:Int):JBm (n+1) (l++[⟨m,[]⟩]):=by
 refine ⟨by have:=h.1;simp;omega,fun x hx=>?_⟩
 rcases List.mem_append.1 hx with hx|hx
 ·have:=h.2 x hx;omega
 ·have:x=⟨m,[]⟩:=by simpa using hx
  subst this;simp
theorem JLT {n:Nat}{l:List Sh}{x:Sh}(h:JBm n (l++[x]))(t:Tr):JBm (n+1) (l++[⟨x.meter,x.tries++[t]⟩]):=by
 refine ⟨by have:=h.1;simp at this ⊢;omega,fun y hy=>?_⟩
 rcases List.mem_append.1 hy with hy|hy
 ·have:=h.2 y (by simp [hy]);omega
 ·have:y=⟨x.meter,x.tries++[t]⟩:=by simpa using hy
  subst this
  have:=h.2 x (by simp)
  simp;omega
end Go.Bk
namespace Go.Mw
open Go.Proofs
open Go.Bk
attribute [local go_sem] decide_true beq_self_eq_true bne_self_eq_false
def JCd (l:List Sh)(v:Value):List (List D):=match l.getLast? with
 |some x=>l.dropLast.map Zm++[[.i x.meter,.raw v]]
 |none=>[]
theorem JHt (v:Value):JCd [] v=[]:=rfl
theorem JB2 (l:List Sh)(x:Sh)(v:Value):JCd (l++[x]) v=l.map Zm++[[.i x.meter,.raw v]]:=by simp [JCd]
theorem JGA (l:List Sh)(x:Sh):l.map Zm++[[D.i x.meter,JGJ x.tries]]=(l++[x]).map Zm:=by simp [Zm]
theorem JOC (l:List Sh)(d:List D):(l.map Zm++[d])[l.length]? = some d:=by simp
theorem JCe (l:List Sh)(d d':List D):(l.map Zm++[d]).set l.length d'=l.map Zm++[d']:=by
 rw [List.set_append_right _ _ (by simp)];simp
theorem JOB (l:List Sh)(v:Value):(JCd l v).length=l.length:=by
 rcases JDf l with rfl|⟨l',x,rfl⟩
 ·rfl
 ·rw [JB2];simp
theorem JEg (l:List Sh)(d:List D):(l.map Zm++[d]).length=l.length+1:=by simp
def rsE (r:Option (List Sh)):AV:=match r with
 |some l=>.tup [(false,[.d (JAY l)]),(false,[.d (.i 0)])]
 |none=>.tup [(false,[.d (JAY [])]),(false,[.d (.i 8)])]
theorem JOx (l:List Sh)(x:Sh):List.take (l.length+1) (l.map Zm++[[D.i x.meter,JGJ x.tries]])=(l++[x]).map Zm:=by
 rw [JGA,List.take_of_length_le (by simp)]
end Go.Mw
namespace Go.Mw
open Go.RowKit
section eq
variable {P:Program} {A:JE} {d:Nat} {x y:Operand} {ty:TypeId} {pos:String} {af:Array Edge} {g:Option (Nat × Bool)} {t e tz:TypeId}
theorem JLE {S:Jd}{ι:Nat→Value}{H:Nat→Option AO}{w:World}{a b c:List UInt8}{v:Value}(h:Jk S ι H w (.val true [.d (.raw (.string (bs a))),.d (.raw (.string (bs b))),.d (.raw (.string (bs c)))]) v) :
  v=.agg #[.string (bs a),.string (bs b),.string (bs c)]:=by
 obtain ⟨vs,rfl,h⟩:=h
 have hl:=h.length
 obtain ⟨v0,e0,h0⟩:=h.get' (i:=0) rfl
 obtain ⟨v1,e1,h1⟩:=h.get' (i:=1) rfl
 obtain ⟨v2,e2,h2⟩:=h.get' (i:=2) rfl
 rw [Qa h0] at e0
 rw [Qa h1] at e1
 rw [Qa h2] at e2
 match vs,hl,e0,e1,e2 with
 |[x0,x1,x2],_,e0,e1,e2=>
  simp at e0 e1 e2
  rw [e0,e1,e2]
theorem JR2 {a:Act}{w:World}{xs ys:Array Value}{b:Bool}(ex:a.eval x=.agg xs)(ey:a.eval y=.agg ys)(hg:P.eqGuardType P.depth t=false)(h:(Op.equalIn 10000 t (.agg xs) (.agg ys)).run P w=.ok b w) :
  (execOp a.eval ⟨some d,.binOp .eql t x y tz,ty,pos,af,g⟩).run P w=.ok (.value (.bool b)) w:=by
 simp [execOp,ex,ey,run_eqGuard_agg w _ _ _ _ _ _ hg,run_eql_struct,h]
theorem JOR (hu:P.underlying t=some (.array 3 e))(he:P.underlying e=some .string){i:TypeInfo}(hi:P.info? e=some i)(hc:P.cellsOf e=1)(hg:P.eqGuardType P.depth t=false){a b c a' b' c':List UInt8}
  (hx:A.ev x=.val true [.d (.raw (.string (bs a))),.d (.raw (.string (bs b))),.d (.raw (.string (bs c)))])
  (hy:A.ev y=.val true [.d (.raw (.string (bs a'))),.d (.raw (.string (bs b'))),.d (.raw (.string (bs c')))]) :
  JAc P ⟨some d,.binOp .eql t x y tz,ty,pos,af,g⟩ A (.bool (a==a'&&(b==b'&&c==c'))):=by
 intro C S M ι act w hR
 have hvx:=QD hR x
 have hvy:=QD hR y
 rw [hx] at hvx
 rw [hy] at hvy
 have ex:=JLE hvx
 have ey:=JLE hvy
 have hag:J2 P e=some false:=by simp [J2,he]
 have heq:∀n w,(Op.equalIn (n+2) t (.agg #[.string (bs a),.string (bs b),.string (bs c)]) (.agg #[.string (bs a'),.string (bs b'),.string (bs c')])).run P w=.ok (a==a'&&(b==b'&&c==c')) w:=fun n w=>by
  have p (cs:Array Value) (i:Nat) (v:Value) (h:cs[i]? = some v):=JKF (P:=P) (w:=w) hag h
  have q (u v:List UInt8):=run_equalIn_string (P:=P) w n e (bs u) (bs v) he
  simp only [JLW] at q
  rw [run_equalIn_array w (n+1) _ _ hu hi,hc,show List.range 3=[0,1,2] from rfl]
  have p0:=p #[.string (bs a),.string (bs b),.string (bs c)] 0 (.string (bs a)) rfl
  have r0:=p #[.string (bs a'),.string (bs b'),.string (bs c')] 0 (.string (bs a')) rfl
  have p1:=p #[.string (bs a),.string (bs b),.string (bs c)] 1 (.string (bs b)) rfl
  have r1:=p #[.string (bs a'),.string (bs b'),.string (bs c')] 1 (.string (bs b')) rfl
  have p2:=p #[.string (bs a),.string (bs b),.string (bs c)] 2 (.string (bs c)) rfl
  have r2:=p #[.string (bs a'),.string (bs b'),.string (bs c')] 2 (.string (bs c')) rfl
  simp only [Bool.not_true,Bool.false_eq_true,if_false,Op.eqItems,Sem.run_bind,Nat.mul_one,p0,p1,p2,r0,r1,r2,Result.andThen_ok,q]
  cases (a==a')
  ·rfl
  simp only [Bool.not_true,Bool.false_eq_true,if_false,Op.eqItems,Sem.run_bind,Nat.mul_one,p0,p1,p2,r0,r1,r2,Result.andThen_ok,q]
  cases (b==b')
  ·rfl
  simp only [Bool.not_true,Bool.false_eq_true,if_false,Op.eqItems,Sem.run_bind,Nat.mul_one,p0,p1,p2,r0,r1,r2,Result.andThen_ok,q]
  cases (c==c')<;>rfl
 refine ⟨.bool (a==a'&&(b==b'&&c==c')),?_,⟨_,rfl,RepD.raw _ rfl⟩⟩
 exact JR2 ex ey hg (heq 9998 w)
end eq
end Go.Mw
namespace Go.Mw
open Go.Proofs
open Go.Bk
attribute [local go_sem] decide_true beq_self_eq_true bne_self_eq_false
theorem JA6 (s:Bs)(c:UInt8)(hc:c.toNat<128):Ja Tryz.prog 136 [.str s,.str [c]] (.str (dw c s)) []:=JQc s c hc
theorem JCQ (c:UInt8)(s:Bs):(dw c s).length≤s.length:=by
 unfold dw Lib.trimLeftB
 exact (List.dropWhile_sublist _).length_le
abbrev vp (s:Bs):Nat:=JX (dw 32 s)
theorem JTP (h:Bs)(hl:h.length≤1000000000)(h7:h.length≠7):QZ Tryz.prog Je 92 [.str h] []:=by
 have d7:((h.length:Int)==7)=false:=beq_eq_false_iff_ne.2 (by omega)
 refine YG Jc Tryz.func92 rfl JGV JI rfl ?_
 refine JB.reg ?_
 have X:=Fx.mk d7
 refine JA.o1 JC ?_
 refine JA.nil ?_
 refine JB.pan (pv:=Je) 3 rfl ?_
 iterate 3 (refine JA.o1 JC ?_)
 exact JA.panc (Ye false rfl) JV JC J6 rfl
theorem JTQ (h:Bs)(h7:h.length=7)(hf:QL (dw 48 (h.drop 1))=false):QZ Tryz.prog Je 92 [.str h] []:=by
 have d7:((h.length:Int)==7)=true:=by rw [h7];rfl
 have hdl:(h.drop 1).length=6:=by rw [List.length_drop];omega
 have hwl:=JCQ 48 (h.drop 1)
 refine YG Jc Tryz.func92 rfl JGV JI rfl ?_
 refine JB.reg ?_
 have X:=Fx.mk d7
 refine JA.o1 Qz ?_
 refine JA.nil (JB.reg ?_)
 iterate 3 (refine JA.o1 Qz ?_)
 refine JA.c1 (Qv true rfl) Qz Qz ?_
 refine JA.nil ?_
 refine JB.pan (pv:=Je) 3 rfl ?_
 refine JA.o1 Qz ?_
 refine JA.o1 V76 ?_
 refine JA.c1 (JA6 (h.drop 1) 48 (by decide)) Qz Qz ?_
 exact JA.panc (JCa hf (by omega)) JV Qz J6 rfl
theorem JTR (h:Bs)(h7:h.length=7)(hf:QL (dw 48 (h.drop 1))=true)(hp:pad 48 6 (Ji (JX (dw 48 (h.drop 1))))≠h.drop 1):QZ Tryz.prog Je 92 [.str h] []:=by
 have d7:((h.length:Int)==7)=true:=by rw [h7];rfl
 have hdl:(h.drop 1).length=6:=by rw [List.length_drop];omega
 have hwl:=JCQ 48 (h.drop 1)
 have hfb:=(Z0 hf)
 have dp:=JBM hp
 refine YG Jc Tryz.func92 rfl JGV JI rfl ?_
 refine JB.reg ?_
 have X:=(Fx.mk d7).a dp
 refine JA.o1 Qz ?_
 refine JA.nil (JB.reg ?_)
 iterate 3 (refine JA.o1 Qz ?_)
 refine JA.c1 (Qv true rfl) Qz Qz ?_
 refine JA.nil (JB.reg ?_)
 refine JA.o1 Qz ?_
 refine JA.o1 V76 ?_
 refine JA.c1 (JA6 (h.drop 1) 48 (by decide)) Qz Qz ?_
 refine JA.c1 (ZP (dw 48 (h.drop 1)) hf) Qz Qz ?_
 refine JA.o1 Qz ?_
 refine JA.nil ?_
 refine JB.opp (pv:=Je) 8 5 [0,1,2,3,4] rfl QB ?_
 refine JF.o1 Qz ?_
 refine JF.cal (JId (JX (dw 48 (h.drop 1))) 6 48 (by omega) (by omega)) JV Qz V24 (Qm) Qz JD JD ?_
 refine JF.o1 Qz ?_
 refine JF.o1 V76 ?_
 refine JF.o1 Qz ?_
 exact JF.pang [] 0 (Ye false rfl) JV JD JD V81 (fun q x h=>by simp [look] at h) (fun q q' n h=>by simp [look] at h) QB QB rfl
theorem JQ9 (h:Bs)(h7:h.length=7)(hf:QL (dw 48 (h.drop 1))=true)(hp:pad 48 6 (Ji (JX (dw 48 (h.drop 1))))=h.drop 1):Ja Tryz.prog 92 [.str h] (.int (JX (dw 48 (h.drop 1)))) []:=by
 have d7:((h.length:Int)==7)=true:=by rw [h7];rfl
 have hdl:(h.drop 1).length=6:=by rw [List.length_drop];omega
 have hwl:=JCQ 48 (h.drop 1)
 have hfb:=(Z0 hf)
 have dp:(pad 48 6 (Ji (JX (dw 48 (h.drop 1))))==h.drop 1)=true:=beq_iff_eq.2 hp
 refine Js Jc Tryz.func92 rfl JGV JI rfl ?_
 refine JB.reg ?_
 have X:=(Fx.mk d7).a dp
 refine JA.o1 Qz ?_
 refine JA.nil (JB.reg ?_)
 iterate 3 (refine JA.o1 Qz ?_)
 refine JA.c1 (Qv true rfl) Qz Qz ?_
 refine JA.nil (JB.reg ?_)
 refine JA.o1 Qz ?_
 refine JA.o1 V76 ?_
 refine JA.c1 (JA6 (h.drop 1) 48 (by decide)) Qz Qz ?_
 refine JA.c1 (ZP (dw 48 (h.drop 1)) hf) Qz Qz ?_
 refine JA.o1 Qz ?_
 refine JA.nil ?_
 refine JB.opk 8 ?_
 refine JF.o1 Qz ?_
 refine JF.cal (JId (JX (dw 48 (h.drop 1))) 6 48 (by omega) (by omega)) JV Qz V24 (Qm) Qz JD JD ?_
 refine JF.o1 Qz ?_
 refine JF.o1 V76 ?_
 refine JF.o1 Qz ?_
 refine JF.cal (Qv true rfl) JV Qz J6 (Qm) Qz JD JD ?_
 refine JF.nil (Qs.fin QB QB ?_)
 refine JB.reg ?_
 iterate 2 (refine JA.o1 Qz ?_)
 refine JA.nil ?_
 exact Ends.fin [] (rs:=[.tmp 2]) rfl Qz (by simp only [go_sem,X.h,Int.toNat_one]<;>first|rfl|exact Ql)
theorem JGx {h:Bs}{m:Int}(hm:JBC h=some m):Ja Tryz.prog 92 [.str h] (.int m) []:=by
 unfold JBC at hm
 split at hm
 ·next hc=>
  simp only [Option.some.injEq] at hm
  subst hm
  exact JQ9 h hc.1 hc.2.1 hc.2.2
 ·cases hm
theorem JTO {h:Bs}(hl:h.length≤1000000000)(hm:JBC h=none):QZ Tryz.prog Je 92 [.str h] []:=by
 by_cases h7:h.length=7
 ·cases hf:QL (dw 48 (h.drop 1)) with
  |false=>exact JTQ h h7 hf
  |true=>
   refine JTR h h7 hf fun hp=>?_
   unfold JBC at hm
   rw [if_pos ⟨h7,hf,hp⟩] at hm
   cases hm
 ·exact JTP h hl h7
end Go.Mw
namespace Go.Mw
open Go.Proofs
open Go.Bk
attribute [local go_sem] decide_true beq_self_eq_true bne_self_eq_false
theorem JL7 (s:Bs):(s.take 14).drop 7=(s.drop 7).take 7:=by rw [List.drop_take]
theorem JL8 (s:Bs):(s.take 22).drop 15=(s.drop 15).take 7:=by rw [List.drop_take]
def rv (b:Bool)(x:Bs):AL:=.d (.i ((bif b then vp x else 0:Nat):Int))
def JEO (k:Nat):Int:=if k=0 then 0 else if k=1 then 7 else if k=2 then 15 else 23
@[go_sem] theorem JYo (b:Bool)(x:Bs)(os:List Nat):AL.keep os (rv b x)=rv b x:=rfl
theorem JDR:JEO 0=0:=rfl
theorem JDS:JEO 1=7:=rfl
theorem JDT:JEO 2=15:=rfl
theorem JDU:JEO 3=23:=rfl
abbrev trP (a b c:Bs):Tr:=⟨vp a,vp b,vp c⟩
theorem JO2 {a b c:Bs}(fa:QL (dw 32 a)=true)(fb:QL (dw 32 b)=true)(fc:QL (dw 32 c)=true):pos (trP a b c):=by
 have:=Z0 fa
 have:=Z0 fb
 have:=Z0 fc
 unfold pos trP vp;simp only;omega
theorem JTf (h:Bs)(hl:h.length≤1000000000)(h22:h.length≠22):QZ Tryz.prog Je 93 [.str h] []:=by
 have d22:((h.length:Int)==22)=false:=beq_eq_false_iff_ne.2 (by omega)
 refine YG Jc Tryz.func93 rfl JEu JI rfl ?_
 refine JB.reg ?_
 have X:=Fx.mk d22
 refine JA.o1 JC ?_
 refine JA.nil (JB.reg ?_)
 refine JA.o1 JC ?_
 refine JA.nil (JB.reg ?_)
 refine JA.o1 JC ?_
 refine JA.nil ?_
 refine JB.pan (pv:=Je) 13 rfl ?_
 iterate 4 (refine JA.o1 JC ?_)
 iterate 3 (refine JA.s ?_)
 iterate 2 (refine JA.o1 JC ?_)
 iterate 3 (refine JA.s ?_)
 refine JA.o1 JC ?_
 exact JA.panc (Ye false rfl) JV JC J6 rfl
theorem JTg (h:Bs)(x:UInt8)(h22:h.length=22)(h6:h[6]? = some x)(hx:x≠32):QZ Tryz.prog Je 93 [.str h] []:=by
 have d22:((h.length:Int)==22)=true:=by rw [h22];rfl
 have d6:((x.toNat:Int)==32)=false:=beq_eq_false_iff_ne.2 (fun e=>hx (UInt8.toNat_inj.1 (by have:(32:UInt8).toNat=32:=rfl;omega)))
 have n6:Int.toNat 6=6:=rfl
 have n7:Int.toNat 7=7:=rfl
 have n14:Int.toNat 14=14:=rfl
 have n15:Int.toNat 15=15:=rfl
 have n22:Int.toNat 22=22:=rfl
 have w1:IntKind.i64.wrap 1=1:=rfl
 have w2:IntKind.i64.wrap 2=2:=rfl
 have w3:IntKind.i64.wrap 3=3:=rfl
 have w6:IntKind.i64.wrap 6=6:=rfl
 have w7:IntKind.i64.wrap 7=7:=rfl
 have w8:IntKind.i64.wrap 8=8:=rfl
 have w14:IntKind.i64.wrap 14=14:=rfl
 have w15:IntKind.i64.wrap 15=15:=rfl
 have w22:IntKind.i64.wrap 22=22:=rfl
 have w23:IntKind.i64.wrap 23=23:=rfl
 refine YG Jc Tryz.func93 rfl JEu JI rfl ?_
 refine JB.reg ?_
 have X:=(((((((((((((((((Fx.mk d22).a d6).a h6).a n6).a n7).a n14).a n15).a n22).a w1).a w2).a w3).a w6).a w7).a w8).a w14).a w15).a w22).a w23
 refine JA.o1 Zw ?_
 refine JA.nil (JB.reg ?_)
 refine JA.o1 Zw ?_
 refine JA.nil (JB.reg ?_)
 refine JA.o1 Zw ?_
 refine JA.nil ?_
 refine JB.pan (pv:=Je) 13 rfl ?_
 iterate 4 (refine JA.o1 Zw ?_)
 iterate 3 (refine JA.y1 Zw ?_)
 iterate 2 (refine JA.o1 Zw ?_)
 iterate 3 (refine JA.s ?_)
 refine JA.o1 Zw ?_
 exact JA.panc (Ye false rfl) JV Zw J6 rfl
theorem JTh (h:Bs)(x:UInt8)(h22:h.length=22)(h6:h[6]? = some 32)(h14:h[14]? = some x)(hx:x≠32):QZ Tryz.prog Je 93 [.str h] []:=by
 have d22:((h.length:Int)==22)=true:=by rw [h22];rfl
 have d32:(((32:UInt8).toNat:Int)==32)=true:=rfl
 have d6:((x.toNat:Int)==32)=false:=beq_eq_false_iff_ne.2 (fun e=>hx (UInt8.toNat_inj.1 (by have:(32:UInt8).toNat=32:=rfl;omega)))
 have n6:Int.toNat 6=6:=rfl
 have n7:Int.toNat 7=7:=rfl
 have n14:Int.toNat 14=14:=rfl
 have n15:Int.toNat 15=15:=rfl
 have n22:Int.toNat 22=22:=rfl
 have w1:IntKind.i64.wrap 1=1:=rfl
 have w2:IntKind.i64.wrap 2=2:=rfl
 have w3:IntKind.i64.wrap 3=3:=rfl
 have w6:IntKind.i64.wrap 6=6:=rfl
 have w7:IntKind.i64.wrap 7=7:=rfl
 have w8:IntKind.i64.wrap 8=8:=rfl
 have w14:IntKind.i64.wrap 14=14:=rfl
 have w15:IntKind.i64.wrap 15=15:=rfl
 have w22:IntKind.i64.wrap 22=22:=rfl
 have w23:IntKind.i64.wrap 23=23:=rfl
 refine YG Jc Tryz.func93 rfl JEu JI rfl ?_
 refine JB.reg ?_
 have X:=(((((((((((((((((((Fx.mk d22).a d32).a d6).a h6).a h14).a n6).a n7).a n14).a n15).a n22).a w1).a w2).a w3).a w6).a w7).a w8).a w14).a w15).a w22).a w23
 refine JA.o1 Zw ?_
 refine JA.nil (JB.reg ?_)
 refine JA.o1 Zw ?_
 refine JA.nil (JB.reg ?_)
 refine JA.o1 Zw ?_
 refine JA.nil ?_
 refine JB.pan (pv:=Je) 13 rfl ?_
 iterate 4 (refine JA.o1 Zw ?_)
 iterate 3 (refine JA.y1 Zw ?_)
 iterate 2 (refine JA.o1 Zw ?_)
 iterate 3 (refine JA.y1 Zw ?_)
 refine JA.o1 Zw ?_
 exact JA.panc (Ye false rfl) JV Zw J6 rfl
theorem JTi (h a b c:Bs)(h22:h.length=22)(h6:h[6]? = some 32)(h14:h[14]? = some 32)(ea:h.take 6=a)(eb:(h.take 14).drop 7=b)(ec:(h.take 22).drop 15=c)(hbad:¬(QL (dw 32 a)=true∧QL (dw 32 b)=true∧QL (dw 32 c)=true∧(pad 32 6 (Ji (vp a))==a&&(pad 32 7 (Ji (vp b))==b&&pad 32 7 (Ji (vp c))==c))=true)):QZ Tryz.prog Je 93 [.str h] []:=by
 have d22:((h.length:Int)==22)=true:=by rw [h22];rfl
 have d32:(((32:UInt8).toNat:Int)==32)=true:=rfl
 have la:a.length=6:=by rw [←ea,List.length_take];omega
 have lb:b.length=7:=by rw [←eb,List.length_drop,List.length_take];omega
 have lc:c.length=7:=by rw [←ec,List.length_drop,List.length_take];omega
 have wa:=JCQ 32 a
 have wb:=JCQ 32 b
 have wc:=JCQ 32 c
 have n6:Int.toNat 6=6:=rfl
 have n7:Int.toNat 7=7:=rfl
 have n14:Int.toNat 14=14:=rfl
 have n15:Int.toNat 15=15:=rfl
 have n22:Int.toNat 22=22:=rfl
 have w1:IntKind.i64.wrap 1=1:=rfl
 have w2:IntKind.i64.wrap 2=2:=rfl
 have w3:IntKind.i64.wrap 3=3:=rfl
 have w6:IntKind.i64.wrap 6=6:=rfl
 have w7:IntKind.i64.wrap 7=7:=rfl
 have w8:IntKind.i64.wrap 8=8:=rfl
 have w14:IntKind.i64.wrap 14=14:=rfl
 have w15:IntKind.i64.wrap 15=15:=rfl
 have w22:IntKind.i64.wrap 22=22:=rfl
 have w23:IntKind.i64.wrap 23=23:=rfl
 have f00:Nat.blt 0 0=false:=rfl
 have f01:Nat.blt 0 1=true:=rfl
 have f02:Nat.blt 0 2=true:=rfl
 have f03:Nat.blt 0 3=true:=rfl
 have f10:Nat.blt 1 0=false:=rfl
 have f11:Nat.blt 1 1=false:=rfl
 have f12:Nat.blt 1 2=true:=rfl
 have f13:Nat.blt 1 3=true:=rfl
 have f20:Nat.blt 2 0=false:=rfl
 have f21:Nat.blt 2 1=false:=rfl
 have f22:Nat.blt 2 2=false:=rfl
 have f23:Nat.blt 2 3=true:=rfl
 refine YG Jc Tryz.func93 rfl JEu JI rfl ?_
 refine JB.reg ?_
 have X:=(((((((((((((((((((((((((((((((((Fx.mk f00).a f01).a f02).a f03).a f10).a f11).a f12).a f13).a f20).a f21).a f22).a f23).a d22).a d32).a h6).a h14).a ea).a eb).a ec).a n6).a n7).a n14).a n15).a n22).a w1).a w2).a w3).a w6).a w7).a w8).a w14).a w15).a w22).a w23
 refine JA.o1 JZ ?_
 refine JA.nil (JB.reg ?_)
 refine JA.o1 JZ ?_
 refine JA.nil (JB.reg ?_)
 refine JA.o1 JZ ?_
 refine JA.nil (JB.reg ?_)
 iterate 4 (refine JA.o1 JZ ?_)
 iterate 3 (refine JA.y1 JZ ?_)
 iterate 2 (refine JA.o1 JZ ?_)
 iterate 3 (refine JA.y1 JZ ?_)
 refine JA.o1 JZ ?_
 refine JA.c1 (Qv true rfl) JZ JZ ?_
 refine JA.nil (JB.reg ?_)
 refine JA.o1 JZ ?_
 refine JA.nil (JB.assocS (JB.reg ?_))
 refine JA.c1 (JE9) JZ JZ ?_
 refine JA.o1 JZ ?_
 refine JA.nil (JB.blk ?_)
 refine JB.forA [0,2,3,4,5,23,24] [2,3,4] (3) (fun k=>[.slot 24 (.int k),.slot 5 (.int (JEO k)),.obj 3 (.cells [rk (Nat.blt 0 k) a,rk (Nat.blt 1 k) b,rk (Nat.blt 2 k) c]),.obj 4 (.cells [rv (Nat.blt 0 k) a,rv (Nat.blt 1 k) b,rv (Nat.blt 2 k) c])]) (fun k=>(0<k→QL (dw 32 a)=true)∧(1<k→QL (dw 32 b)=true)∧(2<k→QL (dw 32 c)=true)) (fun k=>by simp only [go_sem]<;>rfl) V59 ?_ (fun k hk hX=>?_)
 ·exact ⟨fun h=>absurd h (by decide),fun h=>absurd h (by decide),fun h=>absurd h (by decide)⟩
 ·skip
  by_cases h0:k=0
  ·skip
   subst h0
   have cz:((0:Nat):Int)=0:=rfl
   have ca:((0+1:Nat):Int)=1:=rfl
   refine JB.reg ?_
   have X:=(X.a cz).a ca
   refine JA.o1 JZ ?_
   refine JA.nil ?_
   refine JB.cndS JZ (fun hb25=>?_) (fun hb25=>?_)
   ·skip
    refine JB.skipS (JB.blk (JB.reg ?_))
    iterate 4 (refine JA.o1 JZ ?_)
    refine JA.nil (JB.reg ?_)
    iterate 5 (refine JA.o1 JZ ?_)
    refine JA.o1 Zk ?_
    iterate 2 (refine JA.o1 Yk ?_)
    refine JA.o1 JZ ?_
    refine JA.nil ?_
    by_cases ff:QL (dw 32 a)=true
    ·skip
     have hff:=Z0 ff
     refine JB.reg ?_
     iterate 2 (refine JA.o1 JZ ?_)
     refine JA.o1 Yk ?_
     refine JA.o1 JZ ?_
     refine JA.c1 (JA6 a 32 (by decide)) JZ JZ ?_
     refine JA.c1 (ZP (dw 32 a) ff) JZ JZ ?_
     refine JA.o1 Yk ?_
     refine JA.o1 JZ ?_
     refine JA.nil (JB.reg1 ?_)
     iterate 2 (refine JA.o1 JZ ?_)
     iterate 2 (refine JA.o1 Zk ?_)
     refine JA.o1 JZ ?_
     refine JA.nil (JY.nrm (JB.reg1 ?_))
     refine JA.o1 Zk ?_
     refine JA.o1 JZ ?_
     refine JA.nil ?_
     refine Jb.nxt ?_ ?_ ?_
     ·omega
     ·exact JO.kp [0,2,3,4,5,23,24] [2,3,4] V12
     ·refine ⟨fun hh=>?_,fun hh=>?_,fun hh=>?_⟩<;>first|exact ff|(exfalso;omega)|exact hX.1 (by omega)|exact hX.2.1 (by omega)
    ·skip
     have ff2:QL (dw 32 a)=false:=by simpa using ff
     refine JB.pan (pv:=Je) 5 rfl ?_
     iterate 2 (refine JA.o1 JZ ?_)
     refine JA.o1 Yk ?_
     refine JA.o1 JZ ?_
     refine JA.c1 (JA6 a 32 (by decide)) JZ JZ ?_
     exact JA.panc (JCa ff2 (by omega)) JV JZ J6 rfl
   ·exact absurd hb25 (by simp)
  ·skip
   by_cases h1:k=1
   ·skip
    subst h1
    have cz:((1:Nat):Int)=1:=rfl
    have ca:((1+1:Nat):Int)=2:=rfl
    refine JB.reg ?_
    have X:=(X.a cz).a ca
    refine JA.o1 JZ ?_
    refine JA.nil ?_
    refine JB.cndS JZ (fun hb25=>?_) (fun hb25=>?_)
    ·skip
     refine JB.skipS (JB.blk (JB.reg ?_))
     iterate 4 (refine JA.o1 JZ ?_)
     refine JA.nil (JB.reg ?_)
     iterate 5 (refine JA.o1 JZ ?_)
     refine JA.o1 Zk ?_
     iterate 2 (refine JA.o1 Yk ?_)
     refine JA.o1 JZ ?_
     refine JA.nil ?_
     by_cases ff:QL (dw 32 b)=true
     ·skip
      have hff:=Z0 ff
      refine JB.reg ?_
      iterate 2 (refine JA.o1 JZ ?_)
      refine JA.o1 Yk ?_
      refine JA.o1 JZ ?_
      refine JA.c1 (JA6 b 32 (by decide)) JZ JZ ?_
      refine JA.c1 (ZP (dw 32 b) ff) JZ JZ ?_
      refine JA.o1 Yk ?_
      refine JA.o1 JZ ?_
      refine JA.nil (JB.reg1 ?_)
      iterate 2 (refine JA.o1 JZ ?_)
      iterate 2 (refine JA.o1 Zk ?_)
      refine JA.o1 JZ ?_
      refine JA.nil (JY.nrm (JB.reg1 ?_))
      refine JA.o1 Zk ?_
      refine JA.o1 JZ ?_
      refine JA.nil ?_
      refine Jb.nxt ?_ ?_ ?_
      ·omega
      ·exact JO.kp [0,2,3,4,5,23,24] [2,3,4] V12
      ·refine ⟨fun hh=>?_,fun hh=>?_,fun hh=>?_⟩<;>first|exact ff|(exfalso;omega)|exact hX.1 (by omega)|exact hX.2.1 (by omega)
     ·skip
      have ff2:QL (dw 32 b)=false:=by simpa using ff
      refine JB.pan (pv:=Je) 5 rfl ?_
      iterate 2 (refine JA.o1 JZ ?_)
      refine JA.o1 Yk ?_
      refine JA.o1 JZ ?_
      refine JA.c1 (JA6 b 32 (by decide)) JZ JZ ?_
      exact JA.panc (JCa ff2 (by omega)) JV JZ J6 rfl
    ·exact absurd hb25 (by simp)
   ·skip
    by_cases h2:k=2
    ·skip
     subst h2
     have cz:((2:Nat):Int)=2:=rfl
     have ca:((2+1:Nat):Int)=3:=rfl
     refine JB.reg ?_
     have X:=(X.a cz).a ca
     refine JA.o1 JZ ?_
     refine JA.nil ?_
     refine JB.cndS JZ (fun hb25=>?_) (fun hb25=>?_)
     ·skip
      refine JB.skipS (JB.blk (JB.reg ?_))
      iterate 4 (refine JA.o1 JZ ?_)
      refine JA.nil (JB.reg ?_)
      iterate 5 (refine JA.o1 JZ ?_)
      refine JA.o1 Zk ?_
      iterate 2 (refine JA.o1 Yk ?_)
      refine JA.o1 JZ ?_
      refine JA.nil ?_
      by_cases ff:QL (dw 32 c)=true
      ·skip
       have hff:=Z0 ff
       refine JB.reg ?_
       iterate 2 (refine JA.o1 JZ ?_)
       refine JA.o1 Yk ?_
       refine JA.o1 JZ ?_
       refine JA.c1 (JA6 c 32 (by decide)) JZ JZ ?_
       refine JA.c1 (ZP (dw 32 c) ff) JZ JZ ?_
       refine JA.o1 Yk ?_
       refine JA.o1 JZ ?_
       refine JA.nil (JB.reg1 ?_)
       iterate 2 (refine JA.o1 JZ ?_)
       iterate 2 (refine JA.o1 Zk ?_)
       refine JA.o1 JZ ?_
       refine JA.nil (JY.nrm (JB.reg1 ?_))
       refine JA.o1 Zk ?_
       refine JA.o1 JZ ?_
       refine JA.nil ?_
       refine Jb.nxt ?_ ?_ ?_
       ·omega
       ·exact JO.kp [0,2,3,4,5,23,24] [2,3,4] V12
       ·refine ⟨fun hh=>?_,fun hh=>?_,fun hh=>?_⟩<;>first|exact ff|(exfalso;omega)|exact hX.1 (by omega)|exact hX.2.1 (by omega)
      ·skip
       have ff2:QL (dw 32 c)=false:=by simpa using ff
       refine JB.pan (pv:=Je) 5 rfl ?_
       iterate 2 (refine JA.o1 JZ ?_)
       refine JA.o1 Yk ?_
       refine JA.o1 JZ ?_
       refine JA.c1 (JA6 c 32 (by decide)) JZ JZ ?_
       exact JA.panc (JCa ff2 (by omega)) JV JZ J6 rfl
     ·exact absurd hb25 (by simp)
    ·skip
     have h3:k=3:=by omega
     subst h3
     have cz:((3:Nat):Int)=3:=rfl
     have fa:=hX.1 (by omega)
     have fb:=hX.2.1 (by omega)
     have fc:=hX.2.2 (by omega)
     have hn:(pad 32 6 (Ji (vp a))==a&&(pad 32 7 (Ji (vp b))==b&&pad 32 7 (Ji (vp c))==c))=false:=Bool.eq_false_iff.2 fun e=>hbad ⟨fa,fb,fc,e⟩
     refine JB.reg ?_
     have X:=(X.a cz).a hn
     refine JA.o1 JZ ?_
     refine JA.nil ?_
     refine JB.cndS JZ (fun hb25=>?_) (fun hb25=>?_)
     ·exact absurd hb25 (by simp)
     ·skip
      refine JB.exitS (Jb.ext (JY.hit (JB.reg ?_)))
      refine JA.o1 Yk ?_
      refine JA.o1 JZ ?_
      refine JA.o1 Yk ?_
      refine JA.o1 JZ ?_
      refine JA.o1 Yk ?_
      iterate 4 (refine JA.o1 JZ ?_)
      refine JA.nil ?_
      refine JB.opp (pv:=Je) 7 4 [0,1,2,3] rfl QB ?_
      refine JF.o1 JZ ?_
      refine JF.cal (JIc (trP a b c) (JO2 fa fb fc)) JV JZ J6 (Qm) JZ JD JD ?_
      refine JF.o1 JZ ?_
      refine JF.val [.slot 56,.slot 57] (fun A' hA=>JOR (a:=pad 32 6 (Ji (vp a))) (b:=pad 32 7 (Ji (vp b))) (c:=pad 32 7 (Ji (vp c))) (a':=a) (b':=b) (c':=c) Tryz.underlying148 Tryz.underlying9 (i:=_) rfl JI JI V83 V84) JD JD JD ?_
      have X:=Fx.mk hn
      exact JF.pang [] 0 (Ye false rfl) JV JD JC V81 (fun q x h=>by simp [look] at h) (fun q q' n h=>by simp [look] at h) QB QB rfl
theorem JRP (h a b c:Bs)(h22:h.length=22)(h6:h[6]? = some 32)(h14:h[14]? = some 32)(ea:h.take 6=a)(eb:(h.take 14).drop 7=b)(ec:(h.take 22).drop 15=c)(fa:QL (dw 32 a)=true)(fb:QL (dw 32 b)=true)(fc:QL (dw 32 c)=true)(hn:(pad 32 6 (Ji (vp a))==a&&(pad 32 7 (Ji (vp b))==b&&pad 32 7 (Ji (vp c))==c))=true):Ja Tryz.prog 93 [.str h] (trV (trP a b c)) []:=by
 have hfa:=Z0 fa
 have hfb:=Z0 fb
 have hfc:=Z0 fc
 have d22:((h.length:Int)==22)=true:=by rw [h22];rfl
 have d32:(((32:UInt8).toNat:Int)==32)=true:=rfl
 have la:a.length=6:=by rw [←ea,List.length_take];omega
 have lb:b.length=7:=by rw [←eb,List.length_drop,List.length_take];omega
 have lc:c.length=7:=by rw [←ec,List.length_drop,List.length_take];omega
 have wa:=JCQ 32 a
 have wb:=JCQ 32 b
 have wc:=JCQ 32 c
 have n6:Int.toNat 6=6:=rfl
 have n7:Int.toNat 7=7:=rfl
 have n14:Int.toNat 14=14:=rfl
 have n15:Int.toNat 15=15:=rfl
 have n22:Int.toNat 22=22:=rfl
 have w1:IntKind.i64.wrap 1=1:=rfl
 have w2:IntKind.i64.wrap 2=2:=rfl
 have w3:IntKind.i64.wrap 3=3:=rfl
 have w6:IntKind.i64.wrap 6=6:=rfl
 have w7:IntKind.i64.wrap 7=7:=rfl
 have w8:IntKind.i64.wrap 8=8:=rfl
 have w14:IntKind.i64.wrap 14=14:=rfl
 have w15:IntKind.i64.wrap 15=15:=rfl
 have w22:IntKind.i64.wrap 22=22:=rfl
 have w23:IntKind.i64.wrap 23=23:=rfl
 have f00:Nat.blt 0 0=false:=rfl
 have f01:Nat.blt 0 1=true:=rfl
 have f02:Nat.blt 0 2=true:=rfl
 have f03:Nat.blt 0 3=true:=rfl
 have f10:Nat.blt 1 0=false:=rfl
 have f11:Nat.blt 1 1=false:=rfl
 have f12:Nat.blt 1 2=true:=rfl
 have f13:Nat.blt 1 3=true:=rfl
 have f20:Nat.blt 2 0=false:=rfl
 have f21:Nat.blt 2 1=false:=rfl
 have f22:Nat.blt 2 2=false:=rfl
 have f23:Nat.blt 2 3=true:=rfl
 refine Js Jc Tryz.func93 rfl JEu JI rfl ?_
 refine JB.reg ?_
 have X:=((((((((((((((((((((((((((((((((((Fx.mk f00).a f01).a f02).a f03).a f10).a f11).a f12).a f13).a f20).a f21).a f22).a f23).a d22).a d32).a h6).a h14).a ea).a eb).a ec).a n6).a n7).a n14).a n15).a n22).a w1).a w2).a w3).a w6).a w7).a w8).a w14).a w15).a w22).a w23).a hn
 refine JA.o1 JZ ?_
 refine JA.nil (JB.reg ?_)
 refine JA.o1 JZ ?_
 refine JA.nil (JB.reg ?_)
 refine JA.o1 JZ ?_
 refine JA.nil (JB.reg ?_)
 iterate 4 (refine JA.o1 JZ ?_)
 iterate 3 (refine JA.y1 JZ ?_)
 iterate 2 (refine JA.o1 JZ ?_)
 iterate 3 (refine JA.y1 JZ ?_)
 refine JA.o1 JZ ?_
 refine JA.c1 (Qv true rfl) JZ JZ ?_
 refine JA.nil (JB.reg ?_)
 refine JA.o1 JZ ?_
 refine JA.nil (JB.assocS (JB.reg ?_))
 refine JA.c1 (JE9) JZ JZ ?_
 refine JA.o1 JZ ?_
 refine JA.nil (JB.blk ?_)
 refine JB.forA [0,2,3,4,5,23,24] [2,3,4] (3) (fun k=>[.slot 24 (.int k),.slot 5 (.int (JEO k)),.obj 3 (.cells [rk (Nat.blt 0 k) a,rk (Nat.blt 1 k) b,rk (Nat.blt 2 k) c]),.obj 4 (.cells [rv (Nat.blt 0 k) a,rv (Nat.blt 1 k) b,rv (Nat.blt 2 k) c])]) (fun _=>True) (fun k=>by simp only [go_sem]<;>rfl) V59 ?_ (fun k hk hX=>?_)
 ·trivial
 ·skip
  by_cases h0:k=0
  ·skip
   subst h0
   have cz:((0:Nat):Int)=0:=rfl
   have ca:((0+1:Nat):Int)=1:=rfl
   refine JB.reg ?_
   have X:=(X.a cz).a ca
   refine JA.o1 JZ ?_
   refine JA.nil ?_
   refine JB.cndS JZ (fun hb25=>?_) (fun hb25=>?_)
   ·skip
    refine JB.skipS (JB.blk (JB.reg ?_))
    iterate 4 (refine JA.o1 JZ ?_)
    refine JA.nil (JB.reg ?_)
    iterate 5 (refine JA.o1 JZ ?_)
    refine JA.o1 Zk ?_
    iterate 2 (refine JA.o1 Yk ?_)
    refine JA.o1 JZ ?_
    refine JA.nil (JB.reg ?_)
    iterate 2 (refine JA.o1 JZ ?_)
    refine JA.o1 Yk ?_
    refine JA.o1 JZ ?_
    refine JA.c1 (JA6 a 32 (by decide)) JZ JZ ?_
    refine JA.c1 (ZP (dw 32 a) fa) JZ JZ ?_
    refine JA.o1 Yk ?_
    refine JA.o1 JZ ?_
    refine JA.nil (JB.reg1 ?_)
    iterate 2 (refine JA.o1 JZ ?_)
    iterate 2 (refine JA.o1 Zk ?_)
    refine JA.o1 JZ ?_
    refine JA.nil (JY.nrm (JB.reg1 ?_))
    refine JA.o1 Zk ?_
    refine JA.o1 JZ ?_
    refine JA.nil ?_
    refine Jb.nxt ?_ ?_ ?_
    ·omega
    ·exact JO.kp [0,2,3,4,5,23,24] [2,3,4] V12
    ·trivial
   ·exact absurd hb25 (by simp)
  ·skip
   by_cases h1:k=1
   ·skip
    subst h1
    have cz:((1:Nat):Int)=1:=rfl
    have ca:((1+1:Nat):Int)=2:=rfl
    refine JB.reg ?_
    have X:=(X.a cz).a ca
    refine JA.o1 JZ ?_
    refine JA.nil ?_
    refine JB.cndS JZ (fun hb25=>?_) (fun hb25=>?_)
    ·skip
     refine JB.skipS (JB.blk (JB.reg ?_))
     iterate 4 (refine JA.o1 JZ ?_)
     refine JA.nil (JB.reg ?_)
     iterate 5 (refine JA.o1 JZ ?_)
     refine JA.o1 Zk ?_
     iterate 2 (refine JA.o1 Yk ?_)
     refine JA.o1 JZ ?_
     refine JA.nil (JB.reg ?_)
     iterate 2 (refine JA.o1 JZ ?_)
     refine JA.o1 Yk ?_
     refine JA.o1 JZ ?_
     refine JA.c1 (JA6 b 32 (by decide)) JZ JZ ?_
     refine JA.c1 (ZP (dw 32 b) fb) JZ JZ ?_
     refine JA.o1 Yk ?_
     refine JA.o1 JZ ?_
     refine JA.nil (JB.reg1 ?_)
     iterate 2 (refine JA.o1 JZ ?_)
     iterate 2 (refine JA.o1 Zk ?_)
     refine JA.o1 JZ ?_
     refine JA.nil (JY.nrm (JB.reg1 ?_))
     refine JA.o1 Zk ?_
     refine JA.o1 JZ ?_
     refine JA.nil ?_
     refine Jb.nxt ?_ ?_ ?_
     ·omega
     ·exact JO.kp [0,2,3,4,5,23,24] [2,3,4] V12
     ·trivial
    ·exact absurd hb25 (by simp)
   ·skip
    by_cases h2:k=2
    ·skip
     subst h2
     have cz:((2:Nat):Int)=2:=rfl
     have ca:((2+1:Nat):Int)=3:=rfl
     refine JB.reg ?_
     have X:=(X.a cz).a ca
     refine JA.o1 JZ ?_
     refine JA.nil ?_
     refine JB.cndS JZ (fun hb25=>?_) (fun hb25=>?_)
     ·skip
      refine JB.skipS (JB.blk (JB.reg ?_))
      iterate 4 (refine JA.o1 JZ ?_)
      refine JA.nil (JB.reg ?_)
      iterate 5 (refine JA.o1 JZ ?_)
      refine JA.o1 Zk ?_
      iterate 2 (refine JA.o1 Yk ?_)
      refine JA.o1 JZ ?_
      refine JA.nil (JB.reg ?_)
      iterate 2 (refine JA.o1 JZ ?_)
      refine JA.o1 Yk ?_
      refine JA.o1 JZ ?_
      refine JA.c1 (JA6 c 32 (by decide)) JZ JZ ?_
      refine JA.c1 (ZP (dw 32 c) fc) JZ JZ ?_
      refine JA.o1 Yk ?_
      refine JA.o1 JZ ?_
      refine JA.nil (JB.reg1 ?_)
      iterate 2 (refine JA.o1 JZ ?_)
      iterate 2 (refine JA.o1 Zk ?_)
      refine JA.o1 JZ ?_
      refine JA.nil (JY.nrm (JB.reg1 ?_))
      refine JA.o1 Zk ?_
      refine JA.o1 JZ ?_
      refine JA.nil ?_
      refine Jb.nxt ?_ ?_ ?_
      ·omega
      ·exact JO.kp [0,2,3,4,5,23,24] [2,3,4] V12
      ·trivial
     ·exact absurd hb25 (by simp)
    ·skip
     have h3:k=3:=by omega
     subst h3
     have cz:((3:Nat):Int)=3:=rfl
     refine JB.reg ?_
     have X:=X.a cz
     refine JA.o1 JZ ?_
     refine JA.nil ?_
     refine JB.cndS JZ (fun hb25=>?_) (fun hb25=>?_)
     ·exact absurd hb25 (by simp)
     ·skip
      refine JB.exitS (Jb.ext (JY.hit (JB.reg ?_)))
      refine JA.o1 Yk ?_
      refine JA.o1 JZ ?_
      refine JA.o1 Yk ?_
      refine JA.o1 JZ ?_
      refine JA.o1 Yk ?_
      iterate 4 (refine JA.o1 JZ ?_)
      refine JA.nil ?_
      refine JB.opk 7 ?_
      refine JF.o1 JZ ?_
      refine JF.cal (JIc (trP a b c) (JO2 fa fb fc)) JV JZ J6 (Qm) JZ JD JD ?_
      refine JF.o1 JZ ?_
      refine JF.val [.slot 56,.slot 57] (fun A' hA=>JOR (a:=pad 32 6 (Ji (vp a))) (b:=pad 32 7 (Ji (vp b))) (c:=pad 32 7 (Ji (vp c))) (a':=a) (b':=b) (c':=c) Tryz.underlying148 Tryz.underlying9 (i:=_) rfl JI JI V83 V84) JD JD JD ?_
      refine JF.cal (Qv true rfl) JV JZ J6 (Qm) JZ JD JD ?_
      refine JF.nil (Qs.fin QB QB ?_)
      refine JB.reg ?_
      iterate 2 (refine JA.o1 JZ ?_)
      refine JA.nil ?_
      exact Ends.fin [] (rs:=[.cell 2 146]) rfl JZ (by simp only [go_sem,X.h,rk,rv,cond_true,cond_false,JDR,JDS,JDT,JDU,Int.toNat_zero,List.drop_zero,Int.reduceAdd]<;>first|rfl|exact Ql)
end Go.Mw
namespace Go.Mw
open Go.Proofs Go.Bk
theorem JLv {h:Bs}{t:Tr}(hm:JBE h=some t):Ja Tryz.prog 93 [.str h] (trV t) []:=by
 unfold JBE at hm
 split at hm
 ·next hc=>
  simp only [Option.some.injEq] at hm
  obtain ⟨⟨h1,h2,h3⟩,⟨f1,f2,f3⟩,p1,p2,p3⟩:=hc
  subst hm
  refine JRP h _ _ _ h1 h2 h3 rfl (JL7 h) (JL8 h) f1 f2 f3 ?_
  simp only [Bool.and_eq_true,beq_iff_eq]
  exact ⟨p1,p2,p3⟩
 ·cases hm
theorem JTj {h:Bs}(hl:h.length≤1000000000)(hm:JBE h=none):QZ Tryz.prog Je 93 [.str h] []:=by
 by_cases h22:h.length=22
 ·obtain ⟨x,hx⟩:∃x,h[6]? = some x:=⟨_,List.getElem?_eq_getElem (by omega)⟩
  obtain ⟨y,hy⟩:∃y,h[14]? = some y:=⟨_,List.getElem?_eq_getElem (by omega)⟩
  by_cases x32:x=32
  ·subst x32
   by_cases y32:y=32
   ·subst y32
    refine JTi h _ _ _ h22 hx hy rfl (JL7 h) (JL8 h) fun hn=>?_
    obtain ⟨f1,f2,f3,hn⟩:=hn
    simp only [Bool.and_eq_true,beq_iff_eq] at hn
    unfold JBE at hm
    rw [if_pos ⟨⟨h22,hx,hy⟩,⟨f1,f2,f3⟩,hn.1,hn.2.1,hn.2.2⟩] at hm
    cases hm
   ·exact JTh h y h22 hx hy y32
  ·exact JTg h x h22 hx x32
 ·exact JTf h hl h22
end Go.Mw
namespace Go.Bk
open Go.Mw
theorem JG6 {own:Bs}:JAH own=true∧3≤own.length∧own[own.length-2]? = some 32∧chk (own.take (own.length-2))=own.drop (own.length-1) ∨
  JAH own=false∧(own.length<3∨3≤own.length∧(own[own.length-2]?≠some 32∨own[own.length-2]? = some 32∧chk (own.take (own.length-2))≠own.drop (own.length-1))):=by
 unfold JAH
 by_cases h1:3≤own.length<;>by_cases h2:own[own.length-2]? = some 32<;>by_cases h3:chk (own.take (own.length-2))=own.drop (own.length-1)<;>simp [h1,h2,h3]<;>omega
theorem JOq {l:List Sh}{own:Bs}(h:JAH own=false):Yv l own=none:=by unfold Yv;rw [if_neg (by rw [h];simp)]
theorem JOr {l:List Sh}{own:Bs}(h:JAH own=true)(h2:own.head? = some 35):Yv l own=(JBC (own.take (own.length-2))).map fun m=>l++[⟨m,[]⟩]:=by unfold Yv;rw [if_pos h,if_pos h2]
theorem JVt {own:Bs}(h:JAH own=true)(h2:own.head?≠some 35):Yv [] own=none:=by unfold Yv;rw [if_pos h,if_neg h2,if_pos rfl]
theorem JOs {l:List Sh}{x:Sh}{own:Bs}(h:JAH own=true)(h2:own.head?≠some 35):Yv (l++[x]) own=(JBE (own.take (own.length-2))).map fun t=>l++[⟨x.meter,x.tries++[t]⟩]:=by
 unfold Yv
 rw [if_pos h,if_neg h2,if_neg (by simp)]
 congr 1
 funext t
 rw [JIM]
theorem JIy:∀(ls:List Bs) (l0 l:List Sh),ls.foldlM Yv l0=some l→∀w∈ls,3≤w.length
 |[],_,_,_,w,hw=>by cases hw
 |a::ls,l0,l,h,w,hw=>by
  rw [List.foldlM_cons] at h
  obtain ⟨l1,h1,h2⟩:=Option.bind_eq_some_iff.1 h
  rcases List.mem_cons.1 hw with rfl|hw
  ·cases hc:JAH w
   ·rw [JOq hc] at h1;cases h1
   ·rcases JG6 (own:=w) with hh|hh
    ·exact hh.2.1
    ·rw [hc] at hh;exact absurd hh.1 (by simp)
  ·exact JIy ls l1 l h2 w hw
theorem JIo:∀(ls:List Bs),(∀w∈ls,3≤w.length)→4*ls.length≤(ends 10 ls).length
 |[],_=>by simp
 |a::ls,h=>by
  have:=JIo ls fun w hw=>h w (List.mem_cons_of_mem _ hw)
  have:=h a (List.mem_cons_self ..)
  rw [Zd]
  simp;omega
end Go.Bk
namespace Go.Mw
open Go.Proofs
open Go.Bk
attribute [local go_sem] decide_true beq_self_eq_true bne_self_eq_false
theorem JG2 (l:List Sh)(hl:l.length≤1000000000000)(hz:∀x∈l,x.tries.length≤1000):Ja Tryz.prog 80 [.leaf (.d (JAY l))] (.int (Yp l)) []:=by
 by_cases h:12<l.length
 ·have e:Yp l=3:=JFH _ _ h
  rw [e];exact JQ8 l h hl
 ·exact JLu l (by omega) hz
def stP (ls:List Bs)(q:Nat × List Sh × Value):Prop:=JA7 Yv ls q.1=some q.2.1∧q.1≤ls.length∧JBm q.1 q.2.1
theorem JMO {ls:List Bs}{k:Nat}{l:List Sh}(h:JA7 Yv ls k=some l)(hk:k=ls.length):ls.foldlM Yv []=some l:=by rw [hk,JR9] at h;exact h
theorem JGn {ls:List Bs}{k:Nat}(h:JA7 Yv ls (k+1)=none):ls.foldlM Yv []=none:=JSB h
theorem JRK (text:Bs)(ls:List Bs)(lf:List Sh)(hl:text.length≤3000)(h:ZE text=some ls)(hm:ls.foldlM Yv []=some lf)(hpe:Yp lf=0):Qr Tryz.prog 91 [.leaf (.d (.pt [.raw (.string (bs text))]))] [] (.ret (.leaf (.d (JAY lf))) []):=by
 obtain ⟨hb1,hb2⟩:=JFp h
 have h00:((0:Int)==0)=true:=rfl
 have hl4:=JIo ls (JIy ls [] lf hm)
 rw [←JHd h] at hl4
 refine Js Jc Tryz.func91 rfl JIB JI rfl ?_
 refine JB.reg ?_
 have X:=(Fx.mk hpe).a h00
 refine JA.o1 JC ?_
 refine JA.nil (JB.assocS (JB.reg ?_))
 refine JA.o1 JC ?_
 refine JA.c1 (JFB (by omega) h) JC JC ?_
 iterate 2 (refine JA.o1 JC ?_)
 refine JA.nilo 1 1000 68 2 JD JD (by omega) (by omega) JD ?_
 refine JA.pinNil 1002 1001 146 3 (.inl JD) JD (by omega) (by omega) (by omega) (by omega) JD ?_
 refine JA.nil (JB.blk ?_)
 refine JB.whl [1,7,8,9] [1000,1001,1002] (fun (q:Nat × List Sh × Value)=>[.slot 1 (.leaf (.own 1000 0 q.2.1.length q.2.1.length)),.slot 9 (.int q.1),.obj 1000 (.arr 68 2 (JCd q.2.1 q.2.2)),.obj 1001 (.arr 146 3 ((Yt q.2.1).map Yd)),.obj 1002 (.pin q.2.2 (.own 1001 0 (Yt q.2.1).length (Yt q.2.1).length))]) (fun q=>stP ls q) (fun q=>ls.length-q.1) ((0,([]:List Sh),Value.slice none 0 0)) (fun q=>by simp only [go_sem]<;>rfl) (by simp only [go_sem,X.h,Int.natCast_zero,JHt,JM2,List.map_nil,List.length_nil]<;>rfl) ?_ (fun q hX=>?_)
 ·exact ⟨JMh _ _,Nat.zero_le _,JLS⟩
 ·skip
  obtain ⟨k,l,v⟩:=q
  dsimp only at hX ⊢
  have hrl:=JOB l v
  have hkb:=hX.2.1
  refine JB.reg ?_
  have X:=X.a hrl
  refine JA.o1 JC ?_
  refine JA.nil ?_
  refine JB.cndS JC (fun hb10=>?_) (fun hb10=>?_)
  ·skip
   have hkn:k<ls.length:=by have:=of_decide_eq_true hb10;omega
   obtain ⟨s,hx⟩:∃s,ls[k]? = some s:=⟨_,List.getElem?_eq_getElem hkn⟩
   have hsl:=hb2 s (List.mem_of_getElem? hx)
   have hfk:=JMg hx hX.1
   have hbT:JBm k l:=hX.2.2
   have hbL:l.length≤k:=hbT.1
   refine JB.skipS (JB.blk (JB.reg ?_))
   have X:=X.a hx
   refine JA.o1 YE ?_
   iterate 2 (refine JA.o1 JC ?_)
   refine JA.nil (JB.reg ?_)
   iterate 2 (refine JA.o1 JC ?_)
   refine JA.o1 J4 ?_
   refine JA.o1 JC ?_
   refine JA.nil ?_
   by_cases hck:JAH s=true
   ·skip
    have hcc:=(JG6 (own:=s)).resolve_right (fun h=>by rw [hck] at h;exact absurd h.1 (by simp))
    obtain ⟨_,k3,k4,k5⟩:=hcc
    have d17:decide ((s.length:Int)-2>0)=true:=decide_eq_true (by omega)
    have tn:((s.length:Int)-2).toNat=s.length-2:=by omega
    have hge:(0≤(s.length:Int)-2)=True:=eq_true (by omega)
    have tn1:((s.length:Int)-2+1).toNat=s.length-1:=by omega
    have d33:(chk (s.take (s.length-2))==s.drop (s.length-1))=true:=beq_iff_eq.2 k5
    have d32:(((32:UInt8).toNat:Int)==32)=true:=rfl
    obtain ⟨c,hc0⟩:∃c,s[0]? = some c:=⟨_,List.getElem?_eq_getElem (by omega)⟩
    have hhd:s.head? = some c:=by rw [List.head?_eq_getElem?];exact hc0
    refine JB.opk 22 ?_
    have X:=(((((((X.a d17).a hge).a tn).a tn1).a d33).a d32).a k4).a hc0
    iterate 3 (refine JF.o1 QU ?_)
    iterate 4 (refine JF.y1 QU ?_)
    iterate 2 (refine JF.o1 QU ?_)
    iterate 2 (refine JF.y1 QU ?_)
    refine JF.y1 V48 ?_
    refine JF.calw JD (JE8 (s.take (s.length-2)) JBH) JV QU QU J6 (Qm) QU JD JD ?_
    iterate 2 (refine JF.y1 QU ?_)
    refine JF.y1 V49 ?_
    refine JF.y1 V48 ?_
    refine JF.y1 QU ?_
    refine JF.o1 QU ?_
    refine JF.cal (Qv true rfl) JV QU J6 (Qm) QU JD JD ?_
    refine JF.nil (Qs.finT JI JI JI ?_)
    refine JB.assocS ?_
    by_cases hc:c=35
    ·skip
     subst hc
     have d35:(((35:UInt8).toNat:Int)==35)=true:=rfl
     have hst:=JOr (l:=l) hck hhd
     rw [hst] at hfk
     refine JB.reg ?_
     have X:=X.a d35
     iterate 3 (refine JA.o1 QU ?_)
     refine JA.nil ?_
     refine JB.cndS QU (fun hb38=>?_) (fun hb38=>?_)
     ·skip
      refine JB.assocS ?_
      by_cases hmp:JBC (s.take (s.length-2))=none
      ·skip
       exact absurd (JGn (hfk.trans (by rw [hmp];rfl))) (by rw [hm];simp)
      ·skip
       obtain ⟨m,hm1⟩:=Option.ne_none_iff_exists'.1 hmp
       rw [hm1,Option.map_some] at hfk
       have hnx:=JLR hbT m
       by_cases hl0:l=[]
       ·skip
        subst hl0
        have hta:List.take (Yt []).length (List.map Yd (Yt []))=List.map Yd (Yt []):=rfl
        refine JB.reg ?_
        have X:=Fx.mk hta
        refine JA.frz 1001 JC ?_
        have X:=((((((((((((Fx.mk hpe).a h00).a hrl).a hx).a d17).a hge).a tn).a tn1).a d33).a d32).a k4).a hc0).a d35
        iterate 3 (refine JA.o1 QU ?_)
        refine JA.o1 V48 ?_
        refine JA.c1 (JGx hm1) QU QU ?_
        iterate 2 (refine JA.o1 QU ?_)
        refine JA.o1 V4 ?_
        refine JA.o1 QU ?_
        refine JA.pinNil 1002 1001 146 3 (.inr ⟨_,_,JD⟩) JD (by omega) (by omega) (by omega) (by omega) JD ?_
        refine JA.nil (JB.exitS (JY.hit (JB.reg1 ?_)))
        refine JA.o1 V49 ?_
        refine JA.o1 QU ?_
        refine JA.nil ?_
        refine Y8.nxt ((k+1,[⟨m,[]⟩],.slice none 0 0)) ?_ ?_ ?_
        ·show ls.length-(k+1)<ls.length-k;omega
        ·exact ⟨hfk,hkn,hnx⟩
        ·exact JO.kp [1,7,8,9] [1000,1001,1002] V15
       ·skip
        obtain ⟨l1,x,rfl⟩:=(JDf l).resolve_left hl0
        have hrv:=JB2 l1 x v
        have hlt:=JBu l1 x
        have hll:(l1++[x]).length=l1.length+1:=by simp
        have hrl2:=JEg l1
        have hl1:l1.length≤200000000:=by omega
        have hta:List.take x.tries.length (List.map Yd x.tries)=List.map Yd x.tries:=List.take_of_length_le (by simp)
        have hrb:=JGA l1 x
        have hr2:JCd (l1++[x]++[⟨m,[]⟩]) (.slice none 0 0)=(l1.map Zm++[[D.i x.meter,JGJ x.tries]])++[[.i m,.raw (.slice none 0 0)]]:=by rw [JB2,JGA]
        have hl2:Yt (l1++[x]++[⟨m,[]⟩])=[]:=JBu _ _
        refine JB.reg ?_
        have X:=((Fx.mk hrv).a hlt).a hta
        refine JA.frz 1001 JC ?_
        refine JA.unpinR 1002 1000 JC JC JC ?_
        have X:=((((((((((((((((Fx.mk hpe).a h00).a hrl).a hx).a d17).a hge).a tn).a tn1).a d33).a d32).a k4).a hc0).a d35).a hll).a hrl2).a hr2).a hl2
        iterate 3 (refine JA.o1 V89 ?_)
        refine JA.o1 V32 ?_
        refine JA.c1 (JGx hm1) V89 V89 ?_
        iterate 2 (refine JA.o1 V89 ?_)
        refine JA.o1 V2 ?_
        refine JA.o1 V89 ?_
        refine JA.pinNil 1002 1001 146 3 (.inr ⟨_,_,JD⟩) JD (by omega) (by omega) (by omega) (by omega) JD ?_
        refine JA.nil (JB.exitS (JY.hit (JB.reg1 ?_)))
        refine JA.o1 V38 ?_
        refine JA.o1 V89 ?_
        refine JA.nil ?_
        refine Y8.nxt ((k+1,l1++[x]++[⟨m,[]⟩],.slice none 0 0)) ?_ ?_ ?_
        ·show ls.length-(k+1)<ls.length-k;omega
        ·exact ⟨hfk,hkn,hnx⟩
        ·exact JO.kp [1,7,8,9] [1000,1001,1002] V13
     ·exact absurd hb38 (by simp)
    ·skip
     have hnh:s.head?≠some 35:=fun h=>by rw [hhd] at h;exact hc (Option.some.inj h)
     have d35:((c.toNat:Int)==35)=false:=beq_eq_false_iff_ne.2 (fun h=>hc (UInt8.toNat_inj.1 (by have:(35:UInt8).toNat=35:=rfl;omega)))
     refine JB.reg ?_
     have X:=X.a d35
     iterate 3 (refine JA.o1 QU ?_)
     refine JA.nil ?_
     refine JB.cndS QU (fun hb38=>?_) (fun hb38=>?_)
     ·exact absurd hb38 (by simp)
     ·skip
      refine JB.skipS ?_
      by_cases hl0:l=[]
      ·skip
       exact absurd (JGn (hfk.trans (hl0▸JVt hck hnh))) (by rw [hm];simp)
      ·skip
       obtain ⟨l1,x,rfl⟩:=(JDf l).resolve_left hl0
       have hrv:=JB2 l1 x v
       have hlt:=JBu l1 x
       have hll:(l1++[x]).length=l1.length+1:=by simp
       have hrl2:=JEg l1
       have hl1:l1.length≤200000000:=by omega
       have hta:List.take x.tries.length (List.map Yd x.tries)=List.map Yd x.tries:=List.take_of_length_le (by simp)
       have d4:decide (((l1.length+1:Nat):Int)>0)=true:=decide_eq_true (by omega)
       have hst:=JOs (l:=l1) (x:=x) hck hnh
       rw [hst] at hfk
       have t1:(((l1.length+1:Nat):Int)-1).toNat=l1.length:=by omega
       have hra:=JOC l1
       have hxt:x.tries.length≤k:=hbT.2 x (by simp)
       refine JB.reg ?_
       have X:=((((((X.a hll).a d4).a hrv).a hlt).a hrl2).a t1).a hra
       iterate 3 (refine JA.o1 QU ?_)
       refine JA.c1 (Qv true rfl) QU QU ?_
       refine JA.nil (JB.reg ?_)
       iterate 3 (refine JA.o1 QU ?_)
       refine JA.o1 V49 ?_
       refine JA.o1 V48 ?_
       refine JA.o1 QU ?_
       refine JA.nil ?_
       by_cases htp:JBE (s.take (s.length-2))=none
       ·skip
        exact absurd (JGn (hfk.trans (by rw [htp];rfl))) (by rw [hm];simp)
       ·skip
        obtain ⟨t,ht1⟩:=Option.ne_none_iff_exists'.1 htp
        rw [ht1,Option.map_some] at hfk
        have hnx:=JLT hbT t
        have hlt2:Yt (l1++[⟨x.meter,x.tries++[t]⟩])=x.tries++[t]:=JBu _ _
        refine JB.opl1 16 13 rfl QB ?_
        iterate 4 (refine JF.o1 Y0 ?_)
        refine JF.pinl 1002 JD Y0 Y0 JD JD ?_
        iterate 2 (refine JF.o1 Y0 ?_)
        refine JF.o1 V40 ?_
        refine JF.cal (JLv ht1) JV Y0 J6 (Qm) Y0 JD JD ?_
        refine JF.o1 Y0 ?_
        refine JF.o1 V3 ?_
        iterate 2 (refine JF.o1 Y0 ?_)
        refine JF.nil (JDo.pin (s:=66) (G:=1002) QB QB JD Y0 (.inr ⟨_,_,Y0⟩) (fun u=>JD) (fun u=>Y0) (fun u=>JD) fun u=>?_)
        refine JY.nrm (JB.reg1 ?_)
        refine JA.o1 V44 ?_
        refine JA.o1 Y0 ?_
        refine JA.nil ?_
        refine Y8.nxt ((k+1,l1++[⟨x.meter,x.tries++[t]⟩],u)) ?_ ?_ ?_
        ·show ls.length-(k+1)<ls.length-k;omega
        ·exact ⟨hfk,hkn,hnx⟩
        ·exact JO.kp [1,7,8,9] [1000,1001,1002] V11
   ·skip
    exact absurd (JGn (hfk.trans (JOq (by simpa using hck)))) (by rw [hm];simp)
  ·skip
   have hke:k=ls.length:=by have:=of_decide_eq_false hb10;have:=hX.2.1;omega
   have hf1:=JMO hX.1 hke
   rw [hm] at hf1
   have hle:lf=l:=Option.some.inj hf1
   subst hle
   have hbT:JBm k lf:=hX.2.2
   have hbL:lf.length≤k:=hbT.1
   clear hf1
   refine JB.exitS (Y8.ext (JY.hit ?_))
   by_cases hl0:lf=[]
   ·skip
    subst hl0
    have hta:List.take (Yt []).length (List.map Yd (Yt []))=List.map Yd (Yt []):=rfl
    have hrv:=JHt v
    refine JB.reg ?_
    have X:=Fx.mk hta
    refine JA.frz 1001 JC ?_
    have X:=Fx.mk hrv
    refine JA.frz 1000 (by simp only [go_sem,X.h,List.take_nil]<;>rfl) ?_
    have X:=((Fx.mk hpe).a h00).a hrl
    refine JA.o1 JC ?_
    refine JA.c1 (JG2 [] (by simp) (by simp)) JC JC ?_
    refine JA.o1 JC ?_
    refine JA.c1 (Qv true rfl) JC JC ?_
    refine JA.nil (JB.reg ?_)
    iterate 2 (refine JA.o1 JC ?_)
    refine JA.nil ?_
    exact Ends.fin [] (rs:=[.tmp 1]) rfl JC YV
   ·skip
    have hz:∀y∈lf,y.tries.length≤1000:=fun y hy=>by have:=hbT.2 y hy;omega
    obtain ⟨l1,x,rfl⟩:=(JDf lf).resolve_left hl0
    have hrv:=JB2 l1 x v
    have hlt:=JBu l1 x
    have hll:(l1++[x]).length=l1.length+1:=by simp
    have hrl2:=JEg l1
    have hl1:l1.length≤200000000:=by omega
    have hta:List.take x.tries.length (List.map Yd x.tries)=List.map Yd x.tries:=List.take_of_length_le (by simp)
    have htr:=JOx l1 x
    refine JB.reg ?_
    have X:=((Fx.mk hrv).a hlt).a hta
    refine JA.frz 1001 JC ?_
    refine JA.unpinR 1002 1000 JC JC JC ?_
    have X:=((Fx.mk hll).a hrl2).a htr
    refine JA.frz 1000 JC ?_
    have X:=((((Fx.mk hpe).a h00).a hrl).a hll).a hrl2
    refine JA.o1 JC ?_
    refine JA.c1 (JG2 (l1++[x]) (by omega) hz) JC JC ?_
    refine JA.o1 JC ?_
    refine JA.c1 (Qv true rfl) JC JC ?_
    refine JA.nil (JB.reg ?_)
    iterate 2 (refine JA.o1 JC ?_)
    refine JA.nil ?_
    exact Ends.fin [] (rs:=[.tmp 1]) rfl JC YV
theorem JNW (text:Bs)(ls:List Bs)(hl:text.length≤3000)(h:ZE text=some ls)(hbad:∀l,ls.foldlM Yv []=some l→Yp l≠0):QZ Tryz.prog Je 91 [.leaf (.d (.pt [.raw (.string (bs text))]))] []:=by
 obtain ⟨hb1,hb2⟩:=JFp h
 refine YG Jc Tryz.func91 rfl JIB JI rfl ?_
 refine JB.reg ?_
 refine JA.o ?_
 refine JA.nil (JB.assocS (JB.reg ?_))
 refine JA.o ?_
 refine JA.c1 (JFB (by omega) h) JD JD ?_
 iterate 2 (refine JA.o ?_)
 refine JA.nilo 1 1000 68 2 JD JD (by omega) (by omega) JD ?_
 refine JA.pinNil 1002 1001 146 3 (.inl JD) JD (by omega) (by omega) (by omega) (by omega) JD ?_
 refine JA.nil (JB.blk ?_)
 refine JB.whl [1,7,8,9] [1000,1001,1002] (fun (q:Nat × List Sh × Value)=>[.slot 1 (.leaf (.own 1000 0 q.2.1.length q.2.1.length)),.slot 9 (.int q.1),.obj 1000 (.arr 68 2 (JCd q.2.1 q.2.2)),.obj 1001 (.arr 146 3 ((Yt q.2.1).map Yd)),.obj 1002 (.pin q.2.2 (.own 1001 0 (Yt q.2.1).length (Yt q.2.1).length))]) (fun q=>stP ls q) (fun q=>ls.length-q.1) ((0,([]:List Sh),Value.slice none 0 0)) (fun q=>by simp only [go_sem]<;>rfl) (by simp only [go_sem,Int.natCast_zero,JHt,JM2,List.map_nil,List.length_nil]<;>rfl) ?_ (fun q hX=>?_)
 ·exact ⟨JMh _ _,Nat.zero_le _,JLS⟩
 ·skip
  obtain ⟨k,l,v⟩:=q
  dsimp only at hX ⊢
  have hrl:=JOB l v
  have hkb:=hX.2.1
  refine JB.reg ?_
  have X:=Fx.mk hrl
  refine JA.o1 JC ?_
  refine JA.nil ?_
  refine JB.cndS JC (fun hb10=>?_) (fun hb10=>?_)
  ·skip
   have hkn:k<ls.length:=by have:=of_decide_eq_true hb10;omega
   obtain ⟨s,hx⟩:∃s,ls[k]? = some s:=⟨_,List.getElem?_eq_getElem hkn⟩
   have hsl:=hb2 s (List.mem_of_getElem? hx)
   have hfk:=JMg hx hX.1
   have hbT:JBm k l:=hX.2.2
   have hbL:l.length≤k:=hbT.1
   refine JB.skipS (JB.blk (JB.reg ?_))
   have X:=X.a hx
   refine JA.o1 YE ?_
   iterate 2 (refine JA.o1 JC ?_)
   refine JA.nil (JB.reg ?_)
   iterate 2 (refine JA.o1 JC ?_)
   refine JA.o1 J4 ?_
   refine JA.o1 JC ?_
   refine JA.nil ?_
   by_cases hck:JAH s=true
   ·skip
    have hcc:=(JG6 (own:=s)).resolve_right (fun h=>by rw [hck] at h;exact absurd h.1 (by simp))
    obtain ⟨_,k3,k4,k5⟩:=hcc
    have d17:decide ((s.length:Int)-2>0)=true:=decide_eq_true (by omega)
    have tn:((s.length:Int)-2).toNat=s.length-2:=by omega
    have hge:(0≤(s.length:Int)-2)=True:=eq_true (by omega)
    have tn1:((s.length:Int)-2+1).toNat=s.length-1:=by omega
    have d33:(chk (s.take (s.length-2))==s.drop (s.length-1))=true:=beq_iff_eq.2 k5
    have d32:(((32:UInt8).toNat:Int)==32)=true:=rfl
    obtain ⟨c,hc0⟩:∃c,s[0]? = some c:=⟨_,List.getElem?_eq_getElem (by omega)⟩
    have hhd:s.head? = some c:=by rw [List.head?_eq_getElem?];exact hc0
    refine JB.opk 22 ?_
    have X:=(((((((X.a d17).a hge).a tn).a tn1).a d33).a d32).a k4).a hc0
    iterate 3 (refine JF.o1 QU ?_)
    iterate 4 (refine JF.y1 QU ?_)
    iterate 2 (refine JF.o1 QU ?_)
    iterate 2 (refine JF.y1 QU ?_)
    refine JF.y1 V48 ?_
    refine JF.calw JD (JE8 (s.take (s.length-2)) JBH) JV QU QU J6 (Qm) QU JD JD ?_
    iterate 2 (refine JF.y1 QU ?_)
    refine JF.y1 V49 ?_
    refine JF.y1 V48 ?_
    refine JF.y1 QU ?_
    refine JF.o1 QU ?_
    refine JF.cal (Qv true rfl) JV QU J6 (Qm) QU JD JD ?_
    refine JF.nil (Qs.finT JI JI JI ?_)
    refine JB.assocS ?_
    by_cases hc:c=35
    ·skip
     subst hc
     have d35:(((35:UInt8).toNat:Int)==35)=true:=rfl
     have hst:=JOr (l:=l) hck hhd
     rw [hst] at hfk
     refine JB.reg ?_
     have X:=X.a d35
     iterate 3 (refine JA.o1 QU ?_)
     refine JA.nil ?_
     refine JB.cndS QU (fun hb38=>?_) (fun hb38=>?_)
     ·skip
      refine JB.assocS ?_
      by_cases hmp:JBC (s.take (s.length-2))=none
      ·skip
       skip
       refine JB.pan (pv:=Je) 4 rfl ?_
       iterate 3 (refine JA.o1 QU ?_)
       refine JA.o1 V48 ?_
       exact JA.panc (JTO JBH hmp) JV QU J6 rfl
      ·skip
       obtain ⟨m,hm1⟩:=Option.ne_none_iff_exists'.1 hmp
       rw [hm1,Option.map_some] at hfk
       have hnx:=JLR hbT m
       by_cases hl0:l=[]
       ·skip
        subst hl0
        have hta:List.take (Yt []).length (List.map Yd (Yt []))=List.map Yd (Yt []):=rfl
        refine JB.reg ?_
        have X:=Fx.mk hta
        refine JA.frz 1001 JC ?_
        have X:=((((((((((Fx.mk hrl).a hx).a d17).a hge).a tn).a tn1).a d33).a d32).a k4).a hc0).a d35
        iterate 3 (refine JA.o1 QU ?_)
        refine JA.o1 V48 ?_
        refine JA.c1 (JGx hm1) QU QU ?_
        iterate 2 (refine JA.o1 QU ?_)
        refine JA.o1 V4 ?_
        refine JA.o1 QU ?_
        refine JA.pinNil 1002 1001 146 3 (.inr ⟨_,_,JD⟩) JD (by omega) (by omega) (by omega) (by omega) JD ?_
        refine JA.nil (JB.exitS (JY.hit (JB.reg1 ?_)))
        refine JA.o1 V49 ?_
        refine JA.o1 QU ?_
        refine JA.nil ?_
        refine Y8.nxt ((k+1,[⟨m,[]⟩],.slice none 0 0)) ?_ ?_ ?_
        ·show ls.length-(k+1)<ls.length-k;omega
        ·exact ⟨hfk,hkn,hnx⟩
        ·exact JO.kp [1,7,8,9] [1000,1001,1002] V15
       ·skip
        obtain ⟨l1,x,rfl⟩:=(JDf l).resolve_left hl0
        have hrv:=JB2 l1 x v
        have hlt:=JBu l1 x
        have hll:(l1++[x]).length=l1.length+1:=by simp
        have hrl2:=JEg l1
        have hl1:l1.length≤200000000:=by omega
        have hta:List.take x.tries.length (List.map Yd x.tries)=List.map Yd x.tries:=List.take_of_length_le (by simp)
        have hrb:=JGA l1 x
        have hr2:JCd (l1++[x]++[⟨m,[]⟩]) (.slice none 0 0)=(l1.map Zm++[[D.i x.meter,JGJ x.tries]])++[[.i m,.raw (.slice none 0 0)]]:=by rw [JB2,JGA]
        have hl2:Yt (l1++[x]++[⟨m,[]⟩])=[]:=JBu _ _
        refine JB.reg ?_
        have X:=((Fx.mk hrv).a hlt).a hta
        refine JA.frz 1001 JC ?_
        refine JA.unpinR 1002 1000 JC JC JC ?_
        have X:=((((((((((((((Fx.mk hrl).a hx).a d17).a hge).a tn).a tn1).a d33).a d32).a k4).a hc0).a d35).a hll).a hrl2).a hr2).a hl2
        iterate 3 (refine JA.o1 V89 ?_)
        refine JA.o1 V32 ?_
        refine JA.c1 (JGx hm1) V89 V89 ?_
        iterate 2 (refine JA.o1 V89 ?_)
        refine JA.o1 V2 ?_
        refine JA.o1 V89 ?_
        refine JA.pinNil 1002 1001 146 3 (.inr ⟨_,_,JD⟩) JD (by omega) (by omega) (by omega) (by omega) JD ?_
        refine JA.nil (JB.exitS (JY.hit (JB.reg1 ?_)))
        refine JA.o1 V38 ?_
        refine JA.o1 V89 ?_
        refine JA.nil ?_
        refine Y8.nxt ((k+1,l1++[x]++[⟨m,[]⟩],.slice none 0 0)) ?_ ?_ ?_
        ·show ls.length-(k+1)<ls.length-k;omega
        ·exact ⟨hfk,hkn,hnx⟩
        ·exact JO.kp [1,7,8,9] [1000,1001,1002] V13
     ·exact absurd hb38 (by simp)
    ·skip
     have hnh:s.head?≠some 35:=fun h=>by rw [hhd] at h;exact hc (Option.some.inj h)
     have d35:((c.toNat:Int)==35)=false:=beq_eq_false_iff_ne.2 (fun h=>hc (UInt8.toNat_inj.1 (by have:(35:UInt8).toNat=35:=rfl;omega)))
     refine JB.reg ?_
     have X:=X.a d35
     iterate 3 (refine JA.o1 QU ?_)
     refine JA.nil ?_
     refine JB.cndS QU (fun hb38=>?_) (fun hb38=>?_)
     ·exact absurd hb38 (by simp)
     ·skip
      refine JB.skipS ?_
      by_cases hl0:l=[]
      ·skip
       subst hl0
       have d4:decide ((([]:List Sh).length:Int)>0)=false:=rfl
       refine JB.pan (pv:=Je) 3 rfl ?_
       have X:=X.a d4
       iterate 3 (refine JA.o1 QU ?_)
       exact JA.panc (Ye false rfl) JV QU J6 rfl
      ·skip
       obtain ⟨l1,x,rfl⟩:=(JDf l).resolve_left hl0
       have hrv:=JB2 l1 x v
       have hlt:=JBu l1 x
       have hll:(l1++[x]).length=l1.length+1:=by simp
       have hrl2:=JEg l1
       have hl1:l1.length≤200000000:=by omega
       have hta:List.take x.tries.length (List.map Yd x.tries)=List.map Yd x.tries:=List.take_of_length_le (by simp)
       have d4:decide (((l1.length+1:Nat):Int)>0)=true:=decide_eq_true (by omega)
       have hst:=JOs (l:=l1) (x:=x) hck hnh
       rw [hst] at hfk
       have t1:(((l1.length+1:Nat):Int)-1).toNat=l1.length:=by omega
       have hra:=JOC l1
       have hxt:x.tries.length≤k:=hbT.2 x (by simp)
       refine JB.reg ?_
       have X:=((((((X.a hll).a d4).a hrv).a hlt).a hrl2).a t1).a hra
       iterate 3 (refine JA.o1 QU ?_)
       refine JA.c1 (Qv true rfl) QU QU ?_
       refine JA.nil (JB.reg ?_)
       iterate 3 (refine JA.o1 QU ?_)
       refine JA.o1 V49 ?_
       refine JA.o1 V48 ?_
       refine JA.o1 QU ?_
       refine JA.nil ?_
       by_cases htp:JBE (s.take (s.length-2))=none
       ·skip
        skip
        refine JB.opp1 (pv:=Je) 16 8 [0,1,2,3,4,5,6,7] rfl QB ?_
        iterate 7 (refine JF.o1 QU ?_)
        refine JF.o1 V48 ?_
        exact JF.pang [] 0 (JTj JBH htp) JV JD JD V81 (fun q x h=>by simp [look] at h) (fun q q' n h=>by simp [look] at h) QB QB rfl
       ·skip
        obtain ⟨t,ht1⟩:=Option.ne_none_iff_exists'.1 htp
        rw [ht1,Option.map_some] at hfk
        have hnx:=JLT hbT t
        have hlt2:Yt (l1++[⟨x.meter,x.tries++[t]⟩])=x.tries++[t]:=JBu _ _
        refine JB.opl1 16 13 rfl QB ?_
        iterate 4 (refine JF.o1 Y0 ?_)
        refine JF.pinl 1002 JD Y0 Y0 JD JD ?_
        iterate 2 (refine JF.o1 Y0 ?_)
        refine JF.o1 V40 ?_
        refine JF.cal (JLv ht1) JV Y0 J6 (Qm) Y0 JD JD ?_
        refine JF.o1 Y0 ?_
        refine JF.o1 V3 ?_
        iterate 2 (refine JF.o1 Y0 ?_)
        refine JF.nil (JDo.pin (s:=66) (G:=1002) QB QB JD Y0 (.inr ⟨_,_,Y0⟩) (fun u=>JD) (fun u=>Y0) (fun u=>JD) fun u=>?_)
        refine JY.nrm (JB.reg1 ?_)
        refine JA.o1 V44 ?_
        refine JA.o1 Y0 ?_
        refine JA.nil ?_
        refine Y8.nxt ((k+1,l1++[⟨x.meter,x.tries++[t]⟩],u)) ?_ ?_ ?_
        ·show ls.length-(k+1)<ls.length-k;omega
        ·exact ⟨hfk,hkn,hnx⟩
        ·exact JO.kp [1,7,8,9] [1000,1001,1002] V11
   ·skip
    have hck2:JAH s=false:=by simpa using hck
    have hcc:=((JG6 (own:=s)).resolve_left (fun h=>hck h.1)).2
    have tn:((s.length:Int)-2).toNat=s.length-2:=by omega
    have tn1:3≤s.length→((s.length:Int)-2+1).toNat=s.length-1:=fun h=>by omega
    by_cases hs3:s.length<3
    ·skip
     have d17:decide ((s.length:Int)-2>0)=false:=decide_eq_false (by omega)
     refine JB.opp (pv:=Je) 22 19 [0,1,2,3,4,5,6,7,8,9,10,11,12,13,14,15,16,17,18] rfl QB ?_
     have X:=(X.a tn).a d17
     iterate 3 (refine JF.o1 (by simp only [go_sem,X.h,List.drop_zero]<;>rfl) ?_)
     iterate 4 (refine JF.s ?_)
     iterate 2 (refine JF.o1 (by simp only [go_sem,X.h,List.drop_zero]<;>rfl) ?_)
     iterate 9 (refine JF.s ?_)
     refine JF.o1 (by simp only [go_sem,X.h,List.drop_zero]<;>rfl) ?_
     exact JF.pang [] 0 (Ye false rfl) JV JD JC V81 (fun q x h=>by simp [look] at h) (fun q q' n h=>by simp [look] at h) QB QB rfl
    ·skip
     have d17:decide ((s.length:Int)-2>0)=true:=decide_eq_true (by omega)
     have hcd:=(hcc.resolve_left hs3).2
     have tn2:=tn1 (by omega)
     have hge:(0≤(s.length:Int)-2)=True:=eq_true (by omega)
     by_cases h32:s[s.length-2]? = some 32
     ·skip
      have hne:=(hcd.resolve_left (fun h=>h h32)).2
      have d33:=JBM hne
      have d32:(((32:UInt8).toNat:Int)==32)=true:=rfl
      refine JB.opp (pv:=Je) 22 19 [0,1,2,3,4,5,6,7,8,9,10,11,12,13,14,15,16,17,18] rfl QB ?_
      have X:=((((((X.a tn).a d17).a hge).a tn2).a h32).a d32).a d33
      iterate 3 (refine JF.o1 JAe ?_)
      iterate 4 (refine JF.y1 JAe ?_)
      iterate 2 (refine JF.o1 JAe ?_)
      iterate 2 (refine JF.y1 JAe ?_)
      refine JF.y1 V64 ?_
      refine JF.calw JD (JE8 (s.take (s.length-2)) JBH) JV JAe JAe J6 (Qm) JAe JD JD ?_
      iterate 2 (refine JF.y1 JAe ?_)
      refine JF.y1 (by simp only [go_sem,X.h,List.drop_zero,if_true];(try simp (disch:=omega) only [IntWalk.i64_in,IntWalk.u64_in,IntWalk.i32_in,IntWalk.u8_in,if_neg,if_pos])<;> rfl) ?_
      refine JF.y1 V64 ?_
      refine JF.y1 JAe ?_
      refine JF.o1 JAe ?_
      have X:=((((((((Fx.mk hrl).a hx).a tn).a tn2).a hge).a d17).a h32).a d32).a d33
      exact JF.pang [] 0 (Ye false rfl) JV JD (by simp only [go_sem,X.h,if_true]<;>rfl) V81 (fun q x h=>by simp [look] at h) (fun q q' n h=>by simp [look] at h) QB QB rfl
     ·skip
      obtain ⟨z,hz0⟩:∃z,s[s.length-2]? = some z:=⟨_,List.getElem?_eq_getElem (by omega)⟩
      have d32:((z.toNat:Int)==32)=false:=beq_eq_false_iff_ne.2 (fun h=>h32 (by rw [hz0];congr 1;exact UInt8.toNat_inj.1 (by have:(32:UInt8).toNat=32:=rfl;omega)))
      refine JB.opp (pv:=Je) 22 19 [0,1,2,3,4,5,6,7,8,9,10,11,12,13,14,15,16,17,18] rfl QB ?_
      have X:=(((((X.a tn).a d17).a hge).a tn2).a hz0).a d32
      iterate 3 (refine JF.o1 JAe ?_)
      iterate 4 (refine JF.y1 JAe ?_)
      iterate 2 (refine JF.o1 JAe ?_)
      iterate 9 (refine JF.s ?_)
      refine JF.o1 JAe ?_
      have X:=(((((((Fx.mk hrl).a hx).a tn).a tn2).a hge).a d17).a hz0).a d32
      exact JF.pang [] 0 (Ye false rfl) JV JD (by simp only [go_sem,X.h,if_true]<;>rfl) V81 (fun q x h=>by simp [look] at h) (fun q q' n h=>by simp [look] at h) QB QB rfl
  ·skip
   have hke:k=ls.length:=by have:=of_decide_eq_false hb10;have:=hX.2.1;omega
   have hf1:=JMO hX.1 hke
   have h00:(Yp l==0)=false:=by simpa using hbad l hf1
   have hl4:=JIo ls (JIy ls [] l hf1)
   rw [←JHd h] at hl4
   have hbT:JBm k l:=hX.2.2
   have hbL:l.length≤k:=hbT.1
   refine JB.exitS (Y8.ext (JY.hit ?_))
   by_cases hl0:l=[]
   ·skip
    subst hl0
    have hta:List.take (Yt []).length (List.map Yd (Yt []))=List.map Yd (Yt []):=rfl
    have hrv:=JHt v
    refine JB.pan (pv:=Je) 3 rfl ?_
    have X:=Fx.mk hta
    refine JA.frz 1001 JC ?_
    have X:=Fx.mk hrv
    refine JA.frz 1000 (by simp only [go_sem,X.h,List.take_nil]<;>rfl) ?_
    have X:=(Fx.mk hrl).a h00
    refine JA.o1 JC ?_
    refine JA.c1 (JG2 [] (by simp) (by simp)) JC JC ?_
    refine JA.o1 JC ?_
    exact JA.panc (Ye false rfl) JV JC J6 rfl
   ·skip
    have hz:∀y∈l,y.tries.length≤1000:=fun y hy=>by have:=hbT.2 y hy;omega
    obtain ⟨l1,x,rfl⟩:=(JDf l).resolve_left hl0
    have hrv:=JB2 l1 x v
    have hlt:=JBu l1 x
    have hll:(l1++[x]).length=l1.length+1:=by simp
    have hrl2:=JEg l1
    have hl1:l1.length≤200000000:=by omega
    have hta:List.take x.tries.length (List.map Yd x.tries)=List.map Yd x.tries:=List.take_of_length_le (by simp)
    have htr:=JOx l1 x
    refine JB.pan (pv:=Je) 3 rfl ?_
    have X:=((Fx.mk hrv).a hlt).a hta
    refine JA.frz 1001 JC ?_
    refine JA.unpinR 1002 1000 JC JC JC ?_
    have X:=((Fx.mk hll).a hrl2).a htr
    refine JA.frz 1000 JC ?_
    have X:=(((Fx.mk hrl).a h00).a hll).a hrl2
    refine JA.o1 JC ?_
    refine JA.c1 (JG2 (l1++[x]) (by omega) hz) JC JC ?_
    refine JA.o1 JC ?_
    exact JA.panc (Ye false rfl) JV JC J6 rfl
theorem JTd (text:Bs)(hl:text.length≤3000)(h:ZE text=none):QZ Tryz.prog Je 91 [.leaf (.d (.pt [.raw (.string (bs text))]))] []:=by
 refine YG Jc Tryz.func91 rfl JIB JI rfl ?_
 refine JB.reg ?_
 refine JA.o ?_
 refine JA.nil (JB.assocS ?_)
 refine JB.pan (pv:=Je) 1 rfl ?_
 refine JA.o ?_
 exact JA.panc (JNU (by omega) h) JV JD J6 rfl
end Go.Mw
namespace Go.Mw
open Go.Proofs Go.Bk
theorem JRL {text:Bs}{l:List Sh}(hl:text.length≤3000)(h:JAl text=some l):Qr Tryz.prog 91 [.leaf (.d (.pt [.raw (.string (bs text))]))] [] (.ret (.leaf (.d (JAY l))) []):=by
 unfold JAl JC9 at h
 split at h
 ·next l' h1=>
  obtain ⟨ls,h3,h4⟩:=Option.bind_eq_some_iff.1 h1
  split at h
  ·next hc=>cases h;exact JRK text ls l hl h3 h4 hc
  ·cases h
 ·cases h
theorem JTe {text:Bs}(hl:text.length≤3000)(h:JAl text=none):QZ Tryz.prog Je 91 [.leaf (.d (.pt [.raw (.string (bs text))]))] []:=by
 cases h1:ZE text with
 |none=>exact JTd text hl h1
 |some ls=>
  cases h2:ls.foldlM Yv [] with
  |none=>exact JNW text ls hl h1 fun l e=>by rw [h2] at e;cases e
  |some l=>
   by_cases h3:Yp l=0
   ·have e:JC9 text=some l:=by unfold JC9;rw [h1];exact h2
    unfold JAl at h
    rw [e] at h
    simp only at h
    rw [if_pos h3] at h;cases h
   ·exact JNW text ls hl h1 fun l' e=>by rw [h2] at e;cases e;exact h3
end Go.Mw
namespace Go.Mw
open Go.Proofs Go.RowKit
theorem JO1 (a b v:Value):#[a,b]++(((Array.replicate 16 undef).setIfInBounds 3 v).setIfInBounds 0 v)=#[a,b,v,undef,undef,v,undef,undef,undef,undef,undef,undef,undef,undef,undef,undef,undef,undef]:=by kernel_rfl
theorem JSf (p q:Addr)(w:World):CallsD Tryz.prog 135 #[.pointer (some p),.pointer (some q)] .returning w fun e u' w'=>e=.returned (.tuple #[])∧u'=.returning∧w'=w:=by
 refine callsD_of_wpS Tryz.func135 rfl fun c₀ cs hu=>?_
 apply wpS_seq
 apply wpS_region
 simp [wpOpsS,go_sem,recoverD,hu,Tryz.ntmps135,Exit.thenS]
 rw [JO1]
 refine wpS_of_wp ?_
 have hnil:∀w:World,(binOp BinOp.neq 20 .nilIface .nilIface).run Tryz.prog w=.ok (.bool false) w:=fun _=>by kernel_rfl
 have heg:∀w:World,(eqGuard BinOp.neq 20 (Operand.tmp 6) (Operand.const .nilIface) .nilIface .nilIface).run Tryz.prog w=.ok () w:=fun _=>by kernel_rfl
 go_wp2
 cases c₀
 simp_all [bodyPostS,results,Tryz.results135,Exit.thenS]
theorem JWi (p q:Nat)(w:World){cp cq:Value}{tp tq:TypeId}(hp:w.heap[p]? = some (.cells #[cp] tp (0,0)))(hq:w.heap[q]? = some (.cells #[cq] tq (0,0)))(hpq:p≠q) :
  CallsD Tryz.prog 135 #[.pointer (some ⟨p,0,none⟩),.pointer (some ⟨q,0,none⟩)] (.panicking [{ v:=Je,recovered:=false }]) w fun e u' w'=>e=.returned (.tuple #[])∧u'=.panicking [{ v:=Je,recovered:=true }] ∧
   w'=(((w.setCell ⟨p,0,none⟩ (.slice none 0 0)).setCell ⟨q,0,none⟩ (.int .i64 8)).alloc (.cells #[.int .i64 8] 172)).drew:=by
 have mixed:=JHe
 refine callsD_of_wpS Tryz.func135 rfl fun c₀ cs hu=>?_
 apply wpS_seq
 apply wpS_region
 simp [wpOpsS,go_sem,recoverD,hu,Tryz.ntmps135,Exit.thenS]
 rw [JO1]
 refine wpS_of_wp ?_
 have hnil:∀w:World,(binOp BinOp.neq 20 Je .nilIface).run Tryz.prog w=.ok (.bool true) w:=fun _=>by kernel_rfl
 have hta:∀w:World,(Instr.typeAssert Je 20 172 true).run Tryz.prog w=.ok (.tuple #[.agg #[.int .i64 8],.bool true]) w:=fun _=>by kernel_rfl
 have heg:∀w:World,(eqGuard BinOp.neq 20 (Operand.tmp 6) (Operand.const .nilIface) Je .nilIface).run Tryz.prog w=.ok () w:=fun _=>by kernel_rfl
 generalize hv:Je=v at hnil hta heg ⊢
 have hlp:=(Array.getElem?_eq_some_iff.1 hp).1
 have hlq:=(Array.getElem?_eq_some_iff.1 hq).1
 have hpa:∀o,(w.alloc o).drew.heap[p]? = some (.cells #[cp] tp (0,0)):=fun o=>(Below.heap_alloc w o p hlp).trans hp
 have hqa:∀o,(w.alloc o).drew.heap[q]? = some (.cells #[cq] tq (0,0)):=fun o=>(Below.heap_alloc w o q hlq).trans hq
 have hna:∀o,(w.alloc o).drew.heap[w.heap.size]? = some o:=fun o=>heap_alloc_new w o
 have cpa:∀o,(w.alloc o).drew.cell? ⟨p,0,none⟩=some cp:=fun o=>by rw [Lib.cell_of_heap (hpa o)];rfl
 have cqa:∀o,(w.alloc o).drew.cell? ⟨q,0,none⟩=some cq:=fun o=>by rw [Lib.cell_of_heap (hqa o)];rfl
 have cna:(w.alloc (.cells #[.int .i64 8] 172)).drew.cell? ⟨w.heap.size,0,none⟩=some (.int .i64 8):=by rw [Lib.cell_of_heap (hna _)];rfl
 have fpa:∀o,(w.alloc o).drew.frozen? ⟨p,0,none⟩=false:=fun o=>Lib.frozen_of_heap (hpa o) _
 have fqa:∀o,(w.alloc o).drew.frozen? ⟨q,0,none⟩=false:=fun o=>Lib.frozen_of_heap (hqa o) _
 have cp0:w.cell? ⟨p,0,none⟩=some cp:=by rw [Lib.cell_of_heap hp];rfl
 have cq0:w.cell? ⟨q,0,none⟩=some cq:=by rw [Lib.cell_of_heap hq];rfl
 have fp0:w.frozen? ⟨p,0,none⟩=false:=Lib.frozen_of_heap hp _
 have fq0:w.frozen? ⟨q,0,none⟩=false:=Lib.frozen_of_heap hq _
 have hqp:q≠p:=fun h=>hpq h.symm
 go_wp2
 go_region
 exact ⟨rfl,_,rfl,_,results_none rfl _ _ _,rfl,rfl,rfl⟩
theorem JUN (x:Value)(w:World)(G:Value→World→Prop)
  (hf:Calls Tryz.prog 91 #[x] ((w.alloc (.cells #[.slice none 0 0] 61)).alloc (.cells #[.int .i64 0] 35)) fun e w'=>∃p n c,e=.returned (.slice p n c)∧G (.slice p n c) w' ∧
   w'.heap[w.heap.size]? = some (.cells #[.slice none 0 0] 61 (0,0))∧w'.heap[w.heap.size+1]? = some (.cells #[.int .i64 0] 35 (0,0))) :
  Calls Tryz.prog 90 #[.func (.func 91) #[] #[x]] w fun e w'=>∃r w2,G r w2∧e=.returned (.tuple #[r,.int .i64 0])∧w'=(w2.setCell ⟨w.heap.size,0,none⟩ r).setCell ⟨w.heap.size+1,0,none⟩ (.int .i64 0):=by
 have hmf:∀(fn:Fn) (first cap:Array Value) (w:World),(Instr.makeFunc fn first cap).run Tryz.prog w=.ok (.func fn first cap) w:=fun _ _ _ _=>rfl
 go_enter_defers Tryz.func90,Tryz.ntmps90
 go_wp2_with (go_at_call 91;refine hf.mono ?_)
 rintro e w2 ⟨p,n,c,rfl,hG,h1,h2⟩
 have c1:w2.cell? ⟨w.heap.size,0,none⟩=some (.slice none 0 0):=by rw [Lib.cell_of_heap h1];rfl
 have c2:w2.cell? ⟨w.heap.size+1,0,none⟩=some (.int .i64 0):=by rw [Lib.cell_of_heap h2];rfl
 have f1:w2.frozen? ⟨w.heap.size,0,none⟩=false:=Lib.frozen_of_heap h1 _
 have f2:w2.frozen? ⟨w.heap.size+1,0,none⟩=false:=Lib.frozen_of_heap h2 _
 go_wp2
 have hne:w.heap.size≠w.heap.size+1:=by omega
 have g1:((w2.setCell ⟨w.heap.size,0,none⟩ (.slice p n c)).setCell ⟨w.heap.size+1,0,none⟩ (.int .i64 0)).heap[w.heap.size]? = some (.cells #[.slice p n c] 61 (0,0)):=
  (Below.heap_setCell _ ⟨w.heap.size+1,0,none⟩ _ _ hne).trans ((Lib.heap_setCell_same (i:=0) h1 (.slice p n c)).trans rfl)
 have g2:((w2.setCell ⟨w.heap.size,0,none⟩ (.slice p n c)).setCell ⟨w.heap.size+1,0,none⟩ (.int .i64 0)).heap[w.heap.size+1]? = some (.cells #[.int .i64 0] 35 (0,0)):=
  (Lib.heap_setCell_same (i:=0) ((Below.heap_setCell w2 ⟨w.heap.size,0,none⟩ _ _ (fun h=>hne h.symm)).trans h2) (.int .i64 0)).trans rfl
 have d1:((w2.setCell ⟨w.heap.size,0,none⟩ (.slice p n c)).setCell ⟨w.heap.size+1,0,none⟩ (.int .i64 0)).cell? ⟨w.heap.size,0,none⟩=some (.slice p n c):=by rw [Lib.cell_of_heap g1];rfl
 have d2:((w2.setCell ⟨w.heap.size,0,none⟩ (.slice p n c)).setCell ⟨w.heap.size+1,0,none⟩ (.int .i64 0)).cell? ⟨w.heap.size+1,0,none⟩=some (.int .i64 0):=by rw [Lib.cell_of_heap g2];rfl
 refine leaves_cons (f:=135) (args:=#[.pointer (some ⟨w.heap.size,0,none⟩),.pointer (some ⟨w.heap.size+1,0,none⟩)]) (by simp) (by simp [go_sem]) ?_
 refine (JSf ⟨w.heap.size,0,none⟩ ⟨w.heap.size+1,0,none⟩ _).mono ?_
 rintro e u' w'' ⟨rfl,rfl,rfl⟩
 generalize hW:(w2.setCell ⟨w.heap.size,0,none⟩ (.slice p n c)).setCell ⟨w.heap.size+1,0,none⟩ (.int .i64 0)=W at d1 d2 ⊢
 simp [Leaves,settle,results,Tryz.results90,go_sem,d1,d2]
 exact ⟨_,w2,hG,rfl,hW.symm⟩
theorem JUO (x:Value)(w:World)(G:World→Prop)
  (hf:Calls Tryz.prog 91 #[x] ((w.alloc (.cells #[.slice none 0 0] 61)).alloc (.cells #[.int .i64 0] 35)) fun e w'=>e=.panicked (Zc Je)∧G w' ∧
   w'.heap[w.heap.size]? = some (.cells #[.slice none 0 0] 61 (0,0))∧w'.heap[w.heap.size+1]? = some (.cells #[.int .i64 0] 35 (0,0))) :
  Calls Tryz.prog 90 #[.func (.func 91) #[] #[x]] w fun e w'=>∃w2,G w2∧e=.returned (.tuple #[.slice none 0 0,.int .i64 8])∧w'=(((w2.setCell ⟨w.heap.size,0,none⟩ (.slice none 0 0)).setCell ⟨w.heap.size+1,0,none⟩ (.int .i64 8)).alloc (.cells #[.int .i64 8] 172)).drew:=by
 have hmf:∀(fn:Fn) (first cap:Array Value) (w:World),(Instr.makeFunc fn first cap).run Tryz.prog w=.ok (.func fn first cap) w:=fun _ _ _ _=>rfl
 go_enter_defers Tryz.func90,Tryz.ntmps90
 go_wp2_with (go_at_call 91;refine hf.mono ?_)
 rintro e w2 ⟨rfl,hG,h1,h2⟩
 go_wp2
 have hne:w.heap.size≠w.heap.size+1:=by omega
 have hl2:=(Array.getElem?_eq_some_iff.1 h2).1
 have g1:((w2.setCell ⟨w.heap.size,0,none⟩ (.slice none 0 0)).setCell ⟨w.heap.size+1,0,none⟩ (.int .i64 8)).heap[w.heap.size]? = some (.cells #[.slice none 0 0] 61 (0,0)):=
  (Below.heap_setCell _ ⟨w.heap.size+1,0,none⟩ _ _ hne).trans ((Lib.heap_setCell_same (i:=0) h1 (.slice none 0 0)).trans rfl)
 have g2:((w2.setCell ⟨w.heap.size,0,none⟩ (.slice none 0 0)).setCell ⟨w.heap.size+1,0,none⟩ (.int .i64 8)).heap[w.heap.size+1]? = some (.cells #[.int .i64 8] 35 (0,0)):=
  (Lib.heap_setCell_same (i:=0) ((Below.heap_setCell w2 ⟨w.heap.size,0,none⟩ _ _ (fun h=>hne h.symm)).trans h2) (.int .i64 8)).trans rfl
 have hs:((w2.setCell ⟨w.heap.size,0,none⟩ (.slice none 0 0)).setCell ⟨w.heap.size+1,0,none⟩ (.int .i64 8)).heap.size=w2.heap.size:=by rw [Y5,Y5]
 refine leaves_cons (f:=135) (args:=#[.pointer (some ⟨w.heap.size,0,none⟩),.pointer (some ⟨w.heap.size+1,0,none⟩)]) (by simp) (by simp [go_sem]) ?_
 refine (JWi w.heap.size (w.heap.size+1) w2 h1 h2 hne).mono ?_
 rintro e u' w'' ⟨rfl,rfl,rfl⟩
 generalize hW:(w2.setCell ⟨w.heap.size,0,none⟩ (.slice none 0 0)).setCell ⟨w.heap.size+1,0,none⟩ (.int .i64 8)=W at g1 g2 hs ⊢
 have k1:(W.alloc (.cells #[.int .i64 8] 172)).drew.heap[w.heap.size]? = some (.cells #[.slice none 0 0] 61 (0,0)):=(Below.heap_alloc W _ _ (by omega)).trans g1
 have k2:(W.alloc (.cells #[.int .i64 8] 172)).drew.heap[w.heap.size+1]? = some (.cells #[.int .i64 8] 35 (0,0)):=(Below.heap_alloc W _ _ (by omega)).trans g2
 have d1:(W.alloc (.cells #[.int .i64 8] 172)).drew.cell? ⟨w.heap.size,0,none⟩=some (.slice none 0 0):=by rw [Lib.cell_of_heap k1];rfl
 have d2:(W.alloc (.cells #[.int .i64 8] 172)).drew.cell? ⟨w.heap.size+1,0,none⟩=some (.int .i64 8):=by rw [Lib.cell_of_heap k2];rfl
 generalize hV:(W.alloc (.cells #[.int .i64 8] 172)).drew=V at d1 d2 ⊢
 simp [Leaves,settle,results,Tryz.results90,go_sem,d1,d2]
 trace_state
 exact ⟨w2,hG,by rw [hW,hV]⟩
end Go.Mw
namespace Go.Mw
open Go.Proofs
open Go.Bk
attribute [local go_sem] decide_true beq_self_eq_true bne_self_eq_false
theorem JUR:JGO Tryz.prog 90 91 61 35:=fun x w G h=>JUN x w G h
theorem JUU:JGP Tryz.prog 90 91 Je 61 35 172:=fun x w G h=>JUO x w G h
theorem JRO (b:Bs)(hb:b.length≤3000):Ja Tryz.prog 90 [.leaf (.d (.fn 91 [.pt [.raw (.string (bs b))]]))] (rsE (JAl b)) []:=by
 cases h:JAl b with
 |some l=>exact JIg JUR (fun _ _ _ h=>JKL h) (JRL hb h)
 |none=>exact JIh JUU (fun _ _=>RepD.nil _ _ _) (JTe hb h)
theorem JLh (b:Bs)(hb:b.length≤3000):Ja Tryz.prog 36 [.str b] (rsE (JAl b)) []:=by
 have hcr:=JRO b hb
 generalize JAl b=q at hcr ⊢
 rcases q with _|l
 ·skip
  dsimp only [rsE] at hcr ⊢
  refine Js Jc Tryz.func36 rfl (by simp only [List.length_cons,List.length_nil,Tryz.ntmps36];omega) JI rfl ?_
  refine JB.reg ?_
  iterate 3 (refine JA.o ?_)
  refine JA.nil (JB.reg ?_)
  refine JA.frz 1 JD ?_
  refine JA.o ?_
  refine JA.frz 4 JD ?_
  refine JA.c1 (hcr) JD JD ?_
  iterate 4 (refine JA.o ?_)
  refine JA.nil ?_
  exact Ends.fin [] (rs:=[.tmp 2,.tmp 3]) rfl JD Yj
 ·skip
  dsimp only [rsE] at hcr ⊢
  refine Js Jc Tryz.func36 rfl (by simp only [List.length_cons,List.length_nil,Tryz.ntmps36];omega) JI rfl ?_
  refine JB.reg ?_
  iterate 3 (refine JA.o ?_)
  refine JA.nil (JB.reg ?_)
  refine JA.frz 1 JD ?_
  refine JA.o ?_
  refine JA.frz 4 JD ?_
  refine JA.c1 (hcr) JD JD ?_
  iterate 4 (refine JA.o ?_)
  refine JA.nil ?_
  exact Ends.fin [] (rs:=[.tmp 2,.tmp 3]) rfl JD Yj
end Go.Mw
namespace Go.Bk
def bch (b:Bool):UInt8:=bif b then 49 else 48
def YI (s:Bits):Bs:=s.map bch
theorem JAQ (s:Bits):(YI s).length=s.length:=by simp [YI]
theorem JEB (a b:Bits):YI (a++b)=YI a++YI b:=by simp [YI]
theorem JPs (n:Nat):YI (List.replicate n false)=List.replicate n 48:=by simp [YI,bch]
theorem JPr {s:Bits}{k:Nat}{b:Bool}(h:s[k]? = some b):(YI s)[k]? = some (bch b):=by
 unfold YI;rw [List.getElem?_map,h];rfl
theorem JPh (b:Bool):(bch b).toNat=48+b.toNat:=by cases b<;>rfl
def Zy (n:Nat):Bits:=JW (bl n) n
theorem JO8 {n:Nat}(h:n<2):Ji n=YI [n==1]:=by
 rcases (show n=0∨n=1 by omega) with rfl|rfl
 ·rw [JKZ];rfl
 ·rw [JBa (by omega)];rfl
theorem JPp {n:Nat}(h:n<2):Zy n=[n==1]:=by
 unfold Zy
 rw [JIT h]
 show []++[n%2==1]=_
 rw [Nat.mod_eq_of_lt h];rfl
theorem JPo {n:Nat}(h:¬n<2):Zy n=Zy (n / 2)++[n%2==1]:=by
 unfold Zy
 rw [JLN h];rfl
theorem JEA (n:Nat):(Zy n).length=bl n:=Qk _ _
theorem JHj {n w:Nat}(h:n<2^w)(hw:1≤w):pad 48 w (YI (Zy n))=YI (JW w n):=by
 have hl:=JAi h hw
 unfold pad
 rw [JAQ,JEA,←JPs,←JEB]
 unfold Zy
 rw [←JHf (bl n) (w-bl n) n (JA5 n).2.1,show w-bl n+bl n=w by omega]
theorem JTl {n:Nat}:pad 48 (2*bl n-1) (YI (Zy n))=YI (Qb n):=by
 have h1:=(JA5 n).1
 have h2:=(JA5 n).2.1
 refine JHj (Nat.lt_of_lt_of_le h2 (Nat.pow_le_pow_right (by omega) (by omega))) (by omega)
theorem JPA (n:Nat):Ji (n%2)=YI [n%2==1]:=JO8 (Nat.mod_lt _ (by omega))
end Go.Bk
namespace Go.Mw
open Go.Proofs
open Go.Bk
attribute [local go_sem] decide_true beq_self_eq_true bne_self_eq_false
theorem JGq (n:Nat):n<9223372036854775808→Ja Tryz.prog 78 [.int n] (.str (YI (Zy n))) []:=by
 induction n using Nat.strongRecOn
 rename_i n ih
 intro hn
 have htd:Int.tdiv (n:Int) 2=((n / 2:Nat):Int):=rfl
 have htm:Int.tmod (n:Int) 2=((n%2:Nat):Int):=rfl
 refine Js Jc Tryz.func78 rfl (by simp only [List.length_cons,List.length_nil,Tryz.ntmps78];omega) JI rfl ?_
 refine JB.reg ?_
 have X:=(Fx.mk htd).a htm
 refine JA.o1 JC ?_
 refine JA.nil (JB.assocS (JB.reg ?_))
 iterate 2 (refine JA.o1 JC ?_)
 refine JA.nil ?_
 refine JB.cndS JC (fun hb4=>?_) (fun hb4=>?_)
 ·skip
  have h2:n<2:=by have:=of_decide_eq_true hb4;omega
  have ht:=JO8 h2
  have hb:=JPp h2
  refine JB.assocS (JB.reg ?_)
  have X:=(X.a ht).a hb
  refine JA.o1 JC ?_
  refine JA.c1 (JIX n (by omega)) JC JC ?_
  refine JA.o1 JC ?_
  refine JA.nil (JB.retS ?_)
  exact Ends.fin [] (rs:=[.tmp 2]) rfl JC YV
 ·skip
  have h2:¬n<2:=by have:=of_decide_eq_false hb4;omega
  have hb:=JPo h2
  have hm:=JPA n
  have ha:=JEB
  have hL1:=JAQ (Zy (n / 2))
  rw [JEA] at hL1
  have hb63:=JAi (n:=n / 2) (k:=63) (by omega) (by omega)
  have hL2:=JAQ [n%2==1]
  rw [List.length_singleton] at hL2
  refine JB.skipS (JB.reg ?_)
  have X:=((X.a hb).a hm).a ha
  refine JA.o1 JC ?_
  refine JA.o1 J4 ?_
  refine JA.c1 (ih (n / 2) (by omega) (by omega)) JC JC ?_
  refine JA.o1 JC ?_
  refine JA.o1 J4 ?_
  refine JA.c1 (JIX (n%2) (by omega)) JC JC ?_
  refine JA.o1 J4 ?_
  refine JA.o1 JC ?_
  refine JA.nil ?_
  exact Ends.fin [] (rs:=[.tmp 2]) rfl JC YV
theorem JQK (n:Nat)(h1:1≤n)(hn:n≤65535):Ja Tryz.prog 123 [.int n] (.str (YI (Qb n))) []:=by
 have hL:=JAQ (Zy n)
 rw [JEA] at hL
 have hb1:=(JA5 n).1
 have hb2:=JAi (n:=n) (k:=16) (by omega) (by omega)
 have hp:=JTl (n:=n)
 have hcr:=JG1 (YI (Zy n)) 48 (2*bl n-1) (by omega) (by omega)
 rw [hp] at hcr
 refine Js Jc Tryz.func123 rfl (by simp only [List.length_cons,List.length_nil,Tryz.ntmps123];omega) JI rfl ?_
 refine JB.reg ?_
 have X:=Fx.mk hL
 refine JA.o1 JC ?_
 refine JA.nil (JB.reg ?_)
 refine JA.o1 JC ?_
 refine JA.c1 (JGq n (by omega)) JC JC ?_
 refine JA.o1 JC ?_
 refine JA.nil (JB.reg ?_)
 iterate 3 (refine JA.o1 JC ?_)
 iterate 2 (refine JA.o1 J4 ?_)
 refine JA.c1 (hcr) JC JC ?_
 refine JA.o1 JC ?_
 refine JA.nil ?_
 exact Ends.fin [] (rs:=[.tmp 2]) rfl JC YV
theorem JRB (s:Bits)(hs:s.length≤100000):Ja Tryz.prog 124 [.str (YI s)] (.str (YI [YS s])) []:=by
 have hsl:=JAQ s
 have h00:s.take 0=[]:=rfl
 have hob:=JAT s
 have htm:Int.tmod ((JS s:Nat):Int) 2=((JS s%2:Nat):Int):=rfl
 refine Js Jc Tryz.func124 rfl (by simp only [List.length_cons,List.length_nil,Tryz.ntmps124];omega) JI rfl ?_
 refine JB.reg ?_
 have X:=Fx.mk hsl
 refine JA.o1 JC ?_
 refine JA.nil (JB.reg ?_)
 refine JA.o1 JC ?_
 refine JA.nil (JB.assocS (JB.reg ?_))
 refine JA.o1 JC ?_
 refine JA.nil (JB.blk ?_)
 have X:=X.a h00
 refine JB.forA [0,3,4] [] (s.length) (fun k=>[.slot 3 (.int (JS (s.take k):Nat)),.slot 4 (.int k)]) (fun _=>True) (fun k=>by simp only [go_sem]<;>rfl) (by simp only [go_sem,X.h,Int.natCast_zero,JFw]<;>rfl) ?_ (fun k hk hX=>?_)
 ·trivial
 ·skip
  refine JB.assocS (JB.reg ?_)
  have X:=Fx.mk hsl
  iterate 4 (refine JA.o1 JC ?_)
  refine JA.nil ?_
  refine JB.cndS JC (fun hb8=>?_) (fun hb8=>?_)
  ·skip
   have hlt:k<s.length:=by have:=of_decide_eq_true hb8;omega
   obtain ⟨b,hx⟩:∃b,s[k]? = some b:=⟨_,List.getElem?_eq_getElem hlt⟩
   have hg:=JPr hx
   have hbn:((bch b).toNat:Int)-48=(b.toNat:Int):=by rw [JPh];omega
   have hb1:b.toNat≤1:=by cases b<;>decide
   have hot:=JFx s k
   have hon:JS (s.take (k+1))=JS (s.take k)+b.toNat:=by rw [Zs hx,Y3,JBw]
   have hw8:IntKind.u8.wrap ((b.toNat:Nat):Int)=((b.toNat:Nat):Int):=IntWalk.u8_in _ (by omega)
   refine JB.skipS (JB.blk (JB.reg1 ?_))
   have X:=((X.a hg).a hbn).a hw8
   iterate 4 (refine JA.o1 JC ?_)
   iterate 3 (refine JA.o1 J4 ?_)
   refine JA.o1 JC ?_
   refine JA.nil (JY.nrm (JB.reg1 ?_))
   refine JA.o1 JC ?_
   refine JA.o1 J4 ?_
   refine JA.o1 JC ?_
   refine JA.nil ?_
   refine Jb.nxt ?_ ?_ ?_
   ·omega
   ·exact JO.kp [0,3,4] [] (by simp only [go_sem,X.h]<;>first|((repeat' (first|with_reducible_and_instances rfl|refine Q8 ?_ ?_ ?_|refine Q7 ?_|refine YN ?_|refine Q9 ?_ ?_|refine Q2 ?_|refine Q3 ?_|refine YO ?_|refine Q6 ?_ ?_|refine YK ?_ ?_|refine YM ?_|refine YH ?_|(refine Q4 ?_;omega)));all_goals (first|omega|(rw [hon];omega)))|rfl)
   ·trivial
  ·skip
   have hke:k=s.length:=by have:=of_decide_eq_false hb8;omega
   have htk:s.take k=s:=List.take_of_length_le (by omega)
   have hpt:Ji (JS s%2)=YI [YS s]:=JPA (JS s)
   refine JB.exitS (Jb.ext (JY.hit (JB.reg ?_)))
   have X:=((X.a htk).a htm).a hpt
   refine JA.o1 JC ?_
   refine JA.o1 J4 ?_
   refine JA.c1 (JIX (JS s%2) (by omega)) JC JC ?_
   refine JA.o1 JC ?_
   refine JA.nil ?_
   exact Ends.fin [] (rs:=[.tmp 2]) rfl JC YV
attribute [local irreducible] JW Qb Zy YS
theorem JQj (l:List Pl)(hch:chain 0 l)(hl:l.length≤60)(hx65:∀x∈l,x.num≤65535):Ja Tryz.prog 70 [.leaf (.d (JAK l))] (.str (YI (QX l))) []:=by
 have hca0:=JG5 l 0 hch ⟨by omega,by omega⟩ hx65
 have hw8:=JG1 (YI (Zy l.length)) 48 8 (by rw [JAQ,JEA];have:=JAi (n:=l.length) (k:=8) (by omega) (by omega);omega) (by omega)
 rw [JHj (n:=l.length) (w:=8) (by omega) (by omega)] at hw8
 refine Js Jc Tryz.func70 rfl (by simp only [List.length_cons,List.length_nil,Tryz.ntmps70];omega) JI rfl ?_
 refine JB.reg ?_
 refine JA.o ?_
 refine JA.nil (JB.reg ?_)
 iterate 2 (refine JA.o ?_)
 refine JA.c1 (JGq l.length (by omega)) JD JD ?_
 refine JA.c1 (hw8) JD JD ?_
 refine JA.o ?_
 refine JA.nil (JB.reg ?_)
 refine JA.o ?_
 refine JA.nil (JB.assocS (JB.reg ?_))
 refine JA.o ?_
 refine JA.nil (JB.blk ?_)
 refine JB.forA [0,3,4,5] [] (l.length) (fun k=>[.slot 3 (.str (YI (JW 8 l.length++J8 0 (l.take k)))),.slot 4 (.int (J1 0 (l.take k))),.slot 5 (.int k)]) (fun _=>True) (fun k=>by simp only [go_sem]<;>rfl) (by simp only [go_sem,Int.natCast_zero,List.take_zero,JM1,JHU,List.append_nil]<;>rfl) ?_ (fun k hk hX=>?_)
 ·trivial
 ·skip
  refine JB.assocS (JB.reg ?_)
  iterate 4 (refine JA.o ?_)
  refine JA.nil ?_
  refine JB.cndS JD (fun hb14=>?_) (fun hb14=>?_)
  ·skip
   have hlt:=ZU hb14
   obtain ⟨x,hx⟩:=ZQ hb14
   obtain ⟨hgl,hlp,_,hfx⟩:=hca0 k
   have hf:=hfx x hx
   have hpl:=JNm hf
   obtain ⟨⟨f1,f2⟩,⟨f3,f4⟩,f5,f6⟩:=hf
   have hwc:=JG1 (YI (Zy x.cls.toNat)) 48 3 (by rw [JAQ,JEA];have:=JAi (n:=x.cls.toNat) (k:=3) (by omega) (by omega);omega) (by omega)
   rw [JHj (n:=x.cls.toNat) (w:=3) (by omega) (by omega)] at hwc
   have hwd:=JG1 (YI (Zy x.day.toNat)) 48 18 (by rw [JAQ,JEA];have:=JAi (n:=x.day.toNat) (k:=18) (by omega) (by omega);omega) (by omega)
   rw [JHj (n:=x.day.toNat) (w:=18) (by omega) (by omega)] at hwd
   have hbd:YI (Qb (x.num-(J1 0 (l.take k))).toNat)++YI (JW 3 x.cls.toNat)++YI (JW 18 x.day.toNat)=YI (QJ x (J1 0 (l.take k))):=by unfold QJ;rw [JEB,JEB,List.append_assoc]
   have n8:=Qk 8 l.length
   have L0:=JAQ (JW 8 l.length++J8 0 (l.take k))
   rw [List.length_append,n8] at L0
   have L1:=JAQ (Qb (x.num-(J1 0 (l.take k))).toNat)
   have L1b:=JMp (x.num-(J1 0 (l.take k))).toNat
   have bk:=JAi (n:=(x.num-(J1 0 (l.take k))).toNat) (k:=16) (by omega) (by omega)
   have L2:=JAQ (JW 3 x.cls.toNat)
   rw [Qk] at L2
   have L3:=JAQ (JW 18 x.day.toNat)
   rw [Qk] at L3
   have L4:=JAQ (QJ x (J1 0 (l.take k)))
   have L4b:(QJ x (J1 0 (l.take k))).length=(Qb (x.num-(J1 0 (l.take k))).toNat).length+(3+18):=by unfold QJ;rw [List.length_append,List.length_append,Qk,Qk]
   have L5:=JAQ [YS (QJ x (J1 0 (l.take k)))]
   rw [List.length_singleton] at L5
   have hts:=Zs hx
   have hg:YI (JW 8 l.length++J8 0 (l.take (k+1)))=YI (JW 8 l.length++J8 0 (l.take k))++YI (QJ x (J1 0 (l.take k)))++YI [YS (QJ x (J1 0 (l.take k)))]:=by rw [hts,JFk,←List.append_assoc,JEB,show Qc x (J1 0 (l.take k))=QJ x (J1 0 (l.take k))++[YS (QJ x (J1 0 (l.take k)))] by rw [Qc],JEB (QJ _ _)];simp only [List.append_assoc]
   have hp:J1 0 (l.take (k+1))=x.num:=by rw [hts,JJI]
   refine JB.skipS (JB.blk ?_)
   refine JB.opk 27 ?_
   have X:=(((Fx.mk hx).a hbd).a hg).a hp
   iterate 2 (refine JF.o1 JC ?_)
   refine JF.o1 YE ?_
   iterate 3 (refine JF.o1 JC ?_)
   refine JF.o1 J4 ?_
   refine JF.cal (JQK (x.num-(J1 0 (l.take k))).toNat (by omega) (by omega)) JV JC J6 (Qm) JC JD JD ?_
   iterate 2 (refine JF.o1 JC ?_)
   refine JF.o1 YE ?_
   iterate 2 (refine JF.o1 JC ?_)
   refine JF.cal (JGq x.cls.toNat (by omega)) JV JC J6 (Qm) JC JD JD ?_
   refine JF.cal (hwc) JV JC V24 (Qm) JC JD JD ?_
   refine JF.o1 J4 ?_
   iterate 2 (refine JF.o1 JC ?_)
   refine JF.o1 YE ?_
   iterate 2 (refine JF.o1 JC ?_)
   refine JF.cal (JGq x.day.toNat (by omega)) JV JC J6 (Qm) JC JD JD ?_
   refine JF.cal (hwd) JV JC V24 (Qm) JC JD JD ?_
   refine JF.o1 J4 ?_
   refine JF.o1 JC ?_
   refine JF.nil (Qs.finT JI JI JI ?_)
   refine JB.reg ?_
   iterate 2 (refine JA.o1 JC ?_)
   refine JA.o1 J4 ?_
   refine JA.o1 JC ?_
   refine JA.c1 (JRB (QJ x (J1 0 (l.take k))) (by omega)) JC JC ?_
   refine JA.o1 J4 ?_
   refine JA.o1 JC ?_
   refine JA.nil (JB.reg1 ?_)
   iterate 2 (refine JA.o1 JC ?_)
   refine JA.o1 YE ?_
   iterate 3 (refine JA.o1 JC ?_)
   refine JA.nil (JY.nrm (JB.reg1 ?_))
   refine JA.o1 JC ?_
   refine JA.o1 J4 ?_
   refine JA.o1 JC ?_
   refine JA.nil ?_
   refine Jb.nxt ?_ ?_ ?_
   ·omega
   ·exact JO.kp [0,3,4,5] [] ZI
   ·trivial
  ·skip
   have hke:=ZS hb14
   have htk:l.take k=l:=List.take_of_length_le hke
   have hbb:YI (JW 8 l.length++J8 0 l)=YI (QX l):=rfl
   refine JB.exitS (Jb.ext (JY.hit (JB.reg ?_)))
   have X:=(Fx.mk htk).a hbb
   iterate 2 (refine JA.o1 JC ?_)
   refine JA.nil ?_
   exact Ends.fin [] (rs:=[.tmp 2]) rfl JC YV
end Go.Mw
namespace Go.Mw
open Go.Proofs
open Go.Bk
attribute [local go_sem] decide_true beq_self_eq_true bne_self_eq_false
end Go.Mw

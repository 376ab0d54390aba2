/- How sheets are read line by line; plain laws, no program in sight. -/
import Derived.Test.YtpmdcdglfeicaaaGreatDoorD1
import Derived.Test.YtpmdcdglfeicaaaGreatDoorB6
import Derived.Test.YtpmdcdglfeicaaaGreatDoorB4
import Derived.Test.YtpmdcdglfeicaaaGreatDoorB10
import Derived.Laws.StructEq
import Derived.ChangeKeysEq
import Derived.Test.YtpmdcdglfeicaaaGreatDoorB8
import Derived.WalkKit
import Derived.Defers
import Derived.Recover
import Derived.Test.YtpmdcdglfeicaaaGreatDoorB9
set_option maxRecDepth 20000
set_option maxHeartbeats 16000000
set_option linter.unusedSimpArgs false
set_option linter.unusedVariables false
set_option linter.unusedSectionVars false
set_option linter.deprecated false
namespace Go.Bk
def JAx (f:List Sh→Bs→Option (List Sh))(ls:List Bs)(k:Nat):Option (List Sh):=(ls.take k).foldlM f []
theorem JMJ (f:List Sh→Bs→Option (List Sh))(ls:List Bs):JAx f ls 0=some []:=by simp [JAx]
theorem JMI {f:List Sh→Bs→Option (List Sh)}{ls:List Bs}{k:Nat}{s:Bs}{l:List Sh}(hs:ls[k]? = some s)(h:JAx f ls k=some l):JAx f ls (k+1)=f l s:=by
 unfold JAx at h ⊢
 rw [List.take_add_one,hs,List.foldlM_append,h]
 simp
theorem JRO {f:List Sh→Bs→Option (List Sh)}{ls:List Bs}:JAx f ls ls.length=ls.foldlM f []:=by unfold JAx;rw [List.take_length]
theorem JRQ {f:List Sh→Bs→Option (List Sh)}{ls:List Bs}{k:Nat}(h:JAx f ls k=none):ls.foldlM f []=none:=by
 unfold JAx at h
 rw [←List.take_append_drop k ls,List.foldlM_append,h];rfl
theorem JDc {α:Type}(l:List α):l=[]∨∃l' x,l=l'++[x]:=by
 cases h:l.getLast? with
 |none=>exact .inl (by simpa using h)
 |some x=>
  obtain ⟨l',hl⟩:=List.getLast?_eq_some_iff.1 h
  exact .inr ⟨l',x,hl⟩
def Yu (l:List Sh):List Tr:=match l.getLast? with
 |some x=>x.tries
 |none=>[]
theorem JMe:Yu []=[]:=rfl
theorem JBp (l:List Sh)(x:Sh):Yu (l++[x])=x.tries:=by simp [Yu]
def JBh (n:Nat)(l:List Sh):Prop:=l.length≤n∧∀x∈l,x.tries.length≤n
theorem JLC:JBh 0 []:=⟨by simp,by simp⟩
theorem JLB {n:Nat}{l:List Sh}(h:JBh n l)(m:Int):JBh (n+1) (l++[⟨m,[]⟩]):=by
 refine ⟨by have:=h.1;simp;omega,fun x hx=>?_⟩
 rcases List.mem_append.1 hx with hx|hx
 ·have:=h.2 x hx;omega
 ·have:x=⟨m,[]⟩:=by simpa using hx
  subst this;simp
theorem JLD {n:Nat}{l:List Sh}{x:Sh}(h:JBh n (l++[x]))(t:Tr):JBh (n+1) (l++[⟨x.meter,x.tries++[t]⟩]):=by
 refine ⟨by have:=h.1;simp at this ⊢;omega,fun y hy=>?_⟩
 rcases List.mem_append.1 hy with hy|hy
 ·have:=h.2 y (by simp [hy]);omega
 ·have:y=⟨x.meter,x.tries++[t]⟩:=by simpa using hy
  subst this
  have:=h.2 x (by simp)
  simp;omega
end Go.Bk
namespace Go.Mw
open Go.Proofs
open Go.Bk
attribute [local go_sem] decide_true beq_self_eq_true bne_self_eq_false
def JCN (l:List Sh)(v:Value):List (List D):=match l.getLast? with
 |some x=>l.dropLast.map Zo++[[.i x.meter,.raw v]]
 |none=>[]
theorem JHk (v:Value):JCN [] v=[]:=rfl
theorem JBv (l:List Sh)(x:Sh)(v:Value):JCN (l++[x]) v=l.map Zo++[[.i x.meter,.raw v]]:=by simp [JCN]
theorem JFz (l:List Sh)(x:Sh):l.map Zo++[[D.i x.meter,JGD x.tries]]=(l++[x]).map Zo:=by simp [Zo]
theorem JNf (l:List Sh)(d:List D):(l.map Zo++[d])[l.length]? = some d:=by simp
theorem JCO (l:List Sh)(d d':List D):(l.map Zo++[d]).set l.length d'=l.map Zo++[d']:=by
 rw [List.set_append_right _ _ (by simp)];simp
theorem JNe (l:List Sh)(v:Value):(JCN l v).length=l.length:=by
 rcases JDc l with rfl|⟨l',x,rfl⟩
 ·rfl
 ·rw [JBv];simp
theorem JEe (l:List Sh)(d:List D):(l.map Zo++[d]).length=l.length+1:=by simp
def rsE (r:Option (List Sh)):AV:=match r with
 |some l=>.tup [(false,[.d (Z7 l)]),(false,[.d (.i 0)])]
 |none=>.tup [(false,[.d (Z7 [])]),(false,[.d (.i 8)])]
theorem JOP (l:List Sh)(x:Sh):List.take (l.length+1) (l.map Zo++[[D.i x.meter,JGD x.tries]])=(l++[x]).map Zo:=by
 rw [JFz,List.take_of_length_le (by simp)]
end Go.Mw
namespace Go.Mw
open Go.RowKit
section eq
variable {P:Program} {A:JE} {d:Nat} {x y:Operand} {ty:TypeId} {pos:String} {af:Array Edge} {g:Option (Nat × Bool)} {t e tz:TypeId}
theorem JKy {S:Je}{ι:Nat→Value}{H:Nat→Option AO}{w:World}{a b c:List UInt8}{v:Value}(h:Jm S ι H w (.val true [.d (.raw (.string (bs a))),.d (.raw (.string (bs b))),.d (.raw (.string (bs c)))]) v) :
  v=.agg #[.string (bs a),.string (bs b),.string (bs c)]:=by
 obtain ⟨vs,rfl,h⟩:=h
 have hl:=h.length
 obtain ⟨v0,e0,h0⟩:=h.get' (i:=0) rfl
 obtain ⟨v1,e1,h1⟩:=h.get' (i:=1) rfl
 obtain ⟨v2,e2,h2⟩:=h.get' (i:=2) rfl
 rw [Qi h0] at e0
 rw [Qi h1] at e1
 rw [Qi h2] at e2
 match vs,hl,e0,e1,e2 with
 |[x0,x1,x2],_,e0,e1,e2=>
  simp at e0 e1 e2
  rw [e0,e1,e2]
theorem JRI {a:Act}{w:World}{xs ys:Array Value}{b:Bool}(ex:a.eval x=.agg xs)(ey:a.eval y=.agg ys)(hg:P.eqGuardType P.depth t=false)(h:(Op.equalIn 10000 t (.agg xs) (.agg ys)).run P w=.ok b w) :
  (execOp a.eval ⟨some d,.binOp .eql t x y tz,ty,pos,af,g⟩).run P w=.ok (.value (.bool b)) w:=by
 simp [execOp,ex,ey,run_eqGuard_agg w _ _ _ _ _ _ hg,run_eql_struct,h]
theorem JNs (hu:P.underlying t=some (.array 3 e))(he:P.underlying e=some .string){i:TypeInfo}(hi:P.info? e=some i)(hc:P.cellsOf e=1)(hg:P.eqGuardType P.depth t=false){a b c a' b' c':List UInt8}
  (hx:A.ev x=.val true [.d (.raw (.string (bs a))),.d (.raw (.string (bs b))),.d (.raw (.string (bs c)))])
  (hy:A.ev y=.val true [.d (.raw (.string (bs a'))),.d (.raw (.string (bs b'))),.d (.raw (.string (bs c')))]) :
  JBU P ⟨some d,.binOp .eql t x y tz,ty,pos,af,g⟩ A (.bool (a==a'&&(b==b'&&c==c'))):=by
 intro C S M ι act w hR
 have hvx:=QM hR x
 have hvy:=QM hR y
 rw [hx] at hvx
 rw [hy] at hvy
 have ex:=JKy hvx
 have ey:=JKy hvy
 have hag:J3 P e=some false:=by simp [J3,he]
 have heq:∀n w,(Op.equalIn (n+2) t (.agg #[.string (bs a),.string (bs b),.string (bs c)]) (.agg #[.string (bs a'),.string (bs b'),.string (bs c')])).run P w=.ok (a==a'&&(b==b'&&c==c')) w:=fun n w=>by
  have p (cs:Array Value) (i:Nat) (v:Value) (h:cs[i]? = some v):=JJz (P:=P) (w:=w) hag h
  have q (u v:List UInt8):=run_equalIn_string (P:=P) w n e (bs u) (bs v) he
  simp only [JLF] at q
  rw [run_equalIn_array w (n+1) _ _ hu hi,hc,show List.range 3=[0,1,2] from rfl]
  have p0:=p #[.string (bs a),.string (bs b),.string (bs c)] 0 (.string (bs a)) rfl
  have r0:=p #[.string (bs a'),.string (bs b'),.string (bs c')] 0 (.string (bs a')) rfl
  have p1:=p #[.string (bs a),.string (bs b),.string (bs c)] 1 (.string (bs b)) rfl
  have r1:=p #[.string (bs a'),.string (bs b'),.string (bs c')] 1 (.string (bs b')) rfl
  have p2:=p #[.string (bs a),.string (bs b),.string (bs c)] 2 (.string (bs c)) rfl
  have r2:=p #[.string (bs a'),.string (bs b'),.string (bs c')] 2 (.string (bs c')) rfl
  simp only [Bool.not_true,Bool.false_eq_true,if_false,Op.eqItems,Sem.run_bind,Nat.mul_one,p0,p1,p2,r0,r1,r2,Result.andThen_ok,q]
  cases (a==a')
  ·rfl
  simp only [Bool.not_true,Bool.false_eq_true,if_false,Op.eqItems,Sem.run_bind,Nat.mul_one,p0,p1,p2,r0,r1,r2,Result.andThen_ok,q]
  cases (b==b')
  ·rfl
  simp only [Bool.not_true,Bool.false_eq_true,if_false,Op.eqItems,Sem.run_bind,Nat.mul_one,p0,p1,p2,r0,r1,r2,Result.andThen_ok,q]
  cases (c==c')<;>rfl
 refine ⟨.bool (a==a'&&(b==b'&&c==c')),?_,⟨_,rfl,RepD.raw _ rfl⟩⟩
 exact JRI ex ey hg (heq 9998 w)
end eq
end Go.Mw
namespace Go.Mw
open Go.Proofs
open Go.Bk
attribute [local go_sem] decide_true beq_self_eq_true bne_self_eq_false
theorem JAw (s:Bs)(c:UInt8)(hc:c.toNat<128):Jb Tryz.prog 136 [.str s,.str [c]] (.str (dw c s)) []:=JPs s c hc
theorem JCA (c:UInt8)(s:Bs):(dw c s).length≤s.length:=by
 unfold dw Lib.trimLeftB
 exact (List.dropWhile_sublist _).length_le
abbrev vp (s:Bs):Nat:=JZ (dw 32 s)
theorem JSg (h:Bs)(hl:h.length≤1000000000)(h7:h.length≠7):QT Tryz.prog Jf 92 [.str h] []:=by
 have d7:((h.length:Int)==7)=false:=beq_eq_false_iff_ne.2 (by omega)
 refine Q4 Jd Tryz.func92 rfl JGT JH rfl ?_
 refine JB.reg ?_
 have X:=Fx.mk d7
 refine JA.o1 JC ?_
 refine JA.nil ?_
 refine JB.pan (pv:=Jf) 3 rfl ?_
 iterate 3 (refine JA.o1 JC ?_)
 exact JA.panc (Yg false rfl) JW JC J6 rfl
theorem JSh (h:Bs)(h7:h.length=7)(hf:QF (dw 48 (h.drop 1))=false):QT Tryz.prog Jf 92 [.str h] []:=by
 have d7:((h.length:Int)==7)=true:=by rw [h7];rfl
 have hdl:(h.drop 1).length=6:=by rw [List.length_drop];omega
 have hwl:=JCA 48 (h.drop 1)
 refine Q4 Jd Tryz.func92 rfl JGT JH rfl ?_
 refine JB.reg ?_
 have X:=Fx.mk d7
 refine JA.o1 Qu ?_
 refine JA.nil (JB.reg ?_)
 iterate 3 (refine JA.o1 Qu ?_)
 refine JA.c1 (Qr true rfl) Qu Qu ?_
 refine JA.nil ?_
 refine JB.pan (pv:=Jf) 3 rfl ?_
 refine JA.o1 Qu ?_
 refine JA.o1 V81 ?_
 refine JA.c1 (JAw (h.drop 1) 48 (by decide)) Qu Qu ?_
 exact JA.panc (JCI hf (by omega)) JW Qu J6 rfl
theorem JSi (h:Bs)(h7:h.length=7)(hf:QF (dw 48 (h.drop 1))=true)(hp:pad 48 6 (Jl (JZ (dw 48 (h.drop 1))))≠h.drop 1):QT Tryz.prog Jf 92 [.str h] []:=by
 have d7:((h.length:Int)==7)=true:=by rw [h7];rfl
 have hdl:(h.drop 1).length=6:=by rw [List.length_drop];omega
 have hwl:=JCA 48 (h.drop 1)
 have hfb:=(Z4 hf)
 have dp:=JBF hp
 refine Q4 Jd Tryz.func92 rfl JGT JH rfl ?_
 refine JB.reg ?_
 have X:=(Fx.mk d7).a dp
 refine JA.o1 Qu ?_
 refine JA.nil (JB.reg ?_)
 iterate 3 (refine JA.o1 Qu ?_)
 refine JA.c1 (Qr true rfl) Qu Qu ?_
 refine JA.nil (JB.reg ?_)
 refine JA.o1 Qu ?_
 refine JA.o1 V81 ?_
 refine JA.c1 (JAw (h.drop 1) 48 (by decide)) Qu Qu ?_
 refine JA.c1 (ZU (dw 48 (h.drop 1)) hf) Qu Qu ?_
 refine JA.o1 Qu ?_
 refine JA.nil ?_
 refine JB.opp (pv:=Jf) 8 5 [0,1,2,3,4] rfl J4 ?_
 refine JF.o1 Qu ?_
 refine JF.cal (JIY (JZ (dw 48 (h.drop 1))) 6 48 (by omega) (by omega)) JW Qu Zb (QZ) Qu JD JD ?_
 refine JF.o1 Qu ?_
 refine JF.o1 V81 ?_
 refine JF.o1 Qu ?_
 exact JF.pang [] 0 (Yg false rfl) JW JD JD V87 (fun q x h=>by simp [look] at h) (fun q q' n h=>by simp [look] at h) J4 J4 rfl
theorem JQO (h:Bs)(h7:h.length=7)(hf:QF (dw 48 (h.drop 1))=true)(hp:pad 48 6 (Jl (JZ (dw 48 (h.drop 1))))=h.drop 1):Jb Tryz.prog 92 [.str h] (.int (JZ (dw 48 (h.drop 1)))) []:=by
 have d7:((h.length:Int)==7)=true:=by rw [h7];rfl
 have hdl:(h.drop 1).length=6:=by rw [List.length_drop];omega
 have hwl:=JCA 48 (h.drop 1)
 have hfb:=(Z4 hf)
 have dp:(pad 48 6 (Jl (JZ (dw 48 (h.drop 1))))==h.drop 1)=true:=beq_iff_eq.2 hp
 refine Jq Jd Tryz.func92 rfl JGT JH rfl ?_
 refine JB.reg ?_
 have X:=(Fx.mk d7).a dp
 refine JA.o1 Qu ?_
 refine JA.nil (JB.reg ?_)
 iterate 3 (refine JA.o1 Qu ?_)
 refine JA.c1 (Qr true rfl) Qu Qu ?_
 refine JA.nil (JB.reg ?_)
 refine JA.o1 Qu ?_
 refine JA.o1 V81 ?_
 refine JA.c1 (JAw (h.drop 1) 48 (by decide)) Qu Qu ?_
 refine JA.c1 (ZU (dw 48 (h.drop 1)) hf) Qu Qu ?_
 refine JA.o1 Qu ?_
 refine JA.nil ?_
 refine JB.opk 8 ?_
 refine JF.o1 Qu ?_
 refine JF.cal (JIY (JZ (dw 48 (h.drop 1))) 6 48 (by omega) (by omega)) JW Qu Zb (QZ) Qu JD JD ?_
 refine JF.o1 Qu ?_
 refine JF.o1 V81 ?_
 refine JF.o1 Qu ?_
 refine JF.cal (Qr true rfl) JW Qu J6 (QZ) Qu JD JD ?_
 refine JF.nil (QW.fin J4 J4 ?_)
 refine JB.reg ?_
 iterate 2 (refine JA.o1 Qu ?_)
 refine JA.nil ?_
 exact Ends.fin [] (rs:=[.tmp 2]) rfl Qu (by simp only [go_sem,X.h,Int.toNat_one]<;>first|rfl|exact QV)
theorem JGs {h:Bs}{m:Int}(hm:JA1 h=some m):Jb Tryz.prog 92 [.str h] (.int m) []:=by
 unfold JA1 at hm
 split at hm
 ·next hc=>
  simp only [Option.some.injEq] at hm
  subst hm
  exact JQO h hc.1 hc.2.1 hc.2.2
 ·cases hm
theorem JSf {h:Bs}(hl:h.length≤1000000000)(hm:JA1 h=none):QT Tryz.prog Jf 92 [.str h] []:=by
 by_cases h7:h.length=7
 ·cases hf:QF (dw 48 (h.drop 1)) with
  |false=>exact JSh h h7 hf
  |true=>
   refine JSi h h7 hf fun hp=>?_
   unfold JA1 at hm
   rw [if_pos ⟨h7,hf,hp⟩] at hm
   cases hm
 ·exact JSg h hl h7
end Go.Mw
namespace Go.Mw
open Go.Proofs
open Go.Bk
attribute [local go_sem] decide_true beq_self_eq_true bne_self_eq_false
theorem JLp (s:Bs):(s.take 14).drop 7=(s.drop 7).take 7:=by rw [List.drop_take]
theorem JLq (s:Bs):(s.take 22).drop 15=(s.drop 15).take 7:=by rw [List.drop_take]
def rv (b:Bool)(x:Bs):AL:=.d (.i ((bif b then vp x else 0:Nat):Int))
def JEI (k:Nat):Int:=if k=0 then 0 else if k=1 then 7 else if k=2 then 15 else 23
@[go_sem] theorem JXq (b:Bool)(x:Bs)(os:List Nat):AL.keep os (rv b x)=rv b x:=rfl
theorem JDO:JEI 0=0:=rfl
theorem JDP:JEI 1=7:=rfl
theorem JDQ:JEI 2=15:=rfl
theorem JDR:JEI 3=23:=rfl
abbrev trP (a b c:Bs):Tr:=⟨vp a,vp b,vp c⟩
theorem JOU {a b c:Bs}(fa:QF (dw 32 a)=true)(fb:QF (dw 32 b)=true)(fc:QF (dw 32 c)=true):pos (trP a b c):=by
 have:=Z4 fa
 have:=Z4 fb
 have:=Z4 fc
 unfold pos trP vp;simp only;omega
theorem JSw (h:Bs)(hl:h.length≤1000000000)(h22:h.length≠22):QT Tryz.prog Jf 93 [.str h] []:=by
 have d22:((h.length:Int)==22)=false:=beq_eq_false_iff_ne.2 (by omega)
 refine Q4 Jd Tryz.func93 rfl JEt JH rfl ?_
 refine JB.reg ?_
 have X:=Fx.mk d22
 refine JA.o1 JC ?_
 refine JA.nil (JB.reg ?_)
 refine JA.o1 JC ?_
 refine JA.nil (JB.reg ?_)
 refine JA.o1 JC ?_
 refine JA.nil ?_
 refine JB.pan (pv:=Jf) 13 rfl ?_
 iterate 4 (refine JA.o1 JC ?_)
 iterate 3 (refine JA.s ?_)
 iterate 2 (refine JA.o1 JC ?_)
 iterate 3 (refine JA.s ?_)
 refine JA.o1 JC ?_
 exact JA.panc (Yg false rfl) JW JC J6 rfl
theorem JSx (h:Bs)(x:UInt8)(h22:h.length=22)(h6:h[6]? = some x)(hx:x≠32):QT Tryz.prog Jf 93 [.str h] []:=by
 have d22:((h.length:Int)==22)=true:=by rw [h22];rfl
 have d6:((x.toNat:Int)==32)=false:=beq_eq_false_iff_ne.2 (fun e=>hx (UInt8.toNat_inj.1 (by have:(32:UInt8).toNat=32:=rfl;omega)))
 have n6:Int.toNat 6=6:=rfl
 have n7:Int.toNat 7=7:=rfl
 have n14:Int.toNat 14=14:=rfl
 have n15:Int.toNat 15=15:=rfl
 have n22:Int.toNat 22=22:=rfl
 have w1:IntKind.i64.wrap 1=1:=rfl
 have w2:IntKind.i64.wrap 2=2:=rfl
 have w3:IntKind.i64.wrap 3=3:=rfl
 have w6:IntKind.i64.wrap 6=6:=rfl
 have w7:IntKind.i64.wrap 7=7:=rfl
 have w8:IntKind.i64.wrap 8=8:=rfl
 have w14:IntKind.i64.wrap 14=14:=rfl
 have w15:IntKind.i64.wrap 15=15:=rfl
 have w22:IntKind.i64.wrap 22=22:=rfl
 have w23:IntKind.i64.wrap 23=23:=rfl
 refine Q4 Jd Tryz.func93 rfl JEt JH rfl ?_
 refine JB.reg ?_
 have X:=(((((((((((((((((Fx.mk d22).a d6).a h6).a n6).a n7).a n14).a n15).a n22).a w1).a w2).a w3).a w6).a w7).a w8).a w14).a w15).a w22).a w23
 refine JA.o1 Zz ?_
 refine JA.nil (JB.reg ?_)
 refine JA.o1 Zz ?_
 refine JA.nil (JB.reg ?_)
 refine JA.o1 Zz ?_
 refine JA.nil ?_
 refine JB.pan (pv:=Jf) 13 rfl ?_
 iterate 4 (refine JA.o1 Zz ?_)
 iterate 3 (refine JA.y1 Zz ?_)
 iterate 2 (refine JA.o1 Zz ?_)
 iterate 3 (refine JA.s ?_)
 refine JA.o1 Zz ?_
 exact JA.panc (Yg false rfl) JW Zz J6 rfl
theorem JSy (h:Bs)(x:UInt8)(h22:h.length=22)(h6:h[6]? = some 32)(h14:h[14]? = some x)(hx:x≠32):QT Tryz.prog Jf 93 [.str h] []:=by
 have d22:((h.length:Int)==22)=true:=by rw [h22];rfl
 have d32:(((32:UInt8).toNat:Int)==32)=true:=rfl
 have d6:((x.toNat:Int)==32)=false:=beq_eq_false_iff_ne.2 (fun e=>hx (UInt8.toNat_inj.1 (by have:(32:UInt8).toNat=32:=rfl;omega)))
 have n6:Int.toNat 6=6:=rfl
 have n7:Int.toNat 7=7:=rfl
 have n14:Int.toNat 14=14:=rfl
 have n15:Int.toNat 15=15:=rfl
 have n22:Int.toNat 22=22:=rfl
 have w1:IntKind.i64.wrap 1=1:=rfl
 have w2:IntKind.i64.wrap 2=2:=rfl
 have w3:IntKind.i64.wrap 3=3:=rfl
 have w6:IntKind.i64.wrap 6=6:=rfl
 have w7:IntKind.i64.wrap 7=7:=rfl
 have w8:IntKind.i64.wrap 8=8:=rfl
 have w14:IntKind.i64.wrap 14=14:=rfl
 have w15:IntKind.i64.wrap 15=15:=rfl
 have w22:IntKind.i64.wrap 22=22:=rfl
 have w23:IntKind.i64.wrap 23=23:=rfl
 refine Q4 Jd Tryz.func93 rfl JEt JH rfl ?_
 refine JB.reg ?_
 have X:=(((((((((((((((((((Fx.mk d22).a d32).a d6).a h6).a h14).a n6).a n7).a n14).a n15).a n22).a w1).a w2).a w3).a w6).a w7).a w8).a w14).a w15).a w22).a w23
 refine JA.o1 Zz ?_
 refine JA.nil (JB.reg ?_)
 refine JA.o1 Zz ?_
 refine JA.nil (JB.reg ?_)
 refine JA.o1 Zz ?_
 refine JA.nil ?_
 refine JB.pan (pv:=Jf) 13 rfl ?_
 iterate 4 (refine JA.o1 Zz ?_)
 iterate 3 (refine JA.y1 Zz ?_)
 iterate 2 (refine JA.o1 Zz ?_)
 iterate 3 (refine JA.y1 Zz ?_)
 refine JA.o1 Zz ?_
 exact JA.panc (Yg false rfl) JW Zz J6 rfl
theorem JSz (h a b c:Bs)(h22:h.length=22)(h6:h[6]? = some 32)(h14:h[14]? = some 32)(ea:h.take 6=a)(eb:(h.take 14).drop 7=b)(ec:(h.take 22).drop 15=c)(hbad:¬(QF (dw 32 a)=true∧QF (dw 32 b)=true∧QF (dw 32 c)=true∧(pad 32 6 (Jl (vp a))==a&&(pad 32 7 (Jl (vp b))==b&&pad 32 7 (Jl (vp c))==c))=true)):QT Tryz.prog Jf 93 [.str h] []:=by
 have d22:((h.length:Int)==22)=true:=by rw [h22];rfl
 have d32:(((32:UInt8).toNat:Int)==32)=true:=rfl
 have la:a.length=6:=by rw [←ea,List.length_take];omega
 have lb:b.length=7:=by rw [←eb,List.length_drop,List.length_take];omega
 have lc:c.length=7:=by rw [←ec,List.length_drop,List.length_take];omega
 have wa:=JCA 32 a
 have wb:=JCA 32 b
 have wc:=JCA 32 c
 have n6:Int.toNat 6=6:=rfl
 have n7:Int.toNat 7=7:=rfl
 have n14:Int.toNat 14=14:=rfl
 have n15:Int.toNat 15=15:=rfl
 have n22:Int.toNat 22=22:=rfl
 have w1:IntKind.i64.wrap 1=1:=rfl
 have w2:IntKind.i64.wrap 2=2:=rfl
 have w3:IntKind.i64.wrap 3=3:=rfl
 have w6:IntKind.i64.wrap 6=6:=rfl
 have w7:IntKind.i64.wrap 7=7:=rfl
 have w8:IntKind.i64.wrap 8=8:=rfl
 have w14:IntKind.i64.wrap 14=14:=rfl
 have w15:IntKind.i64.wrap 15=15:=rfl
 have w22:IntKind.i64.wrap 22=22:=rfl
 have w23:IntKind.i64.wrap 23=23:=rfl
 have f00:Nat.blt 0 0=false:=rfl
 have f01:Nat.blt 0 1=true:=rfl
 have f02:Nat.blt 0 2=true:=rfl
 have f03:Nat.blt 0 3=true:=rfl
 have f10:Nat.blt 1 0=false:=rfl
 have f11:Nat.blt 1 1=false:=rfl
 have f12:Nat.blt 1 2=true:=rfl
 have f13:Nat.blt 1 3=true:=rfl
 have f20:Nat.blt 2 0=false:=rfl
 have f21:Nat.blt 2 1=false:=rfl
 have f22:Nat.blt 2 2=false:=rfl
 have f23:Nat.blt 2 3=true:=rfl
 refine Q4 Jd Tryz.func93 rfl JEt JH rfl ?_
 refine JB.reg ?_
 have X:=(((((((((((((((((((((((((((((((((Fx.mk f00).a f01).a f02).a f03).a f10).a f11).a f12).a f13).a f20).a f21).a f22).a f23).a d22).a d32).a h6).a h14).a ea).a eb).a ec).a n6).a n7).a n14).a n15).a n22).a w1).a w2).a w3).a w6).a w7).a w8).a w14).a w15).a w22).a w23
 refine JA.o1 Ja ?_
 refine JA.nil (JB.reg ?_)
 refine JA.o1 Ja ?_
 refine JA.nil (JB.reg ?_)
 refine JA.o1 Ja ?_
 refine JA.nil (JB.reg ?_)
 iterate 4 (refine JA.o1 Ja ?_)
 iterate 3 (refine JA.y1 Ja ?_)
 iterate 2 (refine JA.o1 Ja ?_)
 iterate 3 (refine JA.y1 Ja ?_)
 refine JA.o1 Ja ?_
 refine JA.c1 (Qr true rfl) Ja Ja ?_
 refine JA.nil (JB.reg ?_)
 refine JA.o1 Ja ?_
 refine JA.nil (JB.assocS (JB.reg ?_))
 refine JA.c1 (JE5) Ja Ja ?_
 refine JA.o1 Ja ?_
 refine JA.nil (JB.blk ?_)
 refine JB.forA [0,2,3,4,5,23,24] [2,3,4] (3) (fun k=>[.slot 24 (.int k),.slot 5 (.int (JEI k)),.obj 3 (.cells [rk (Nat.blt 0 k) a,rk (Nat.blt 1 k) b,rk (Nat.blt 2 k) c]),.obj 4 (.cells [rv (Nat.blt 0 k) a,rv (Nat.blt 1 k) b,rv (Nat.blt 2 k) c])]) (fun k=>(0<k→QF (dw 32 a)=true)∧(1<k→QF (dw 32 b)=true)∧(2<k→QF (dw 32 c)=true)) (fun k=>by simp only [go_sem]<;>rfl) V63 ?_ (fun k hk hX=>?_)
 ·exact ⟨fun h=>absurd h (by decide),fun h=>absurd h (by decide),fun h=>absurd h (by decide)⟩
 ·skip
  by_cases h0:k=0
  ·skip
   subst h0
   have cz:((0:Nat):Int)=0:=rfl
   have ca:((0+1:Nat):Int)=1:=rfl
   refine JB.reg ?_
   have X:=(X.a cz).a ca
   refine JA.o1 Ja ?_
   refine JA.nil ?_
   refine JB.cndS Ja (fun hb25=>?_) (fun hb25=>?_)
   ·skip
    refine JB.skipS (JB.blk (JB.reg ?_))
    iterate 4 (refine JA.o1 Ja ?_)
    refine JA.nil (JB.reg ?_)
    iterate 5 (refine JA.o1 Ja ?_)
    refine JA.o1 Zm ?_
    iterate 2 (refine JA.o1 Yo ?_)
    refine JA.o1 Ja ?_
    refine JA.nil ?_
    by_cases ff:QF (dw 32 a)=true
    ·skip
     have hff:=Z4 ff
     refine JB.reg ?_
     iterate 2 (refine JA.o1 Ja ?_)
     refine JA.o1 Yo ?_
     refine JA.o1 Ja ?_
     refine JA.c1 (JAw a 32 (by decide)) Ja Ja ?_
     refine JA.c1 (ZU (dw 32 a) ff) Ja Ja ?_
     refine JA.o1 Yo ?_
     refine JA.o1 Ja ?_
     refine JA.nil (JB.reg1 ?_)
     iterate 2 (refine JA.o1 Ja ?_)
     iterate 2 (refine JA.o1 Zm ?_)
     refine JA.o1 Ja ?_
     refine JA.nil (JP.nrm (JB.reg1 ?_))
     refine JA.o1 Zm ?_
     refine JA.o1 Ja ?_
     refine JA.nil ?_
     refine JV.nxt ?_ ?_ ?_
     ·omega
     ·exact JO.kp [0,2,3,4,5,23,24] [2,3,4] V11
     ·refine ⟨fun hh=>?_,fun hh=>?_,fun hh=>?_⟩<;>first|exact ff|(exfalso;omega)|exact hX.1 (by omega)|exact hX.2.1 (by omega)
    ·skip
     have ff2:QF (dw 32 a)=false:=by simpa using ff
     refine JB.pan (pv:=Jf) 5 rfl ?_
     iterate 2 (refine JA.o1 Ja ?_)
     refine JA.o1 Yo ?_
     refine JA.o1 Ja ?_
     refine JA.c1 (JAw a 32 (by decide)) Ja Ja ?_
     exact JA.panc (JCI ff2 (by omega)) JW Ja J6 rfl
   ·exact absurd hb25 (by simp)
  ·skip
   by_cases h1:k=1
   ·skip
    subst h1
    have cz:((1:Nat):Int)=1:=rfl
    have ca:((1+1:Nat):Int)=2:=rfl
    refine JB.reg ?_
    have X:=(X.a cz).a ca
    refine JA.o1 Ja ?_
    refine JA.nil ?_
    refine JB.cndS Ja (fun hb25=>?_) (fun hb25=>?_)
    ·skip
     refine JB.skipS (JB.blk (JB.reg ?_))
     iterate 4 (refine JA.o1 Ja ?_)
     refine JA.nil (JB.reg ?_)
     iterate 5 (refine JA.o1 Ja ?_)
     refine JA.o1 Zm ?_
     iterate 2 (refine JA.o1 Yo ?_)
     refine JA.o1 Ja ?_
     refine JA.nil ?_
     by_cases ff:QF (dw 32 b)=true
     ·skip
      have hff:=Z4 ff
      refine JB.reg ?_
      iterate 2 (refine JA.o1 Ja ?_)
      refine JA.o1 Yo ?_
      refine JA.o1 Ja ?_
      refine JA.c1 (JAw b 32 (by decide)) Ja Ja ?_
      refine JA.c1 (ZU (dw 32 b) ff) Ja Ja ?_
      refine JA.o1 Yo ?_
      refine JA.o1 Ja ?_
      refine JA.nil (JB.reg1 ?_)
      iterate 2 (refine JA.o1 Ja ?_)
      iterate 2 (refine JA.o1 Zm ?_)
      refine JA.o1 Ja ?_
      refine JA.nil (JP.nrm (JB.reg1 ?_))
      refine JA.o1 Zm ?_
      refine JA.o1 Ja ?_
      refine JA.nil ?_
      refine JV.nxt ?_ ?_ ?_
      ·omega
      ·exact JO.kp [0,2,3,4,5,23,24] [2,3,4] V11
      ·refine ⟨fun hh=>?_,fun hh=>?_,fun hh=>?_⟩<;>first|exact ff|(exfalso;omega)|exact hX.1 (by omega)|exact hX.2.1 (by omega)
     ·skip
      have ff2:QF (dw 32 b)=false:=by simpa using ff
      refine JB.pan (pv:=Jf) 5 rfl ?_
      iterate 2 (refine JA.o1 Ja ?_)
      refine JA.o1 Yo ?_
      refine JA.o1 Ja ?_
      refine JA.c1 (JAw b 32 (by decide)) Ja Ja ?_
      exact JA.panc (JCI ff2 (by omega)) JW Ja J6 rfl
    ·exact absurd hb25 (by simp)
   ·skip
    by_cases h2:k=2
    ·skip
     subst h2
     have cz:((2:Nat):Int)=2:=rfl
     have ca:((2+1:Nat):Int)=3:=rfl
     refine JB.reg ?_
     have X:=(X.a cz).a ca
     refine JA.o1 Ja ?_
     refine JA.nil ?_
     refine JB.cndS Ja (fun hb25=>?_) (fun hb25=>?_)
     ·skip
      refine JB.skipS (JB.blk (JB.reg ?_))
      iterate 4 (refine JA.o1 Ja ?_)
      refine JA.nil (JB.reg ?_)
      iterate 5 (refine JA.o1 Ja ?_)
      refine JA.o1 Zm ?_
      iterate 2 (refine JA.o1 Yo ?_)
      refine JA.o1 Ja ?_
      refine JA.nil ?_
      by_cases ff:QF (dw 32 c)=true
      ·skip
       have hff:=Z4 ff
       refine JB.reg ?_
       iterate 2 (refine JA.o1 Ja ?_)
       refine JA.o1 Yo ?_
       refine JA.o1 Ja ?_
       refine JA.c1 (JAw c 32 (by decide)) Ja Ja ?_
       refine JA.c1 (ZU (dw 32 c) ff) Ja Ja ?_
       refine JA.o1 Yo ?_
       refine JA.o1 Ja ?_
       refine JA.nil (JB.reg1 ?_)
       iterate 2 (refine JA.o1 Ja ?_)
       iterate 2 (refine JA.o1 Zm ?_)
       refine JA.o1 Ja ?_
       refine JA.nil (JP.nrm (JB.reg1 ?_))
       refine JA.o1 Zm ?_
       refine JA.o1 Ja ?_
       refine JA.nil ?_
       refine JV.nxt ?_ ?_ ?_
       ·omega
       ·exact JO.kp [0,2,3,4,5,23,24] [2,3,4] V11
       ·refine ⟨fun hh=>?_,fun hh=>?_,fun hh=>?_⟩<;>first|exact ff|(exfalso;omega)|exact hX.1 (by omega)|exact hX.2.1 (by omega)
      ·skip
       have ff2:QF (dw 32 c)=false:=by simpa using ff
       refine JB.pan (pv:=Jf) 5 rfl ?_
       iterate 2 (refine JA.o1 Ja ?_)
       refine JA.o1 Yo ?_
       refine JA.o1 Ja ?_
       refine JA.c1 (JAw c 32 (by decide)) Ja Ja ?_
       exact JA.panc (JCI ff2 (by omega)) JW Ja J6 rfl
     ·exact absurd hb25 (by simp)
    ·skip
     have h3:k=3:=by omega
     subst h3
     have cz:((3:Nat):Int)=3:=rfl
     have fa:=hX.1 (by omega)
     have fb:=hX.2.1 (by omega)
     have fc:=hX.2.2 (by omega)
     have hn:(pad 32 6 (Jl (vp a))==a&&(pad 32 7 (Jl (vp b))==b&&pad 32 7 (Jl (vp c))==c))=false:=Bool.eq_false_iff.2 fun e=>hbad ⟨fa,fb,fc,e⟩
     refine JB.reg ?_
     have X:=(X.a cz).a hn
     refine JA.o1 Ja ?_
     refine JA.nil ?_
     refine JB.cndS Ja (fun hb25=>?_) (fun hb25=>?_)
     ·exact absurd hb25 (by simp)
     ·skip
      refine JB.exitS (JV.ext (JP.hit (JB.reg ?_)))
      refine JA.o1 Yo ?_
      refine JA.o1 Ja ?_
      refine JA.o1 Yo ?_
      refine JA.o1 Ja ?_
      refine JA.o1 Yo ?_
      iterate 4 (refine JA.o1 Ja ?_)
      refine JA.nil ?_
      refine JB.opp (pv:=Jf) 7 4 [0,1,2,3] rfl J4 ?_
      refine JF.o1 Ja ?_
      refine JF.cal (JIX (trP a b c) (JOU fa fb fc)) JW Ja J6 (QZ) Ja JD JD ?_
      refine JF.o1 Ja ?_
      refine JF.val [.slot 56,.slot 57] (fun A' hA=>JNs (a:=pad 32 6 (Jl (vp a))) (b:=pad 32 7 (Jl (vp b))) (c:=pad 32 7 (Jl (vp c))) (a':=a) (b':=b) (c':=c) Tryz.underlying148 Tryz.underlying9 (i:=_) rfl JH JH V89 V90) JD JD JD ?_
      have X:=Fx.mk hn
      exact JF.pang [] 0 (Yg false rfl) JW JD JC V87 (fun q x h=>by simp [look] at h) (fun q q' n h=>by simp [look] at h) J4 J4 rfl
theorem JQg (h a b c:Bs)(h22:h.length=22)(h6:h[6]? = some 32)(h14:h[14]? = some 32)(ea:h.take 6=a)(eb:(h.take 14).drop 7=b)(ec:(h.take 22).drop 15=c)(fa:QF (dw 32 a)=true)(fb:QF (dw 32 b)=true)(fc:QF (dw 32 c)=true)(hn:(pad 32 6 (Jl (vp a))==a&&(pad 32 7 (Jl (vp b))==b&&pad 32 7 (Jl (vp c))==c))=true):Jb Tryz.prog 93 [.str h] (trV (trP a b c)) []:=by
 have hfa:=Z4 fa
 have hfb:=Z4 fb
 have hfc:=Z4 fc
 have d22:((h.length:Int)==22)=true:=by rw [h22];rfl
 have d32:(((32:UInt8).toNat:Int)==32)=true:=rfl
 have la:a.length=6:=by rw [←ea,List.length_take];omega
 have lb:b.length=7:=by rw [←eb,List.length_drop,List.length_take];omega
 have lc:c.length=7:=by rw [←ec,List.length_drop,List.length_take];omega
 have wa:=JCA 32 a
 have wb:=JCA 32 b
 have wc:=JCA 32 c
 have n6:Int.toNat 6=6:=rfl
 have n7:Int.toNat 7=7:=rfl
 have n14:Int.toNat 14=14:=rfl
 have n15:Int.toNat 15=15:=rfl
 have n22:Int.toNat 22=22:=rfl
 have w1:IntKind.i64.wrap 1=1:=rfl
 have w2:IntKind.i64.wrap 2=2:=rfl
 have w3:IntKind.i64.wrap 3=3:=rfl
 have w6:IntKind.i64.wrap 6=6:=rfl
 have w7:IntKind.i64.wrap 7=7:=rfl
 have w8:IntKind.i64.wrap 8=8:=rfl
 have w14:IntKind.i64.wrap 14=14:=rfl
 have w15:IntKind.i64.wrap 15=15:=rfl
 have w22:IntKind.i64.wrap 22=22:=rfl
 have w23:IntKind.i64.wrap 23=23:=rfl
 have f00:Nat.blt 0 0=false:=rfl
 have f01:Nat.blt 0 1=true:=rfl
 have f02:Nat.blt 0 2=true:=rfl
 have f03:Nat.blt 0 3=true:=rfl
 have f10:Nat.blt 1 0=false:=rfl
 have f11:Nat.blt 1 1=false:=rfl
 have f12:Nat.blt 1 2=true:=rfl
 have f13:Nat.blt 1 3=true:=rfl
 have f20:Nat.blt 2 0=false:=rfl
 have f21:Nat.blt 2 1=false:=rfl
 have f22:Nat.blt 2 2=false:=rfl
 have f23:Nat.blt 2 3=true:=rfl
 refine Jq Jd Tryz.func93 rfl JEt JH rfl ?_
 refine JB.reg ?_
 have X:=((((((((((((((((((((((((((((((((((Fx.mk f00).a f01).a f02).a f03).a f10).a f11).a f12).a f13).a f20).a f21).a f22).a f23).a d22).a d32).a h6).a h14).a ea).a eb).a ec).a n6).a n7).a n14).a n15).a n22).a w1).a w2).a w3).a w6).a w7).a w8).a w14).a w15).a w22).a w23).a hn
 refine JA.o1 Ja ?_
 refine JA.nil (JB.reg ?_)
 refine JA.o1 Ja ?_
 refine JA.nil (JB.reg ?_)
 refine JA.o1 Ja ?_
 refine JA.nil (JB.reg ?_)
 iterate 4 (refine JA.o1 Ja ?_)
 iterate 3 (refine JA.y1 Ja ?_)
 iterate 2 (refine JA.o1 Ja ?_)
 iterate 3 (refine JA.y1 Ja ?_)
 refine JA.o1 Ja ?_
 refine JA.c1 (Qr true rfl) Ja Ja ?_
 refine JA.nil (JB.reg ?_)
 refine JA.o1 Ja ?_
 refine JA.nil (JB.assocS (JB.reg ?_))
 refine JA.c1 (JE5) Ja Ja ?_
 refine JA.o1 Ja ?_
 refine JA.nil (JB.blk ?_)
 refine JB.forA [0,2,3,4,5,23,24] [2,3,4] (3) (fun k=>[.slot 24 (.int k),.slot 5 (.int (JEI k)),.obj 3 (.cells [rk (Nat.blt 0 k) a,rk (Nat.blt 1 k) b,rk (Nat.blt 2 k) c]),.obj 4 (.cells [rv (Nat.blt 0 k) a,rv (Nat.blt 1 k) b,rv (Nat.blt 2 k) c])]) (fun _=>True) (fun k=>by simp only [go_sem]<;>rfl) V63 ?_ (fun k hk hX=>?_)
 ·trivial
 ·skip
  by_cases h0:k=0
  ·skip
   subst h0
   have cz:((0:Nat):Int)=0:=rfl
   have ca:((0+1:Nat):Int)=1:=rfl
   refine JB.reg ?_
   have X:=(X.a cz).a ca
   refine JA.o1 Ja ?_
   refine JA.nil ?_
   refine JB.cndS Ja (fun hb25=>?_) (fun hb25=>?_)
   ·skip
    refine JB.skipS (JB.blk (JB.reg ?_))
    iterate 4 (refine JA.o1 Ja ?_)
    refine JA.nil (JB.reg ?_)
    iterate 5 (refine JA.o1 Ja ?_)
    refine JA.o1 Zm ?_
    iterate 2 (refine JA.o1 Yo ?_)
    refine JA.o1 Ja ?_
    refine JA.nil (JB.reg ?_)
    iterate 2 (refine JA.o1 Ja ?_)
    refine JA.o1 Yo ?_
    refine JA.o1 Ja ?_
    refine JA.c1 (JAw a 32 (by decide)) Ja Ja ?_
    refine JA.c1 (ZU (dw 32 a) fa) Ja Ja ?_
    refine JA.o1 Yo ?_
    refine JA.o1 Ja ?_
    refine JA.nil (JB.reg1 ?_)
    iterate 2 (refine JA.o1 Ja ?_)
    iterate 2 (refine JA.o1 Zm ?_)
    refine JA.o1 Ja ?_
    refine JA.nil (JP.nrm (JB.reg1 ?_))
    refine JA.o1 Zm ?_
    refine JA.o1 Ja ?_
    refine JA.nil ?_
    refine JV.nxt ?_ ?_ ?_
    ·omega
    ·exact JO.kp [0,2,3,4,5,23,24] [2,3,4] V11
    ·trivial
   ·exact absurd hb25 (by simp)
  ·skip
   by_cases h1:k=1
   ·skip
    subst h1
    have cz:((1:Nat):Int)=1:=rfl
    have ca:((1+1:Nat):Int)=2:=rfl
    refine JB.reg ?_
    have X:=(X.a cz).a ca
    refine JA.o1 Ja ?_
    refine JA.nil ?_
    refine JB.cndS Ja (fun hb25=>?_) (fun hb25=>?_)
    ·skip
     refine JB.skipS (JB.blk (JB.reg ?_))
     iterate 4 (refine JA.o1 Ja ?_)
     refine JA.nil (JB.reg ?_)
     iterate 5 (refine JA.o1 Ja ?_)
     refine JA.o1 Zm ?_
     iterate 2 (refine JA.o1 Yo ?_)
     refine JA.o1 Ja ?_
     refine JA.nil (JB.reg ?_)
     iterate 2 (refine JA.o1 Ja ?_)
     refine JA.o1 Yo ?_
     refine JA.o1 Ja ?_
     refine JA.c1 (JAw b 32 (by decide)) Ja Ja ?_
     refine JA.c1 (ZU (dw 32 b) fb) Ja Ja ?_
     refine JA.o1 Yo ?_
     refine JA.o1 Ja ?_
     refine JA.nil (JB.reg1 ?_)
     iterate 2 (refine JA.o1 Ja ?_)
     iterate 2 (refine JA.o1 Zm ?_)
     refine JA.o1 Ja ?_
     refine JA.nil (JP.nrm (JB.reg1 ?_))
     refine JA.o1 Zm ?_
     refine JA.o1 Ja ?_
     refine JA.nil ?_
     refine JV.nxt ?_ ?_ ?_
     ·omega
     ·exact JO.kp [0,2,3,4,5,23,24] [2,3,4] V11
     ·trivial
    ·exact absurd hb25 (by simp)
   ·skip
    by_cases h2:k=2
    ·skip
     subst h2
     have cz:((2:Nat):Int)=2:=rfl
     have ca:((2+1:Nat):Int)=3:=rfl
     refine JB.reg ?_
     have X:=(X.a cz).a ca
     refine JA.o1 Ja ?_
     refine JA.nil ?_
     refine JB.cndS Ja (fun hb25=>?_) (fun hb25=>?_)
     ·skip
      refine JB.skipS (JB.blk (JB.reg ?_))
      iterate 4 (refine JA.o1 Ja ?_)
      refine JA.nil (JB.reg ?_)
      iterate 5 (refine JA.o1 Ja ?_)
      refine JA.o1 Zm ?_
      iterate 2 (refine JA.o1 Yo ?_)
      refine JA.o1 Ja ?_
      refine JA.nil (JB.reg ?_)
      iterate 2 (refine JA.o1 Ja ?_)
      refine JA.o1 Yo ?_
      refine JA.o1 Ja ?_
      refine JA.c1 (JAw c 32 (by decide)) Ja Ja ?_
      refine JA.c1 (ZU (dw 32 c) fc) Ja Ja ?_
      refine JA.o1 Yo ?_
      refine JA.o1 Ja ?_
      refine JA.nil (JB.reg1 ?_)
      iterate 2 (refine JA.o1 Ja ?_)
      iterate 2 (refine JA.o1 Zm ?_)
      refine JA.o1 Ja ?_
      refine JA.nil (JP.nrm (JB.reg1 ?_))
      refine JA.o1 Zm ?_
      refine JA.o1 Ja ?_
      refine JA.nil ?_
      refine JV.nxt ?_ ?_ ?_
      ·omega
      ·exact JO.kp [0,2,3,4,5,23,24] [2,3,4] V11
      ·trivial
     ·exact absurd hb25 (by simp)
    ·skip
     have h3:k=3:=by omega
     subst h3
     have cz:((3:Nat):Int)=3:=rfl
     refine JB.reg ?_
     have X:=X.a cz
     refine JA.o1 Ja ?_
     refine JA.nil ?_
     refine JB.cndS Ja (fun hb25=>?_) (fun hb25=>?_)
     ·exact absurd hb25 (by simp)
     ·skip
      refine JB.exitS (JV.ext (JP.hit (JB.reg ?_)))
      refine JA.o1 Yo ?_
      refine JA.o1 Ja ?_
      refine JA.o1 Yo ?_
      refine JA.o1 Ja ?_
      refine JA.o1 Yo ?_
      iterate 4 (refine JA.o1 Ja ?_)
      refine JA.nil ?_
      refine JB.opk 7 ?_
      refine JF.o1 Ja ?_
      refine JF.cal (JIX (trP a b c) (JOU fa fb fc)) JW Ja J6 (QZ) Ja JD JD ?_
      refine JF.o1 Ja ?_
      refine JF.val [.slot 56,.slot 57] (fun A' hA=>JNs (a:=pad 32 6 (Jl (vp a))) (b:=pad 32 7 (Jl (vp b))) (c:=pad 32 7 (Jl (vp c))) (a':=a) (b':=b) (c':=c) Tryz.underlying148 Tryz.underlying9 (i:=_) rfl JH JH V89 V90) JD JD JD ?_
      refine JF.cal (Qr true rfl) JW Ja J6 (QZ) Ja JD JD ?_
      refine JF.nil (QW.fin J4 J4 ?_)
      refine JB.reg ?_
      iterate 2 (refine JA.o1 Ja ?_)
      refine JA.nil ?_
      exact Ends.fin [] (rs:=[.cell 2 146]) rfl Ja (by simp only [go_sem,X.h,rk,rv,cond_true,cond_false,JDO,JDP,JDQ,JDR,Int.toNat_zero,List.drop_zero,Int.reduceAdd]<;>first|rfl|exact QV)
end Go.Mw
namespace Go.Mw
open Go.Proofs Go.Bk
theorem JLf {h:Bs}{t:Tr}(hm:JA6 h=some t):Jb Tryz.prog 93 [.str h] (trV t) []:=by
 unfold JA6 at hm
 split at hm
 ·next hc=>
  simp only [Option.some.injEq] at hm
  obtain ⟨⟨h1,h2,h3⟩,⟨f1,f2,f3⟩,p1,p2,p3⟩:=hc
  subst hm
  refine JQg h _ _ _ h1 h2 h3 rfl (JLp h) (JLq h) f1 f2 f3 ?_
  simp only [Bool.and_eq_true,beq_iff_eq]
  exact ⟨p1,p2,p3⟩
 ·cases hm
theorem JS0 {h:Bs}(hl:h.length≤1000000000)(hm:JA6 h=none):QT Tryz.prog Jf 93 [.str h] []:=by
 by_cases h22:h.length=22
 ·obtain ⟨x,hx⟩:∃x,h[6]? = some x:=⟨_,List.getElem?_eq_getElem (by omega)⟩
  obtain ⟨y,hy⟩:∃y,h[14]? = some y:=⟨_,List.getElem?_eq_getElem (by omega)⟩
  by_cases x32:x=32
  ·subst x32
   by_cases y32:y=32
   ·subst y32
    refine JSz h _ _ _ h22 hx hy rfl (JLp h) (JLq h) fun hn=>?_
    obtain ⟨f1,f2,f3,hn⟩:=hn
    simp only [Bool.and_eq_true,beq_iff_eq] at hn
    unfold JA6 at hm
    rw [if_pos ⟨⟨h22,hx,hy⟩,⟨f1,f2,f3⟩,hn.1,hn.2.1,hn.2.2⟩] at hm
    cases hm
   ·exact JSy h y h22 hx hy y32
  ·exact JSx h x h22 hx x32
 ·exact JSw h hl h22
end Go.Mw
namespace Go.Bk
open Go.Mw
theorem JGz {own:Bs}:JAE own=true∧3≤own.length∧own[own.length-2]? = some 32∧chk (own.take (own.length-2))=own.drop (own.length-1) ∨
  JAE own=false∧(own.length<3∨3≤own.length∧(own[own.length-2]?≠some 32∨own[own.length-2]? = some 32∧chk (own.take (own.length-2))≠own.drop (own.length-1))):=by
 unfold JAE
 by_cases h1:3≤own.length<;>by_cases h2:own[own.length-2]? = some 32<;>by_cases h3:chk (own.take (own.length-2))=own.drop (own.length-1)<;>simp [h1,h2,h3]<;>omega
theorem JOI {l:List Sh}{own:Bs}(h:JAE own=false):Yx l own=none:=by unfold Yx;rw [if_neg (by rw [h];simp)]
theorem JOJ {l:List Sh}{own:Bs}(h:JAE own=true)(h2:own.head? = some 35):Yx l own=(JA1 (own.take (own.length-2))).map fun m=>l++[⟨m,[]⟩]:=by unfold Yx;rw [if_pos h,if_pos h2]
theorem JUz {own:Bs}(h:JAE own=true)(h2:own.head?≠some 35):Yx [] own=none:=by unfold Yx;rw [if_pos h,if_neg h2,if_pos rfl]
theorem JOK {l:List Sh}{x:Sh}{own:Bs}(h:JAE own=true)(h2:own.head?≠some 35):Yx (l++[x]) own=(JA6 (own.take (own.length-2))).map fun t=>l++[⟨x.meter,x.tries++[t]⟩]:=by
 unfold Yx
 rw [if_pos h,if_neg h2,if_neg (by simp)]
 congr 1
 funext t
 rw [JIL]
theorem JIn:∀(ls:List Bs) (l0 l:List Sh),ls.foldlM Yx l0=some l→∀w∈ls,3≤w.length
 |[],_,_,_,w,hw=>by cases hw
 |a::ls,l0,l,h,w,hw=>by
  rw [List.foldlM_cons] at h
  obtain ⟨l1,h1,h2⟩:=Option.bind_eq_some_iff.1 h
  rcases List.mem_cons.1 hw with rfl|hw
  ·cases hc:JAE w
   ·rw [JOI hc] at h1;cases h1
   ·rcases JGz (own:=w) with hh|hh
    ·exact hh.2.1
    ·rw [hc] at hh;exact absurd hh.1 (by simp)
  ·exact JIn ls l1 l h2 w hw
theorem JIh:∀(ls:List Bs),(∀w∈ls,3≤w.length)→4*ls.length≤(ends 10 ls).length
 |[],_=>by simp
 |a::ls,h=>by
  have:=JIh ls fun w hw=>h w (List.mem_cons_of_mem _ hw)
  have:=h a (List.mem_cons_self ..)
  rw [JAR]
  simp;omega
end Go.Bk
namespace Go.Mw
open Go.Proofs
open Go.Bk
attribute [local go_sem] decide_true beq_self_eq_true bne_self_eq_false
theorem JGw (l:List Sh)(hl:l.length≤1000000000000)(hz:∀x∈l,x.tries.length≤1000):Jb Tryz.prog 80 [.leaf (.d (Z7 l))] (.int (Y9 l)) []:=by
 by_cases h:12<l.length
 ·have e:Y9 l=3:=JCo _ _ h
  rw [e];exact JQN l h hl
 ·exact JLe l (by omega) hz
def stP (ls:List Bs)(q:Nat × List Sh × Value):Prop:=JAx Yx ls q.1=some q.2.1∧q.1≤ls.length∧JBh q.1 q.2.1
theorem JL1 {ls:List Bs}{k:Nat}{l:List Sh}(h:JAx Yx ls k=some l)(hk:k=ls.length):ls.foldlM Yx []=some l:=by rw [hk,JRO] at h;exact h
theorem JGl {ls:List Bs}{k:Nat}(h:JAx Yx ls (k+1)=none):ls.foldlM Yx []=none:=JRQ h
theorem JQY (text:Bs)(ls:List Bs)(lf:List Sh)(hl:text.length≤3000)(h:ZJ text=some ls)(hm:ls.foldlM Yx []=some lf)(hpe:Y9 lf=0):Qo Tryz.prog 91 [.leaf (.d (.pt [.raw (.string (bs text))]))] [] (.ret (.leaf (.d (Z7 lf))) []):=by
 obtain ⟨hb1,hb2⟩:=JFg h
 have h00:((0:Int)==0)=true:=rfl
 have hl4:=JIh ls (JIn ls [] lf hm)
 rw [←JHU h] at hl4
 refine Jq Jd Tryz.func91 rfl JH5 JH rfl ?_
 refine JB.reg ?_
 have X:=(Fx.mk hpe).a h00
 refine JA.o1 JC ?_
 refine JA.nil (JB.assocS (JB.reg ?_))
 refine JA.o1 JC ?_
 refine JA.c1 (JE7 (by omega) h) JC JC ?_
 iterate 2 (refine JA.o1 JC ?_)
 refine JA.nilo 1 1000 68 2 JD JD (by omega) (by omega) JD ?_
 refine JA.pinNil 1002 1001 146 3 (.inl JD) JD (by omega) (by omega) (by omega) (by omega) JD ?_
 refine JA.nil (JB.blk ?_)
 refine JB.whl [1,7,8,9] [1000,1001,1002] (fun (q:Nat × List Sh × Value)=>[.slot 1 (.leaf (.own 1000 0 q.2.1.length q.2.1.length)),.slot 9 (.int q.1),.obj 1000 (.arr 68 2 (JCN q.2.1 q.2.2)),.obj 1001 (.arr 146 3 ((Yu q.2.1).map Ye)),.obj 1002 (.pin q.2.2 (.own 1001 0 (Yu q.2.1).length (Yu q.2.1).length))]) (fun q=>stP ls q) (fun q=>ls.length-q.1) ((0,([]:List Sh),Value.slice none 0 0)) (fun q=>by simp only [go_sem]<;>rfl) (by simp only [go_sem,X.h,Int.natCast_zero,JHk,JMe,List.map_nil,List.length_nil]<;>rfl) ?_ (fun q hX=>?_)
 ·exact ⟨JMJ _ _,Nat.zero_le _,JLC⟩
 ·skip
  obtain ⟨k,l,v⟩:=q
  dsimp only at hX ⊢
  have hrl:=JNe l v
  have hkb:=hX.2.1
  refine JB.reg ?_
  have X:=X.a hrl
  refine JA.o1 JC ?_
  refine JA.nil ?_
  refine JB.cndS JC (fun hb10=>?_) (fun hb10=>?_)
  ·skip
   have hkn:k<ls.length:=by have:=of_decide_eq_true hb10;omega
   obtain ⟨s,hx⟩:∃s,ls[k]? = some s:=⟨_,List.getElem?_eq_getElem hkn⟩
   have hsl:=hb2 s (List.mem_of_getElem? hx)
   have hfk:=JMI hx hX.1
   have hbT:JBh k l:=hX.2.2
   have hbL:l.length≤k:=hbT.1
   refine JB.skipS (JB.blk (JB.reg ?_))
   have X:=X.a hx
   refine JA.o1 QQ ?_
   iterate 2 (refine JA.o1 JC ?_)
   refine JA.nil (JB.reg ?_)
   iterate 2 (refine JA.o1 JC ?_)
   refine JA.o1 QC ?_
   refine JA.o1 JC ?_
   refine JA.nil ?_
   by_cases hck:JAE s=true
   ·skip
    have hcc:=(JGz (own:=s)).resolve_right (fun h=>by rw [hck] at h;exact absurd h.1 (by simp))
    obtain ⟨_,k3,k4,k5⟩:=hcc
    have d17:decide ((s.length:Int)-2>0)=true:=decide_eq_true (by omega)
    have tn:((s.length:Int)-2).toNat=s.length-2:=by omega
    have hge:(0≤(s.length:Int)-2)=True:=eq_true (by omega)
    have tn1:((s.length:Int)-2+1).toNat=s.length-1:=by omega
    have d33:(chk (s.take (s.length-2))==s.drop (s.length-1))=true:=beq_iff_eq.2 k5
    have d32:(((32:UInt8).toNat:Int)==32)=true:=rfl
    obtain ⟨c,hc0⟩:∃c,s[0]? = some c:=⟨_,List.getElem?_eq_getElem (by omega)⟩
    have hhd:s.head? = some c:=by rw [List.head?_eq_getElem?];exact hc0
    refine JB.opk 22 ?_
    have X:=(((((((X.a d17).a hge).a tn).a tn1).a d33).a d32).a k4).a hc0
    iterate 3 (refine JF.o1 QP ?_)
    iterate 4 (refine JF.y1 QP ?_)
    iterate 2 (refine JF.o1 QP ?_)
    iterate 2 (refine JF.y1 QP ?_)
    refine JF.y1 V50 ?_
    refine JF.calw JD (JE4 (s.take (s.length-2)) JB4) JW QP QP J6 (QZ) QP JD JD ?_
    iterate 2 (refine JF.y1 QP ?_)
    refine JF.y1 V51 ?_
    refine JF.y1 V50 ?_
    refine JF.y1 QP ?_
    refine JF.o1 QP ?_
    refine JF.cal (Qr true rfl) JW QP J6 (QZ) QP JD JD ?_
    refine JF.nil (QW.finT JH JH JH ?_)
    refine JB.assocS ?_
    by_cases hc:c=35
    ·skip
     subst hc
     have d35:(((35:UInt8).toNat:Int)==35)=true:=rfl
     have hst:=JOJ (l:=l) hck hhd
     rw [hst] at hfk
     refine JB.reg ?_
     have X:=X.a d35
     iterate 3 (refine JA.o1 QP ?_)
     refine JA.nil ?_
     refine JB.cndS QP (fun hb38=>?_) (fun hb38=>?_)
     ·skip
      refine JB.assocS ?_
      by_cases hmp:JA1 (s.take (s.length-2))=none
      ·skip
       exact absurd (JGl (hfk.trans (by rw [hmp];rfl))) (by rw [hm];simp)
      ·skip
       obtain ⟨m,hm1⟩:=Option.ne_none_iff_exists'.1 hmp
       rw [hm1,Option.map_some] at hfk
       have hnx:=JLB hbT m
       by_cases hl0:l=[]
       ·skip
        subst hl0
        have hta:List.take (Yu []).length (List.map Ye (Yu []))=List.map Ye (Yu []):=rfl
        refine JB.reg ?_
        have X:=Fx.mk hta
        refine JA.frz 1001 JC ?_
        have X:=((((((((((((Fx.mk hpe).a h00).a hrl).a hx).a d17).a hge).a tn).a tn1).a d33).a d32).a k4).a hc0).a d35
        iterate 3 (refine JA.o1 QP ?_)
        refine JA.o1 V50 ?_
        refine JA.c1 (JGs hm1) QP QP ?_
        iterate 2 (refine JA.o1 QP ?_)
        refine JA.o1 V4 ?_
        refine JA.o1 QP ?_
        refine JA.pinNil 1002 1001 146 3 (.inr ⟨_,_,JD⟩) JD (by omega) (by omega) (by omega) (by omega) JD ?_
        refine JA.nil (JB.exitS (JP.hit (JB.reg1 ?_)))
        refine JA.o1 V51 ?_
        refine JA.o1 QP ?_
        refine JA.nil ?_
        refine ZE.nxt ((k+1,[⟨m,[]⟩],.slice none 0 0)) ?_ ?_ ?_
        ·show ls.length-(k+1)<ls.length-k;omega
        ·exact ⟨hfk,hkn,hnx⟩
        ·exact JO.kp [1,7,8,9] [1000,1001,1002] V14
       ·skip
        obtain ⟨l1,x,rfl⟩:=(JDc l).resolve_left hl0
        have hrv:=JBv l1 x v
        have hlt:=JBp l1 x
        have hll:(l1++[x]).length=l1.length+1:=by simp
        have hrl2:=JEe l1
        have hl1:l1.length≤200000000:=by omega
        have hta:List.take x.tries.length (List.map Ye x.tries)=List.map Ye x.tries:=List.take_of_length_le (by simp)
        have hrb:=JFz l1 x
        have hr2:JCN (l1++[x]++[⟨m,[]⟩]) (.slice none 0 0)=(l1.map Zo++[[D.i x.meter,JGD x.tries]])++[[.i m,.raw (.slice none 0 0)]]:=by rw [JBv,JFz]
        have hl2:Yu (l1++[x]++[⟨m,[]⟩])=[]:=JBp _ _
        refine JB.reg ?_
        have X:=((Fx.mk hrv).a hlt).a hta
        refine JA.frz 1001 JC ?_
        refine JA.unpinR 1002 1000 JC JC JC ?_
        have X:=((((((((((((((((Fx.mk hpe).a h00).a hrl).a hx).a d17).a hge).a tn).a tn1).a d33).a d32).a k4).a hc0).a d35).a hll).a hrl2).a hr2).a hl2
        iterate 3 (refine JA.o1 V95 ?_)
        refine JA.o1 V31 ?_
        refine JA.c1 (JGs hm1) V95 V95 ?_
        iterate 2 (refine JA.o1 V95 ?_)
        refine JA.o1 V2 ?_
        refine JA.o1 V95 ?_
        refine JA.pinNil 1002 1001 146 3 (.inr ⟨_,_,JD⟩) JD (by omega) (by omega) (by omega) (by omega) JD ?_
        refine JA.nil (JB.exitS (JP.hit (JB.reg1 ?_)))
        refine JA.o1 V37 ?_
        refine JA.o1 V95 ?_
        refine JA.nil ?_
        refine ZE.nxt ((k+1,l1++[x]++[⟨m,[]⟩],.slice none 0 0)) ?_ ?_ ?_
        ·show ls.length-(k+1)<ls.length-k;omega
        ·exact ⟨hfk,hkn,hnx⟩
        ·exact JO.kp [1,7,8,9] [1000,1001,1002] V12
     ·exact absurd hb38 (by simp)
    ·skip
     have hnh:s.head?≠some 35:=fun h=>by rw [hhd] at h;exact hc (Option.some.inj h)
     have d35:((c.toNat:Int)==35)=false:=beq_eq_false_iff_ne.2 (fun h=>hc (UInt8.toNat_inj.1 (by have:(35:UInt8).toNat=35:=rfl;omega)))
     refine JB.reg ?_
     have X:=X.a d35
     iterate 3 (refine JA.o1 QP ?_)
     refine JA.nil ?_
     refine JB.cndS QP (fun hb38=>?_) (fun hb38=>?_)
     ·exact absurd hb38 (by simp)
     ·skip
      refine JB.skipS ?_
      by_cases hl0:l=[]
      ·skip
       exact absurd (JGl (hfk.trans (hl0▸JUz hck hnh))) (by rw [hm];simp)
      ·skip
       obtain ⟨l1,x,rfl⟩:=(JDc l).resolve_left hl0
       have hrv:=JBv l1 x v
       have hlt:=JBp l1 x
       have hll:(l1++[x]).length=l1.length+1:=by simp
       have hrl2:=JEe l1
       have hl1:l1.length≤200000000:=by omega
       have hta:List.take x.tries.length (List.map Ye x.tries)=List.map Ye x.tries:=List.take_of_length_le (by simp)
       have d4:decide (((l1.length+1:Nat):Int)>0)=true:=decide_eq_true (by omega)
       have hst:=JOK (l:=l1) (x:=x) hck hnh
       rw [hst] at hfk
       have t1:(((l1.length+1:Nat):Int)-1).toNat=l1.length:=by omega
       have hra:=JNf l1
       have hxt:x.tries.length≤k:=hbT.2 x (by simp)
       refine JB.reg ?_
       have X:=((((((X.a hll).a d4).a hrv).a hlt).a hrl2).a t1).a hra
       iterate 3 (refine JA.o1 QP ?_)
       refine JA.c1 (Qr true rfl) QP QP ?_
       refine JA.nil (JB.reg ?_)
       iterate 3 (refine JA.o1 QP ?_)
       refine JA.o1 V51 ?_
       refine JA.o1 V50 ?_
       refine JA.o1 QP ?_
       refine JA.nil ?_
       by_cases htp:JA6 (s.take (s.length-2))=none
       ·skip
        exact absurd (JGl (hfk.trans (by rw [htp];rfl))) (by rw [hm];simp)
       ·skip
        obtain ⟨t,ht1⟩:=Option.ne_none_iff_exists'.1 htp
        rw [ht1,Option.map_some] at hfk
        have hnx:=JLD hbT t
        have hlt2:Yu (l1++[⟨x.meter,x.tries++[t]⟩])=x.tries++[t]:=JBp _ _
        refine JB.opl1 16 13 rfl J4 ?_
        iterate 4 (refine JF.o1 Y3 ?_)
        refine JF.pinl 1002 JD Y3 Y3 JD JD ?_
        iterate 2 (refine JF.o1 Y3 ?_)
        refine JF.o1 V39 ?_
        refine JF.cal (JLf ht1) JW Y3 J6 (QZ) Y3 JD JD ?_
        refine JF.o1 Y3 ?_
        refine JF.o1 V3 ?_
        iterate 2 (refine JF.o1 Y3 ?_)
        refine JF.nil (JDi.pin (s:=66) (G:=1002) J4 J4 JD Y3 (.inr ⟨_,_,Y3⟩) (fun u=>JD) (fun u=>Y3) (fun u=>JD) fun u=>?_)
        refine JP.nrm (JB.reg1 ?_)
        refine JA.o1 V45 ?_
        refine JA.o1 Y3 ?_
        refine JA.nil ?_
        refine ZE.nxt ((k+1,l1++[⟨x.meter,x.tries++[t]⟩],u)) ?_ ?_ ?_
        ·show ls.length-(k+1)<ls.length-k;omega
        ·exact ⟨hfk,hkn,hnx⟩
        ·exact JO.kp [1,7,8,9] [1000,1001,1002] V10
   ·skip
    exact absurd (JGl (hfk.trans (JOI (by simpa using hck)))) (by rw [hm];simp)
  ·skip
   have hke:k=ls.length:=by have:=of_decide_eq_false hb10;have:=hX.2.1;omega
   have hf1:=JL1 hX.1 hke
   rw [hm] at hf1
   have hle:lf=l:=Option.some.inj hf1
   subst hle
   have hbT:JBh k lf:=hX.2.2
   have hbL:lf.length≤k:=hbT.1
   clear hf1
   refine JB.exitS (ZE.ext (JP.hit ?_))
   by_cases hl0:lf=[]
   ·skip
    subst hl0
    have hta:List.take (Yu []).length (List.map Ye (Yu []))=List.map Ye (Yu []):=rfl
    have hrv:=JHk v
    refine JB.reg ?_
    have X:=Fx.mk hta
    refine JA.frz 1001 JC ?_
    have X:=Fx.mk hrv
    refine JA.frz 1000 (by simp only [go_sem,X.h,List.take_nil]<;>rfl) ?_
    have X:=((Fx.mk hpe).a h00).a hrl
    refine JA.o1 JC ?_
    refine JA.c1 (JGw [] (by simp) (by simp)) JC JC ?_
    refine JA.o1 JC ?_
    refine JA.c1 (Qr true rfl) JC JC ?_
    refine JA.nil (JB.reg ?_)
    iterate 2 (refine JA.o1 JC ?_)
    refine JA.nil ?_
    exact Ends.fin [] (rs:=[.tmp 1]) rfl JC Qp
   ·skip
    have hz:∀y∈lf,y.tries.length≤1000:=fun y hy=>by have:=hbT.2 y hy;omega
    obtain ⟨l1,x,rfl⟩:=(JDc lf).resolve_left hl0
    have hrv:=JBv l1 x v
    have hlt:=JBp l1 x
    have hll:(l1++[x]).length=l1.length+1:=by simp
    have hrl2:=JEe l1
    have hl1:l1.length≤200000000:=by omega
    have hta:List.take x.tries.length (List.map Ye x.tries)=List.map Ye x.tries:=List.take_of_length_le (by simp)
    have htr:=JOP l1 x
    refine JB.reg ?_
    have X:=((Fx.mk hrv).a hlt).a hta
    refine JA.frz 1001 JC ?_
    refine JA.unpinR 1002 1000 JC JC JC ?_
    have X:=((Fx.mk hll).a hrl2).a htr
    refine JA.frz 1000 JC ?_
    have X:=((((Fx.mk hpe).a h00).a hrl).a hll).a hrl2
    refine JA.o1 JC ?_
    refine JA.c1 (JGw (l1++[x]) (by omega) hz) JC JC ?_
    refine JA.o1 JC ?_
    refine JA.c1 (Qr true rfl) JC JC ?_
    refine JA.nil (JB.reg ?_)
    iterate 2 (refine JA.o1 JC ?_)
    refine JA.nil ?_
    exact Ends.fin [] (rs:=[.tmp 1]) rfl JC Qp
theorem JM7 (text:Bs)(ls:List Bs)(hl:text.length≤3000)(h:ZJ text=some ls)(hbad:∀l,ls.foldlM Yx []=some l→Y9 l≠0):QT Tryz.prog Jf 91 [.leaf (.d (.pt [.raw (.string (bs text))]))] []:=by
 obtain ⟨hb1,hb2⟩:=JFg h
 refine Q4 Jd Tryz.func91 rfl JH5 JH rfl ?_
 refine JB.reg ?_
 refine JA.o ?_
 refine JA.nil (JB.assocS (JB.reg ?_))
 refine JA.o ?_
 refine JA.c1 (JE7 (by omega) h) JD JD ?_
 iterate 2 (refine JA.o ?_)
 refine JA.nilo 1 1000 68 2 JD JD (by omega) (by omega) JD ?_
 refine JA.pinNil 1002 1001 146 3 (.inl JD) JD (by omega) (by omega) (by omega) (by omega) JD ?_
 refine JA.nil (JB.blk ?_)
 refine JB.whl [1,7,8,9] [1000,1001,1002] (fun (q:Nat × List Sh × Value)=>[.slot 1 (.leaf (.own 1000 0 q.2.1.length q.2.1.length)),.slot 9 (.int q.1),.obj 1000 (.arr 68 2 (JCN q.2.1 q.2.2)),.obj 1001 (.arr 146 3 ((Yu q.2.1).map Ye)),.obj 1002 (.pin q.2.2 (.own 1001 0 (Yu q.2.1).length (Yu q.2.1).length))]) (fun q=>stP ls q) (fun q=>ls.length-q.1) ((0,([]:List Sh),Value.slice none 0 0)) (fun q=>by simp only [go_sem]<;>rfl) (by simp only [go_sem,Int.natCast_zero,JHk,JMe,List.map_nil,List.length_nil]<;>rfl) ?_ (fun q hX=>?_)
 ·exact ⟨JMJ _ _,Nat.zero_le _,JLC⟩
 ·skip
  obtain ⟨k,l,v⟩:=q
  dsimp only at hX ⊢
  have hrl:=JNe l v
  have hkb:=hX.2.1
  refine JB.reg ?_
  have X:=Fx.mk hrl
  refine JA.o1 JC ?_
  refine JA.nil ?_
  refine JB.cndS JC (fun hb10=>?_) (fun hb10=>?_)
  ·skip
   have hkn:k<ls.length:=by have:=of_decide_eq_true hb10;omega
   obtain ⟨s,hx⟩:∃s,ls[k]? = some s:=⟨_,List.getElem?_eq_getElem hkn⟩
   have hsl:=hb2 s (List.mem_of_getElem? hx)
   have hfk:=JMI hx hX.1
   have hbT:JBh k l:=hX.2.2
   have hbL:l.length≤k:=hbT.1
   refine JB.skipS (JB.blk (JB.reg ?_))
   have X:=X.a hx
   refine JA.o1 QQ ?_
   iterate 2 (refine JA.o1 JC ?_)
   refine JA.nil (JB.reg ?_)
   iterate 2 (refine JA.o1 JC ?_)
   refine JA.o1 QC ?_
   refine JA.o1 JC ?_
   refine JA.nil ?_
   by_cases hck:JAE s=true
   ·skip
    have hcc:=(JGz (own:=s)).resolve_right (fun h=>by rw [hck] at h;exact absurd h.1 (by simp))
    obtain ⟨_,k3,k4,k5⟩:=hcc
    have d17:decide ((s.length:Int)-2>0)=true:=decide_eq_true (by omega)
    have tn:((s.length:Int)-2).toNat=s.length-2:=by omega
    have hge:(0≤(s.length:Int)-2)=True:=eq_true (by omega)
    have tn1:((s.length:Int)-2+1).toNat=s.length-1:=by omega
    have d33:(chk (s.take (s.length-2))==s.drop (s.length-1))=true:=beq_iff_eq.2 k5
    have d32:(((32:UInt8).toNat:Int)==32)=true:=rfl
    obtain ⟨c,hc0⟩:∃c,s[0]? = some c:=⟨_,List.getElem?_eq_getElem (by omega)⟩
    have hhd:s.head? = some c:=by rw [List.head?_eq_getElem?];exact hc0
    refine JB.opk 22 ?_
    have X:=(((((((X.a d17).a hge).a tn).a tn1).a d33).a d32).a k4).a hc0
    iterate 3 (refine JF.o1 QP ?_)
    iterate 4 (refine JF.y1 QP ?_)
    iterate 2 (refine JF.o1 QP ?_)
    iterate 2 (refine JF.y1 QP ?_)
    refine JF.y1 V50 ?_
    refine JF.calw JD (JE4 (s.take (s.length-2)) JB4) JW QP QP J6 (QZ) QP JD JD ?_
    iterate 2 (refine JF.y1 QP ?_)
    refine JF.y1 V51 ?_
    refine JF.y1 V50 ?_
    refine JF.y1 QP ?_
    refine JF.o1 QP ?_
    refine JF.cal (Qr true rfl) JW QP J6 (QZ) QP JD JD ?_
    refine JF.nil (QW.finT JH JH JH ?_)
    refine JB.assocS ?_
    by_cases hc:c=35
    ·skip
     subst hc
     have d35:(((35:UInt8).toNat:Int)==35)=true:=rfl
     have hst:=JOJ (l:=l) hck hhd
     rw [hst] at hfk
     refine JB.reg ?_
     have X:=X.a d35
     iterate 3 (refine JA.o1 QP ?_)
     refine JA.nil ?_
     refine JB.cndS QP (fun hb38=>?_) (fun hb38=>?_)
     ·skip
      refine JB.assocS ?_
      by_cases hmp:JA1 (s.take (s.length-2))=none
      ·skip
       skip
       refine JB.pan (pv:=Jf) 4 rfl ?_
       iterate 3 (refine JA.o1 QP ?_)
       refine JA.o1 V50 ?_
       exact JA.panc (JSf JB4 hmp) JW QP J6 rfl
      ·skip
       obtain ⟨m,hm1⟩:=Option.ne_none_iff_exists'.1 hmp
       rw [hm1,Option.map_some] at hfk
       have hnx:=JLB hbT m
       by_cases hl0:l=[]
       ·skip
        subst hl0
        have hta:List.take (Yu []).length (List.map Ye (Yu []))=List.map Ye (Yu []):=rfl
        refine JB.reg ?_
        have X:=Fx.mk hta
        refine JA.frz 1001 JC ?_
        have X:=((((((((((Fx.mk hrl).a hx).a d17).a hge).a tn).a tn1).a d33).a d32).a k4).a hc0).a d35
        iterate 3 (refine JA.o1 QP ?_)
        refine JA.o1 V50 ?_
        refine JA.c1 (JGs hm1) QP QP ?_
        iterate 2 (refine JA.o1 QP ?_)
        refine JA.o1 V4 ?_
        refine JA.o1 QP ?_
        refine JA.pinNil 1002 1001 146 3 (.inr ⟨_,_,JD⟩) JD (by omega) (by omega) (by omega) (by omega) JD ?_
        refine JA.nil (JB.exitS (JP.hit (JB.reg1 ?_)))
        refine JA.o1 V51 ?_
        refine JA.o1 QP ?_
        refine JA.nil ?_
        refine ZE.nxt ((k+1,[⟨m,[]⟩],.slice none 0 0)) ?_ ?_ ?_
        ·show ls.length-(k+1)<ls.length-k;omega
        ·exact ⟨hfk,hkn,hnx⟩
        ·exact JO.kp [1,7,8,9] [1000,1001,1002] V14
       ·skip
        obtain ⟨l1,x,rfl⟩:=(JDc l).resolve_left hl0
        have hrv:=JBv l1 x v
        have hlt:=JBp l1 x
        have hll:(l1++[x]).length=l1.length+1:=by simp
        have hrl2:=JEe l1
        have hl1:l1.length≤200000000:=by omega
        have hta:List.take x.tries.length (List.map Ye x.tries)=List.map Ye x.tries:=List.take_of_length_le (by simp)
        have hrb:=JFz l1 x
        have hr2:JCN (l1++[x]++[⟨m,[]⟩]) (.slice none 0 0)=(l1.map Zo++[[D.i x.meter,JGD x.tries]])++[[.i m,.raw (.slice none 0 0)]]:=by rw [JBv,JFz]
        have hl2:Yu (l1++[x]++[⟨m,[]⟩])=[]:=JBp _ _
        refine JB.reg ?_
        have X:=((Fx.mk hrv).a hlt).a hta
        refine JA.frz 1001 JC ?_
        refine JA.unpinR 1002 1000 JC JC JC ?_
        have X:=((((((((((((((Fx.mk hrl).a hx).a d17).a hge).a tn).a tn1).a d33).a d32).a k4).a hc0).a d35).a hll).a hrl2).a hr2).a hl2
        iterate 3 (refine JA.o1 V95 ?_)
        refine JA.o1 V31 ?_
        refine JA.c1 (JGs hm1) V95 V95 ?_
        iterate 2 (refine JA.o1 V95 ?_)
        refine JA.o1 V2 ?_
        refine JA.o1 V95 ?_
        refine JA.pinNil 1002 1001 146 3 (.inr ⟨_,_,JD⟩) JD (by omega) (by omega) (by omega) (by omega) JD ?_
        refine JA.nil (JB.exitS (JP.hit (JB.reg1 ?_)))
        refine JA.o1 V37 ?_
        refine JA.o1 V95 ?_
        refine JA.nil ?_
        refine ZE.nxt ((k+1,l1++[x]++[⟨m,[]⟩],.slice none 0 0)) ?_ ?_ ?_
        ·show ls.length-(k+1)<ls.length-k;omega
        ·exact ⟨hfk,hkn,hnx⟩
        ·exact JO.kp [1,7,8,9] [1000,1001,1002] V12
     ·exact absurd hb38 (by simp)
    ·skip
     have hnh:s.head?≠some 35:=fun h=>by rw [hhd] at h;exact hc (Option.some.inj h)
     have d35:((c.toNat:Int)==35)=false:=beq_eq_false_iff_ne.2 (fun h=>hc (UInt8.toNat_inj.1 (by have:(35:UInt8).toNat=35:=rfl;omega)))
     refine JB.reg ?_
     have X:=X.a d35
     iterate 3 (refine JA.o1 QP ?_)
     refine JA.nil ?_
     refine JB.cndS QP (fun hb38=>?_) (fun hb38=>?_)
     ·exact absurd hb38 (by simp)
     ·skip
      refine JB.skipS ?_
      by_cases hl0:l=[]
      ·skip
       subst hl0
       have d4:decide ((([]:List Sh).length:Int)>0)=false:=rfl
       refine JB.pan (pv:=Jf) 3 rfl ?_
       have X:=X.a d4
       iterate 3 (refine JA.o1 QP ?_)
       exact JA.panc (Yg false rfl) JW QP J6 rfl
      ·skip
       obtain ⟨l1,x,rfl⟩:=(JDc l).resolve_left hl0
       have hrv:=JBv l1 x v
       have hlt:=JBp l1 x
       have hll:(l1++[x]).length=l1.length+1:=by simp
       have hrl2:=JEe l1
       have hl1:l1.length≤200000000:=by omega
       have hta:List.take x.tries.length (List.map Ye x.tries)=List.map Ye x.tries:=List.take_of_length_le (by simp)
       have d4:decide (((l1.length+1:Nat):Int)>0)=true:=decide_eq_true (by omega)
       have hst:=JOK (l:=l1) (x:=x) hck hnh
       rw [hst] at hfk
       have t1:(((l1.length+1:Nat):Int)-1).toNat=l1.length:=by omega
       have hra:=JNf l1
       have hxt:x.tries.length≤k:=hbT.2 x (by simp)
       refine JB.reg ?_
       have X:=((((((X.a hll).a d4).a hrv).a hlt).a hrl2).a t1).a hra
       iterate 3 (refine JA.o1 QP ?_)
       refine JA.c1 (Qr true rfl) QP QP ?_
       refine JA.nil (JB.reg ?_)
       iterate 3 (refine JA.o1 QP ?_)
       refine JA.o1 V51 ?_
       refine JA.o1 V50 ?_
       refine JA.o1 QP ?_
       refine JA.nil ?_
       by_cases htp:JA6 (s.take (s.length-2))=none
       ·skip
        skip
        refine JB.opp1 (pv:=Jf) 16 8 [0,1,2,3,4,5,6,7] rfl J4 ?_
        iterate 7 (refine JF.o1 QP ?_)
        refine JF.o1 V50 ?_
        exact JF.pang [] 0 (JS0 JB4 htp) JW JD JD V87 (fun q x h=>by simp [look] at h) (fun q q' n h=>by simp [look] at h) J4 J4 rfl
       ·skip
        obtain ⟨t,ht1⟩:=Option.ne_none_iff_exists'.1 htp
        rw [ht1,Option.map_some] at hfk
        have hnx:=JLD hbT t
        have hlt2:Yu (l1++[⟨x.meter,x.tries++[t]⟩])=x.tries++[t]:=JBp _ _
        refine JB.opl1 16 13 rfl J4 ?_
        iterate 4 (refine JF.o1 Y3 ?_)
        refine JF.pinl 1002 JD Y3 Y3 JD JD ?_
        iterate 2 (refine JF.o1 Y3 ?_)
        refine JF.o1 V39 ?_
        refine JF.cal (JLf ht1) JW Y3 J6 (QZ) Y3 JD JD ?_
        refine JF.o1 Y3 ?_
        refine JF.o1 V3 ?_
        iterate 2 (refine JF.o1 Y3 ?_)
        refine JF.nil (JDi.pin (s:=66) (G:=1002) J4 J4 JD Y3 (.inr ⟨_,_,Y3⟩) (fun u=>JD) (fun u=>Y3) (fun u=>JD) fun u=>?_)
        refine JP.nrm (JB.reg1 ?_)
        refine JA.o1 V45 ?_
        refine JA.o1 Y3 ?_
        refine JA.nil ?_
        refine ZE.nxt ((k+1,l1++[⟨x.meter,x.tries++[t]⟩],u)) ?_ ?_ ?_
        ·show ls.length-(k+1)<ls.length-k;omega
        ·exact ⟨hfk,hkn,hnx⟩
        ·exact JO.kp [1,7,8,9] [1000,1001,1002] V10
   ·skip
    have hck2:JAE s=false:=by simpa using hck
    have hcc:=((JGz (own:=s)).resolve_left (fun h=>hck h.1)).2
    have tn:((s.length:Int)-2).toNat=s.length-2:=by omega
    have tn1:3≤s.length→((s.length:Int)-2+1).toNat=s.length-1:=fun h=>by omega
    by_cases hs3:s.length<3
    ·skip
     have d17:decide ((s.length:Int)-2>0)=false:=decide_eq_false (by omega)
     refine JB.opp (pv:=Jf) 22 19 [0,1,2,3,4,5,6,7,8,9,10,11,12,13,14,15,16,17,18] rfl J4 ?_
     have X:=(X.a tn).a d17
     iterate 3 (refine JF.o1 (by simp only [go_sem,X.h,List.drop_zero]<;>rfl) ?_)
     iterate 4 (refine JF.s ?_)
     iterate 2 (refine JF.o1 (by simp only [go_sem,X.h,List.drop_zero]<;>rfl) ?_)
     iterate 9 (refine JF.s ?_)
     refine JF.o1 (by simp only [go_sem,X.h,List.drop_zero]<;>rfl) ?_
     exact JF.pang [] 0 (Yg false rfl) JW JD JC V87 (fun q x h=>by simp [look] at h) (fun q q' n h=>by simp [look] at h) J4 J4 rfl
    ·skip
     have d17:decide ((s.length:Int)-2>0)=true:=decide_eq_true (by omega)
     have hcd:=(hcc.resolve_left hs3).2
     have tn2:=tn1 (by omega)
     have hge:(0≤(s.length:Int)-2)=True:=eq_true (by omega)
     by_cases h32:s[s.length-2]? = some 32
     ·skip
      have hne:=(hcd.resolve_left (fun h=>h h32)).2
      have d33:=JBF hne
      have d32:(((32:UInt8).toNat:Int)==32)=true:=rfl
      refine JB.opp (pv:=Jf) 22 19 [0,1,2,3,4,5,6,7,8,9,10,11,12,13,14,15,16,17,18] rfl J4 ?_
      have X:=((((((X.a tn).a d17).a hge).a tn2).a h32).a d32).a d33
      iterate 3 (refine JF.o1 JAM ?_)
      iterate 4 (refine JF.y1 JAM ?_)
      iterate 2 (refine JF.o1 JAM ?_)
      iterate 2 (refine JF.y1 JAM ?_)
      refine JF.y1 V69 ?_
      refine JF.calw JD (JE4 (s.take (s.length-2)) JB4) JW JAM JAM J6 (QZ) JAM JD JD ?_
      iterate 2 (refine JF.y1 JAM ?_)
      refine JF.y1 (by simp only [go_sem,X.h,List.drop_zero,if_true];(try simp (disch:=omega) only [IntWalk.i64_in,IntWalk.u64_in,IntWalk.i32_in,IntWalk.u8_in,if_neg,if_pos])<;> rfl) ?_
      refine JF.y1 V69 ?_
      refine JF.y1 JAM ?_
      refine JF.o1 JAM ?_
      have X:=((((((((Fx.mk hrl).a hx).a tn).a tn2).a hge).a d17).a h32).a d32).a d33
      exact JF.pang [] 0 (Yg false rfl) JW JD (by simp only [go_sem,X.h,if_true]<;>rfl) V87 (fun q x h=>by simp [look] at h) (fun q q' n h=>by simp [look] at h) J4 J4 rfl
     ·skip
      obtain ⟨z,hz0⟩:∃z,s[s.length-2]? = some z:=⟨_,List.getElem?_eq_getElem (by omega)⟩
      have d32:((z.toNat:Int)==32)=false:=beq_eq_false_iff_ne.2 (fun h=>h32 (by rw [hz0];congr 1;exact UInt8.toNat_inj.1 (by have:(32:UInt8).toNat=32:=rfl;omega)))
      refine JB.opp (pv:=Jf) 22 19 [0,1,2,3,4,5,6,7,8,9,10,11,12,13,14,15,16,17,18] rfl J4 ?_
      have X:=(((((X.a tn).a d17).a hge).a tn2).a hz0).a d32
      iterate 3 (refine JF.o1 JAM ?_)
      iterate 4 (refine JF.y1 JAM ?_)
      iterate 2 (refine JF.o1 JAM ?_)
      iterate 9 (refine JF.s ?_)
      refine JF.o1 JAM ?_
      have X:=(((((((Fx.mk hrl).a hx).a tn).a tn2).a hge).a d17).a hz0).a d32
      exact JF.pang [] 0 (Yg false rfl) JW JD (by simp only [go_sem,X.h,if_true]<;>rfl) V87 (fun q x h=>by simp [look] at h) (fun q q' n h=>by simp [look] at h) J4 J4 rfl
  ·skip
   have hke:k=ls.length:=by have:=of_decide_eq_false hb10;have:=hX.2.1;omega
   have hf1:=JL1 hX.1 hke
   have h00:(Y9 l==0)=false:=by simpa using hbad l hf1
   have hl4:=JIh ls (JIn ls [] l hf1)
   rw [←JHU h] at hl4
   have hbT:JBh k l:=hX.2.2
   have hbL:l.length≤k:=hbT.1
   refine JB.exitS (ZE.ext (JP.hit ?_))
   by_cases hl0:l=[]
   ·skip
    subst hl0
    have hta:List.take (Yu []).length (List.map Ye (Yu []))=List.map Ye (Yu []):=rfl
    have hrv:=JHk v
    refine JB.pan (pv:=Jf) 3 rfl ?_
    have X:=Fx.mk hta
    refine JA.frz 1001 JC ?_
    have X:=Fx.mk hrv
    refine JA.frz 1000 (by simp only [go_sem,X.h,List.take_nil]<;>rfl) ?_
    have X:=(Fx.mk hrl).a h00
    refine JA.o1 JC ?_
    refine JA.c1 (JGw [] (by simp) (by simp)) JC JC ?_
    refine JA.o1 JC ?_
    exact JA.panc (Yg false rfl) JW JC J6 rfl
   ·skip
    have hz:∀y∈l,y.tries.length≤1000:=fun y hy=>by have:=hbT.2 y hy;omega
    obtain ⟨l1,x,rfl⟩:=(JDc l).resolve_left hl0
    have hrv:=JBv l1 x v
    have hlt:=JBp l1 x
    have hll:(l1++[x]).length=l1.length+1:=by simp
    have hrl2:=JEe l1
    have hl1:l1.length≤200000000:=by omega
    have hta:List.take x.tries.length (List.map Ye x.tries)=List.map Ye x.tries:=List.take_of_length_le (by simp)
    have htr:=JOP l1 x
    refine JB.pan (pv:=Jf) 3 rfl ?_
    have X:=((Fx.mk hrv).a hlt).a hta
    refine JA.frz 1001 JC ?_
    refine JA.unpinR 1002 1000 JC JC JC ?_
    have X:=((Fx.mk hll).a hrl2).a htr
    refine JA.frz 1000 JC ?_
    have X:=(((Fx.mk hrl).a h00).a hll).a hrl2
    refine JA.o1 JC ?_
    refine JA.c1 (JGw (l1++[x]) (by omega) hz) JC JC ?_
    refine JA.o1 JC ?_
    exact JA.panc (Yg false rfl) JW JC J6 rfl
theorem JSu (text:Bs)(hl:text.length≤3000)(h:ZJ text=none):QT Tryz.prog Jf 91 [.leaf (.d (.pt [.raw (.string (bs text))]))] []:=by
 refine Q4 Jd Tryz.func91 rfl JH5 JH rfl ?_
 refine JB.reg ?_
 refine JA.o ?_
 refine JA.nil (JB.assocS ?_)
 refine JB.pan (pv:=Jf) 1 rfl ?_
 refine JA.o ?_
 exact JA.panc (JM5 (by omega) h) JW JD J6 rfl
end Go.Mw
namespace Go.Mw
open Go.Proofs Go.Bk
theorem JQZ {text:Bs}{l:List Sh}(hl:text.length≤3000)(h:JBQ text=some l):Qo Tryz.prog 91 [.leaf (.d (.pt [.raw (.string (bs text))]))] [] (.ret (.leaf (.d (Z7 l))) []):=by
 unfold JBQ JC5 at h
 split at h
 ·next l' h1=>
  obtain ⟨ls,h3,h4⟩:=Option.bind_eq_some_iff.1 h1
  split at h
  ·next hc=>cases h;exact JQY text ls l hl h3 h4 hc
  ·cases h
 ·cases h
theorem JSv {text:Bs}(hl:text.length≤3000)(h:JBQ text=none):QT Tryz.prog Jf 91 [.leaf (.d (.pt [.raw (.string (bs text))]))] []:=by
 cases h1:ZJ text with
 |none=>exact JSu text hl h1
 |some ls=>
  cases h2:ls.foldlM Yx [] with
  |none=>exact JM7 text ls hl h1 fun l e=>by rw [h2] at e;cases e
  |some l=>
   by_cases h3:Y9 l=0
   ·have e:JC5 text=some l:=by unfold JC5;rw [h1];exact h2
    unfold JBQ at h
    rw [e] at h
    simp only at h
    rw [if_pos h3] at h;cases h
   ·exact JM7 text ls hl h1 fun l' e=>by rw [h2] at e;cases e;exact h3
end Go.Mw
namespace Go.Mw
open Go.Proofs Go.RowKit
theorem JOT (a b v:Value):#[a,b]++(((Array.replicate 16 undef).setIfInBounds 3 v).setIfInBounds 0 v)=#[a,b,v,undef,undef,v,undef,undef,undef,undef,undef,undef,undef,undef,undef,undef,undef,undef]:=by kernel_rfl
theorem JRu (p q:Addr)(w:World):CallsD Tryz.prog 135 #[.pointer (some p),.pointer (some q)] .returning w fun e u' w'=>e=.returned (.tuple #[])∧u'=.returning∧w'=w:=by
 refine callsD_of_wpS Tryz.func135 rfl fun c₀ cs hu=>?_
 apply wpS_seq
 apply wpS_region
 simp [wpOpsS,go_sem,recoverD,hu,Tryz.ntmps135,Exit.thenS]
 rw [JOT]
 refine wpS_of_wp ?_
 have hnil:∀w:World,(binOp BinOp.neq 20 .nilIface .nilIface).run Tryz.prog w=.ok (.bool false) w:=fun _=>by kernel_rfl
 have heg:∀w:World,(eqGuard BinOp.neq 20 (Operand.tmp 6) (Operand.const .nilIface) .nilIface .nilIface).run Tryz.prog w=.ok () w:=fun _=>by kernel_rfl
 go_wp2
 cases c₀
 simp_all [bodyPostS,results,Tryz.results135,Exit.thenS]
theorem JVl (p q:Nat)(w:World){cp cq:Value}{tp tq:TypeId}(hp:w.heap[p]? = some (.cells #[cp] tp (0,0)))(hq:w.heap[q]? = some (.cells #[cq] tq (0,0)))(hpq:p≠q) :
  CallsD Tryz.prog 135 #[.pointer (some ⟨p,0,none⟩),.pointer (some ⟨q,0,none⟩)] (.panicking [{ v:=Jf,recovered:=false }]) w fun e u' w'=>e=.returned (.tuple #[])∧u'=.panicking [{ v:=Jf,recovered:=true }] ∧
   w'=(((w.setCell ⟨p,0,none⟩ (.slice none 0 0)).setCell ⟨q,0,none⟩ (.int .i64 8)).alloc (.cells #[.int .i64 8] 172)).drew:=by
 have mixed:=JHV
 refine callsD_of_wpS Tryz.func135 rfl fun c₀ cs hu=>?_
 apply wpS_seq
 apply wpS_region
 simp [wpOpsS,go_sem,recoverD,hu,Tryz.ntmps135,Exit.thenS]
 rw [JOT]
 refine wpS_of_wp ?_
 have hnil:∀w:World,(binOp BinOp.neq 20 Jf .nilIface).run Tryz.prog w=.ok (.bool true) w:=fun _=>by kernel_rfl
 have hta:∀w:World,(Instr.typeAssert Jf 20 172 true).run Tryz.prog w=.ok (.tuple #[.agg #[.int .i64 8],.bool true]) w:=fun _=>by kernel_rfl
 have heg:∀w:World,(eqGuard BinOp.neq 20 (Operand.tmp 6) (Operand.const .nilIface) Jf .nilIface).run Tryz.prog w=.ok () w:=fun _=>by kernel_rfl
 generalize hv:Jf=v at hnil hta heg ⊢
 have hlp:=(Array.getElem?_eq_some_iff.1 hp).1
 have hlq:=(Array.getElem?_eq_some_iff.1 hq).1
 have hpa:∀o,(w.alloc o).drew.heap[p]? = some (.cells #[cp] tp (0,0)):=fun o=>(Below.heap_alloc w o p hlp).trans hp
 have hqa:∀o,(w.alloc o).drew.heap[q]? = some (.cells #[cq] tq (0,0)):=fun o=>(Below.heap_alloc w o q hlq).trans hq
 have hna:∀o,(w.alloc o).drew.heap[w.heap.size]? = some o:=fun o=>heap_alloc_new w o
 have cpa:∀o,(w.alloc o).drew.cell? ⟨p,0,none⟩=some cp:=fun o=>by rw [Lib.cell_of_heap (hpa o)];rfl
 have cqa:∀o,(w.alloc o).drew.cell? ⟨q,0,none⟩=some cq:=fun o=>by rw [Lib.cell_of_heap (hqa o)];rfl
 have cna:(w.alloc (.cells #[.int .i64 8] 172)).drew.cell? ⟨w.heap.size,0,none⟩=some (.int .i64 8):=by rw [Lib.cell_of_heap (hna _)];rfl
 have fpa:∀o,(w.alloc o).drew.frozen? ⟨p,0,none⟩=false:=fun o=>Lib.frozen_of_heap (hpa o) _
 have fqa:∀o,(w.alloc o).drew.frozen? ⟨q,0,none⟩=false:=fun o=>Lib.frozen_of_heap (hqa o) _
 have cp0:w.cell? ⟨p,0,none⟩=some cp:=by rw [Lib.cell_of_heap hp];rfl
 have cq0:w.cell? ⟨q,0,none⟩=some cq:=by rw [Lib.cell_of_heap hq];rfl
 have fp0:w.frozen? ⟨p,0,none⟩=false:=Lib.frozen_of_heap hp _
 have fq0:w.frozen? ⟨q,0,none⟩=false:=Lib.frozen_of_heap hq _
 have hqp:q≠p:=fun h=>hpq h.symm
 go_wp2
 go_region
 exact ⟨rfl,_,rfl,_,results_none rfl _ _ _,rfl,rfl,rfl⟩
theorem JTa (x:Value)(w:World)(G:Value→World→Prop)
  (hf:Calls Tryz.prog 91 #[x] ((w.alloc (.cells #[.slice none 0 0] 61)).alloc (.cells #[.int .i64 0] 35)) fun e w'=>∃p n c,e=.returned (.slice p n c)∧G (.slice p n c) w' ∧
   w'.heap[w.heap.size]? = some (.cells #[.slice none 0 0] 61 (0,0))∧w'.heap[w.heap.size+1]? = some (.cells #[.int .i64 0] 35 (0,0))) :
  Calls Tryz.prog 90 #[.func (.func 91) #[] #[x]] w fun e w'=>∃r w2,G r w2∧e=.returned (.tuple #[r,.int .i64 0])∧w'=(w2.setCell ⟨w.heap.size,0,none⟩ r).setCell ⟨w.heap.size+1,0,none⟩ (.int .i64 0):=by
 have hmf:∀(fn:Fn) (first cap:Array Value) (w:World),(Instr.makeFunc fn first cap).run Tryz.prog w=.ok (.func fn first cap) w:=fun _ _ _ _=>rfl
 go_enter_defers Tryz.func90,Tryz.ntmps90
 go_wp2_with (go_at_call 91;refine hf.mono ?_)
 rintro e w2 ⟨p,n,c,rfl,hG,h1,h2⟩
 have c1:w2.cell? ⟨w.heap.size,0,none⟩=some (.slice none 0 0):=by rw [Lib.cell_of_heap h1];rfl
 have c2:w2.cell? ⟨w.heap.size+1,0,none⟩=some (.int .i64 0):=by rw [Lib.cell_of_heap h2];rfl
 have f1:w2.frozen? ⟨w.heap.size,0,none⟩=false:=Lib.frozen_of_heap h1 _
 have f2:w2.frozen? ⟨w.heap.size+1,0,none⟩=false:=Lib.frozen_of_heap h2 _
 go_wp2
 have hne:w.heap.size≠w.heap.size+1:=by omega
 have g1:((w2.setCell ⟨w.heap.size,0,none⟩ (.slice p n c)).setCell ⟨w.heap.size+1,0,none⟩ (.int .i64 0)).heap[w.heap.size]? = some (.cells #[.slice p n c] 61 (0,0)):=
  (Below.heap_setCell _ ⟨w.heap.size+1,0,none⟩ _ _ hne).trans ((Lib.heap_setCell_same (i:=0) h1 (.slice p n c)).trans rfl)
 have g2:((w2.setCell ⟨w.heap.size,0,none⟩ (.slice p n c)).setCell ⟨w.heap.size+1,0,none⟩ (.int .i64 0)).heap[w.heap.size+1]? = some (.cells #[.int .i64 0] 35 (0,0)):=
  (Lib.heap_setCell_same (i:=0) ((Below.heap_setCell w2 ⟨w.heap.size,0,none⟩ _ _ (fun h=>hne h.symm)).trans h2) (.int .i64 0)).trans rfl
 have d1:((w2.setCell ⟨w.heap.size,0,none⟩ (.slice p n c)).setCell ⟨w.heap.size+1,0,none⟩ (.int .i64 0)).cell? ⟨w.heap.size,0,none⟩=some (.slice p n c):=by rw [Lib.cell_of_heap g1];rfl
 have d2:((w2.setCell ⟨w.heap.size,0,none⟩ (.slice p n c)).setCell ⟨w.heap.size+1,0,none⟩ (.int .i64 0)).cell? ⟨w.heap.size+1,0,none⟩=some (.int .i64 0):=by rw [Lib.cell_of_heap g2];rfl
 refine leaves_cons (f:=135) (args:=#[.pointer (some ⟨w.heap.size,0,none⟩),.pointer (some ⟨w.heap.size+1,0,none⟩)]) (by simp) (by simp [go_sem]) ?_
 refine (JRu ⟨w.heap.size,0,none⟩ ⟨w.heap.size+1,0,none⟩ _).mono ?_
 rintro e u' w'' ⟨rfl,rfl,rfl⟩
 generalize hW:(w2.setCell ⟨w.heap.size,0,none⟩ (.slice p n c)).setCell ⟨w.heap.size+1,0,none⟩ (.int .i64 0)=W at d1 d2 ⊢
 simp [Leaves,settle,results,Tryz.results90,go_sem,d1,d2]
 exact ⟨_,w2,hG,rfl,hW.symm⟩
theorem JTb (x:Value)(w:World)(G:World→Prop)
  (hf:Calls Tryz.prog 91 #[x] ((w.alloc (.cells #[.slice none 0 0] 61)).alloc (.cells #[.int .i64 0] 35)) fun e w'=>e=.panicked (Zh Jf)∧G w' ∧
   w'.heap[w.heap.size]? = some (.cells #[.slice none 0 0] 61 (0,0))∧w'.heap[w.heap.size+1]? = some (.cells #[.int .i64 0] 35 (0,0))) :
  Calls Tryz.prog 90 #[.func (.func 91) #[] #[x]] w fun e w'=>∃w2,G w2∧e=.returned (.tuple #[.slice none 0 0,.int .i64 8])∧w'=(((w2.setCell ⟨w.heap.size,0,none⟩ (.slice none 0 0)).setCell ⟨w.heap.size+1,0,none⟩ (.int .i64 8)).alloc (.cells #[.int .i64 8] 172)).drew:=by
 have hmf:∀(fn:Fn) (first cap:Array Value) (w:World),(Instr.makeFunc fn first cap).run Tryz.prog w=.ok (.func fn first cap) w:=fun _ _ _ _=>rfl
 go_enter_defers Tryz.func90,Tryz.ntmps90
 go_wp2_with (go_at_call 91;refine hf.mono ?_)
 rintro e w2 ⟨rfl,hG,h1,h2⟩
 go_wp2
 have hne:w.heap.size≠w.heap.size+1:=by omega
 have hl2:=(Array.getElem?_eq_some_iff.1 h2).1
 have g1:((w2.setCell ⟨w.heap.size,0,none⟩ (.slice none 0 0)).setCell ⟨w.heap.size+1,0,none⟩ (.int .i64 8)).heap[w.heap.size]? = some (.cells #[.slice none 0 0] 61 (0,0)):=
  (Below.heap_setCell _ ⟨w.heap.size+1,0,none⟩ _ _ hne).trans ((Lib.heap_setCell_same (i:=0) h1 (.slice none 0 0)).trans rfl)
 have g2:((w2.setCell ⟨w.heap.size,0,none⟩ (.slice none 0 0)).setCell ⟨w.heap.size+1,0,none⟩ (.int .i64 8)).heap[w.heap.size+1]? = some (.cells #[.int .i64 8] 35 (0,0)):=
  (Lib.heap_setCell_same (i:=0) ((Below.heap_setCell w2 ⟨w.heap.size,0,none⟩ _ _ (fun h=>hne h.symm)).trans h2) (.int .i64 8)).trans rfl
 have hs:((w2.setCell ⟨w.heap.size,0,none⟩ (.slice none 0 0)).setCell ⟨w.heap.size+1,0,none⟩ (.int .i64 8)).heap.size=w2.heap.size:=by rw [ZA,ZA]
 refine leaves_cons (f:=135) (args:=#[.pointer (some ⟨w.heap.size,0,none⟩),.pointer (some ⟨w.heap.size+1,0,none⟩)]) (by simp) (by simp [go_sem]) ?_
 refine (JVl w.heap.size (w.heap.size+1) w2 h1 h2 hne).mono ?_
 rintro e u' w'' ⟨rfl,rfl,rfl⟩
 generalize hW:(w2.setCell ⟨w.heap.size,0,none⟩ (.slice none 0 0)).setCell ⟨w.heap.size+1,0,none⟩ (.int .i64 8)=W at g1 g2 hs ⊢
 have k1:(W.alloc (.cells #[.int .i64 8] 172)).drew.heap[w.heap.size]? = some (.cells #[.slice none 0 0] 61 (0,0)):=(Below.heap_alloc W _ _ (by omega)).trans g1
 have k2:(W.alloc (.cells #[.int .i64 8] 172)).drew.heap[w.heap.size+1]? = some (.cells #[.int .i64 8] 35 (0,0)):=(Below.heap_alloc W _ _ (by omega)).trans g2
 have d1:(W.alloc (.cells #[.int .i64 8] 172)).drew.cell? ⟨w.heap.size,0,none⟩=some (.slice none 0 0):=by rw [Lib.cell_of_heap k1];rfl
 have d2:(W.alloc (.cells #[.int .i64 8] 172)).drew.cell? ⟨w.heap.size+1,0,none⟩=some (.int .i64 8):=by rw [Lib.cell_of_heap k2];rfl
 generalize hV:(W.alloc (.cells #[.int .i64 8] 172)).drew=V at d1 d2 ⊢
 simp [Leaves,settle,results,Tryz.results90,go_sem,d1,d2]
 trace_state
 exact ⟨w2,hG,by rw [hW,hV]⟩
end Go.Mw
namespace Go.Mw
open Go.Proofs
open Go.Bk
attribute [local go_sem] decide_true beq_self_eq_true bne_self_eq_false
theorem JTe:JGJ Tryz.prog 90 91 61 35:=fun x w G h=>JTa x w G h
theorem JTh:JGK Tryz.prog 90 91 Jf 61 35 172:=fun x w G h=>JTb x w G h
theorem JQc (b:Bs)(hb:b.length≤3000):Jb Tryz.prog 90 [.leaf (.d (.fn 91 [.pt [.raw (.string (bs b))]]))] (rsE (JBQ b)) []:=by
 cases h:JBQ b with
 |some l=>exact JId JTe (fun _ _ _ h=>JJ5 h) (JQZ hb h)
 |none=>exact JIe JTh (fun _ _=>RepD.nil _ _ _) (JSv hb h)
theorem JPm (b:Bs)(hb:b.length≤3000):Jb Tryz.prog 36 [.str b] (rsE (JBQ b)) []:=by
 have hcr:=JQc b hb
 generalize JBQ b=q at hcr ⊢
 rcases q with _|l
 ·skip
  dsimp only [rsE] at hcr ⊢
  refine Jq Jd Tryz.func36 rfl (by simp only [List.length_cons,List.length_nil,Tryz.ntmps36];omega) JH rfl ?_
  refine JB.reg ?_
  iterate 3 (refine JA.o ?_)
  refine JA.nil (JB.reg ?_)
  refine JA.frz 1 JD ?_
  refine JA.o ?_
  refine JA.frz 4 JD ?_
  refine JA.c1 (hcr) JD JD ?_
  iterate 4 (refine JA.o ?_)
  refine JA.nil ?_
  exact Ends.fin [] (rs:=[.tmp 2,.tmp 3]) rfl JD Yn
 ·skip
  dsimp only [rsE] at hcr ⊢
  refine Jq Jd Tryz.func36 rfl (by simp only [List.length_cons,List.length_nil,Tryz.ntmps36];omega) JH rfl ?_
  refine JB.reg ?_
  iterate 3 (refine JA.o ?_)
  refine JA.nil (JB.reg ?_)
  refine JA.frz 1 JD ?_
  refine JA.o ?_
  refine JA.frz 4 JD ?_
  refine JA.c1 (hcr) JD JD ?_
  iterate 4 (refine JA.o ?_)
  refine JA.nil ?_
  exact Ends.fin [] (rs:=[.tmp 2,.tmp 3]) rfl JD Yn
theorem JPq (a b:List Sh)(ha:a.length≤1000000)(hb:b.length≤1000000)(hz:∀x∈a,x.tries.length≤1000000):Jb Tryz.prog 34 [.leaf (.d (Z7 a)),.leaf (.d (Z7 b))] (.bool (decide (a=b))) []:=by
 refine Jq Jd Tryz.func34 rfl (by simp only [List.length_cons,List.length_nil,Tryz.ntmps34];omega) JH rfl ?_
 refine JB.reg ?_
 refine JA.o ?_
 refine JA.nil (JB.assocS (JB.reg ?_))
 iterate 5 (refine JA.o ?_)
 refine JA.nil ?_
 refine JB.cndS JD (fun hb11=>?_) (fun hb11=>?_)
 ·skip
  have hne:¬a=b:=fun h=>by subst h;simp at hb11
  have hr:decide (a=b)=false:=decide_eq_false hne
  refine JB.assocS (JB.reg ?_)
  have X:=Fx.mk hr
  refine JA.o1 JC ?_
  refine JA.nil (JB.retS ?_)
  exact Ends.fin [] (rs:=[.tmp 4]) rfl JC Qp
 ·skip
  have hll:a.length=b.length:=by simp at hb11;omega
  refine JB.skipS (JB.assocS (JB.reg ?_))
  refine JA.o ?_
  refine JA.nil (JB.blk ?_)
  refine JB.forA [0,1,5] [] (a.length) (fun k=>[.slot 5 (.int k)]) (fun k=>a.take k=b.take k) (fun k=>by simp only [go_sem]<;>rfl) JCV ?_ (fun k hk hX=>?_)
  ·rfl
  ·skip
   refine JB.assocS (JB.reg ?_)
   iterate 4 (refine JA.o ?_)
   refine JA.nil ?_
   refine JB.cndS JD (fun hb15=>?_) (fun hb15=>?_)
   ·skip
    have hlt:=Yj hb15
    obtain ⟨x,hx⟩:=Yh hb15
    obtain ⟨y,hy⟩:∃y,b[k]? = some y:=⟨_,List.getElem?_eq_getElem (by omega)⟩
    have hxz:=hz x (List.mem_of_getElem? hx)
    refine JB.skipS (JB.blk (JB.assocS ?_))
    by_cases hh:x.meter=y.meter
    ·skip
     have q1:(x.meter != y.meter)=false:=by simp [hh]
     refine JB.opk 28 ?_
     have X:=((Fx.mk hx).a hy).a q1
     iterate 2 (refine JF.o1 JC ?_)
     refine JF.o1 QQ ?_
     iterate 4 (refine JF.o1 JC ?_)
     refine JF.o1 QQ ?_
     iterate 4 (refine JF.o1 JC ?_)
     iterate 2 (refine JF.y1 JC ?_)
     refine JF.y1 QQ ?_
     iterate 5 (refine JF.y1 JC ?_)
     refine JF.y1 QQ ?_
     iterate 4 (refine JF.y1 JC ?_)
     refine JF.o1 JC ?_
     refine JF.nil (QW.finT JH JH JH ?_)
     refine JB.cndS JC (fun hb43=>?_) (fun hb43=>?_)
     ·skip
      have hne:¬a=b:=fun h=>by subst h;rw [hx] at hy;cases hy;simp at hb43
      have hr:decide (a=b)=false:=decide_eq_false hne
      refine JB.assocS (JB.reg ?_)
      have X:=X.a hr
      refine JA.o1 JC ?_
      refine JA.nil (JB.retS (JP.ret (JV.ret (JP.ret ?_))))
      exact Ends.fin [] (rs:=[.tmp 4]) rfl JC Qp
     ·skip
      have hrl:x.tries.length=y.tries.length:=by simp at hb43;omega
      refine JB.skipS (JB.reg ?_)
      refine JA.o1 JC ?_
      refine JA.nil (JB.blk1 ?_)
      refine JB.forA [0,1,5,6] [] (x.tries.length) (fun j=>[.slot 6 (.int j)]) (fun j=>x.tries.take j=y.tries.take j) (fun j=>by simp only [go_sem]<;>rfl) JGW ?_ (fun j hj Xj=>?_)
      ·rfl
      ·skip
       refine JB.assocS (JB.reg ?_)
       iterate 3 (refine JA.o1 JC ?_)
       refine JA.o1 QQ ?_
       iterate 4 (refine JA.o1 JC ?_)
       refine JA.nil ?_
       refine JB.cndS JC (fun hb51=>?_) (fun hb51=>?_)
       ·skip
        have hlt2:=Yj hb51
        obtain ⟨n,hn⟩:=Yh hb51
        obtain ⟨m,hm⟩:∃m,y.tries[j]? = some m:=⟨_,List.getElem?_eq_getElem (by omega)⟩
        refine JB.skipS (JB.blk ?_)
        refine JB.opk 19 ?_
        have X:=(X.a hn).a hm
        iterate 2 (refine JF.o1 JBV ?_)
        refine JF.o1 V43 ?_
        iterate 3 (refine JF.o1 JBV ?_)
        refine JF.o1 V43 ?_
        iterate 3 (refine JF.o1 JBV ?_)
        refine JF.o1 V43 ?_
        iterate 3 (refine JF.o1 JBV ?_)
        refine JF.o1 V43 ?_
        iterate 2 (refine JF.o1 JBV ?_)
        refine JF.nil (QW.finT JH JH JH ?_)
        refine JB.cnd JBV (fun hb70=>?_) (fun hb70=>?_)
        ·skip
         have hne:¬a=b:=fun h=>by subst h;rw [hx] at hy;cases hy;rw [hn] at hm;cases hm;simp at hb70
         have hr:decide (a=b)=false:=decide_eq_false hne
         refine JB.reg ?_
         have X:=X.a hr
         refine JA.o1 JBV ?_
         refine JA.nil (JP.ret (JV.ret (Q5.ret (JP.ret (JV.ret (JP.ret ?_))))))
         exact Ends.fin [] (rs:=[.tmp 4]) rfl JBV (by simp only [go_sem,X.h,Nat.zero_mul,List.drop_zero,Int.toNat_zero]<;>first|rfl|exact QV)
        ·skip
         have hnm:n=m:=by
          obtain ⟨n1,n2,n3⟩:=n
          obtain ⟨m1,m2,m3⟩:=m
          simp at hb70
          rw [Tr.mk.injEq]
          omega
         subst hnm
         refine JP.nrm (JB.reg1 ?_)
         refine JA.o1 JBV ?_
         refine JA.o1 (by simp only [go_sem,X.h,Nat.zero_mul,List.drop_zero,Int.toNat_zero];(try simp (disch:=omega) only [IntWalk.i64_in,IntWalk.u64_in,IntWalk.i32_in,IntWalk.u8_in,if_neg,if_pos])<;> rfl) ?_
         refine JA.o1 JBV ?_
         refine JA.nil ?_
         refine JV.nxt ?_ ?_ ?_
         ·omega
         ·exact JO.kp [0,1,5,6] [] (by simp only [go_sem,X.h,Nat.zero_mul,List.drop_zero,Int.toNat_zero]<;>first|exact QV|rfl)
         ·exact JF3 hn hm Xj
       ·skip
        have hre:=JF2 hrl (Yi hb51) Xj
        have hxy:x=y:=by
         obtain ⟨x1,x2⟩:=x
         obtain ⟨y1,y2⟩:=y
         simp only at hh hre
         subst hh hre;rfl
        subst hxy
        refine JB.exitS (JV.ext (Q5.hit (JP.nrm (JB.reg1 ?_))))
        refine JA.o1 JC ?_
        refine JA.o1 QC ?_
        refine JA.o1 JC ?_
        refine JA.nil ?_
        refine JV.nxt ?_ ?_ ?_
        ·omega
        ·exact JO.kp [0,1,5] [] Zl
        ·exact JF3 hx hy hX
    ·skip
     have q1:(x.meter != y.meter)=true:=by simp [hh]
     refine JB.opk 28 ?_
     have X:=((Fx.mk hx).a hy).a q1
     iterate 2 (refine JF.o1 JC ?_)
     refine JF.o1 QQ ?_
     iterate 4 (refine JF.o1 JC ?_)
     refine JF.o1 QQ ?_
     iterate 4 (refine JF.o1 JC ?_)
     iterate 13 (refine JF.s ?_)
     refine JF.o1 JC ?_
     refine JF.nil (QW.finT JH JH JH ?_)
     refine JB.cndS JC (fun hb43=>?_) (fun hb43=>?_)
     ·skip
      have hne:¬a=b:=fun h=>by subst h;rw [hx] at hy;cases hy;exact hh rfl
      have hr:decide (a=b)=false:=decide_eq_false hne
      refine JB.assocS (JB.reg ?_)
      have X:=X.a hr
      refine JA.o1 JC ?_
      refine JA.nil (JB.retS (JP.ret (JV.ret (JP.ret ?_))))
      exact Ends.fin [] (rs:=[.tmp 4]) rfl JC Qp
     ·exact absurd hb43 (by simp)
   ·skip
    have heq:=JF2 hll (Yi hb15) hX
    have hr:decide (a=b)=true:=decide_eq_true heq
    refine JB.exitS (JV.ext (JP.hit (JB.reg ?_)))
    have X:=Fx.mk hr
    refine JA.o1 JC ?_
    refine JA.nil ?_
    exact Ends.fin [] (rs:=[.tmp 4]) rfl JC Qp
end Go.Mw
namespace Go.Bk
def JPA (n:Nat):Bits:=Jc (bl n) n
end Go.Bk
namespace Go.Mw
open Go.Proofs
open Go.Bk
attribute [local go_sem] decide_true beq_self_eq_true bne_self_eq_false
attribute [local irreducible] Jc YF JPA Y8
end Go.Mw
namespace Go.Mw
open Go.Proofs
open Go.Bk
attribute [local go_sem] decide_true beq_self_eq_true bne_self_eq_false
theorem JQe (l:List Pl)(hl:l.length≤1000):Jb Tryz.prog 39 [.leaf (.d (JAU l))] (.int (ZL l)) []:=by
 have hpe:ZL l=Zp l.length 60 (l.all YR) (Qv (l.map Pl.num)):=rfl
 refine Jq Jd Tryz.func39 rfl (by simp only [List.length_cons,List.length_nil,Tryz.ntmps39];omega) JH rfl ?_
 refine JB.reg ?_
 refine JA.o ?_
 refine JA.nil (JB.assocS (JB.reg ?_))
 iterate 3 (refine JA.o ?_)
 refine JA.nil ?_
 refine JB.cndS JD (fun hb7=>?_) (fun hb7=>?_)
 ·skip
  have h1:60<l.length:=by have:=of_decide_eq_true hb7;omega
  have hr:=JCo (l.all YR) (Qv (l.map Pl.num)) h1
  refine JB.assocS (JB.reg ?_)
  have X:=(Fx.mk hpe).a hr
  refine JA.o1 JC ?_
  refine JA.nil (JB.retS ?_)
  exact Ends.fin [] (rs:=[.tmp 2]) rfl JC Qp
 ·skip
  have hle:l.length≤60:=by have:=of_decide_eq_false hb7;omega
  refine JB.skipS (JB.assocS (JB.reg ?_))
  refine JA.o ?_
  refine JA.nil (JB.blk ?_)
  refine JB.forA [0,3] [] (l.length) (fun k=>[.slot 3 (.int k)]) (fun k=>(l.take k).all YR=true) (fun k=>by simp only [go_sem]<;>rfl) JCV ?_ (fun k hk hX=>?_)
  ·rfl
  ·skip
   refine JB.assocS (JB.reg ?_)
   iterate 4 (refine JA.o ?_)
   refine JA.nil ?_
   refine JB.cndS JD (fun hb11=>?_) (fun hb11=>?_)
   ·skip
    have hlt:=Yj hb11
    obtain ⟨x,hx⟩:=Yh hb11
    refine JB.skipS (JB.blk ?_)
    by_cases g1:Qj x.num 1 65535=true
    ·skip
     by_cases g2:Qj x.cls 0 7=true
     ·skip
      by_cases g3:Qj x.day 0 131072=true
      ·skip
       refine JB.reg ?_
       have X:=(((Fx.mk hx).a g1).a g2).a g3
       iterate 2 (refine JA.o1 ZF ?_)
       refine JA.o1 V46 ?_
       iterate 2 (refine JA.o1 ZF ?_)
       refine JA.c1 (Yz x.num 1 65535) ZF ZF ?_
       iterate 2 (refine JA.o1 ZF ?_)
       iterate 2 (refine JA.y1 ZF ?_)
       refine JA.y1 V46 ?_
       iterate 2 (refine JA.y1 ZF ?_)
       refine JA.calw JD (Yz x.cls 0 7) JW ZF ZF Zb (QZ) ZF ?_
       refine JA.y1 ZF ?_
       iterate 2 (refine JA.o1 ZF ?_)
       iterate 2 (refine JA.y1 ZF ?_)
       refine JA.y1 V46 ?_
       iterate 2 (refine JA.y1 ZF ?_)
       refine JA.calw JD (Yz x.day 0 131072) JW ZF ZF Zb (QZ) ZF ?_
       refine JA.y1 ZF ?_
       refine JA.o1 ZF ?_
       refine JA.nil ?_
       refine JB.cnd ZF (fun hb38=>?_) (fun hb38=>?_)
       ·exact absurd hb38 (by simp)
       ·skip
        have hok:YR x=true:=by unfold YR;rw [g1,g2,g3];rfl
        refine JP.nrm (JB.reg1 ?_)
        refine JA.o1 ZF ?_
        refine JA.o1 (by simp only [go_sem,X.h,Bool.not_true,Bool.not_true,Bool.not_true];(try simp (disch:=omega) only [IntWalk.i64_in,IntWalk.u64_in,IntWalk.i32_in,IntWalk.u8_in,if_neg,if_pos])<;> rfl) ?_
        refine JA.o1 ZF ?_
        refine JA.nil ?_
        refine JV.nxt ?_ ?_ ?_
        ·omega
        ·exact JO.kp [0,3] [] (by simp only [go_sem,X.h,Bool.not_true,Bool.not_true,Bool.not_true]<;>first|exact QV|rfl)
        ·exact by rw [ZN hx,List.all_append,hX];simp [hok]
      ·skip
       have g3:Qj x.day 0 131072=false:=by simpa using g3
       refine JB.reg ?_
       have X:=(((Fx.mk hx).a g1).a g2).a g3
       iterate 2 (refine JA.o1 YA ?_)
       refine JA.o1 V44 ?_
       iterate 2 (refine JA.o1 YA ?_)
       refine JA.c1 (Yz x.num 1 65535) YA YA ?_
       iterate 2 (refine JA.o1 YA ?_)
       iterate 2 (refine JA.y1 YA ?_)
       refine JA.y1 V44 ?_
       iterate 2 (refine JA.y1 YA ?_)
       refine JA.calw JD (Yz x.cls 0 7) JW YA YA Zb (QZ) YA ?_
       refine JA.y1 YA ?_
       iterate 2 (refine JA.o1 YA ?_)
       iterate 2 (refine JA.y1 YA ?_)
       refine JA.y1 V44 ?_
       iterate 2 (refine JA.y1 YA ?_)
       refine JA.calw JD (Yz x.day 0 131072) JW YA YA Zb (QZ) YA ?_
       refine JA.y1 YA ?_
       refine JA.o1 YA ?_
       refine JA.nil ?_
       refine JB.cnd YA (fun hb38=>?_) (fun hb38=>?_)
       ·skip
        have hbad:YR x=false:=by unfold YR;simp [g1,g2,g3]
        have hna:l.all YR=false:=by
         cases h:l.all YR with
         |false=>rfl
         |true=>have:=JCZ h hx;rw [hbad] at this;cases this
        have hr:=JAI (Qv (l.map Pl.num)) hle
        refine JB.reg ?_
        have X:=((X.a hpe).a hna).a hr
        refine JA.o1 YA ?_
        refine JA.nil (JP.ret (JV.ret (JP.ret ?_)))
        exact Ends.fin [] (rs:=[.tmp 2]) rfl YA (by simp only [go_sem,X.h,Bool.not_true,Bool.not_true,Bool.not_false]<;>first|rfl|exact QV)
       ·exact absurd hb38 (by simp)
     ·skip
      have g2:Qj x.cls 0 7=false:=by simpa using g2
      refine JB.reg ?_
      have X:=((Fx.mk hx).a g1).a g2
      iterate 2 (refine JA.o1 YL ?_)
      refine JA.o1 V58 ?_
      iterate 2 (refine JA.o1 YL ?_)
      refine JA.c1 (Yz x.num 1 65535) YL YL ?_
      iterate 2 (refine JA.o1 YL ?_)
      iterate 2 (refine JA.y1 YL ?_)
      refine JA.y1 V58 ?_
      iterate 2 (refine JA.y1 YL ?_)
      refine JA.calw JD (Yz x.cls 0 7) JW YL YL Zb (QZ) YL ?_
      refine JA.y1 YL ?_
      iterate 2 (refine JA.o1 YL ?_)
      iterate 7 (refine JA.s ?_)
      refine JA.o1 YL ?_
      refine JA.nil ?_
      refine JB.cnd YL (fun hb38=>?_) (fun hb38=>?_)
      ·skip
       have hbad:YR x=false:=by unfold YR;simp [g1,g2]
       have hna:l.all YR=false:=by
        cases h:l.all YR with
        |false=>rfl
        |true=>have:=JCZ h hx;rw [hbad] at this;cases this
       have hr:=JAI (Qv (l.map Pl.num)) hle
       refine JB.reg ?_
       have X:=((X.a hpe).a hna).a hr
       refine JA.o1 YL ?_
       refine JA.nil (JP.ret (JV.ret (JP.ret ?_)))
       exact Ends.fin [] (rs:=[.tmp 2]) rfl YL JH2
      ·exact absurd hb38 (by simp)
    ·skip
     have g1:Qj x.num 1 65535=false:=by simpa using g1
     refine JB.reg ?_
     have X:=(Fx.mk hx).a g1
     iterate 2 (refine JA.o1 YN ?_)
     refine JA.o1 V79 ?_
     iterate 2 (refine JA.o1 YN ?_)
     refine JA.c1 (Yz x.num 1 65535) YN YN ?_
     iterate 2 (refine JA.o1 YN ?_)
     iterate 7 (refine JA.s ?_)
     iterate 2 (refine JA.o1 YN ?_)
     iterate 7 (refine JA.s ?_)
     refine JA.o1 YN ?_
     refine JA.nil ?_
     refine JB.cnd YN (fun hb38=>?_) (fun hb38=>?_)
     ·skip
      have hbad:YR x=false:=by unfold YR;simp [g1]
      have hna:l.all YR=false:=by
       cases h:l.all YR with
       |false=>rfl
       |true=>have:=JCZ h hx;rw [hbad] at this;cases this
      have hr:=JAI (Qv (l.map Pl.num)) hle
      refine JB.reg ?_
      have X:=((X.a hpe).a hna).a hr
      refine JA.o1 YN ?_
      refine JA.nil (JP.ret (JV.ret (JP.ret ?_)))
      exact Ends.fin [] (rs:=[.tmp 2]) rfl YN JH3
     ·exact absurd hb38 (by simp)
   ·skip
    have hall:l.all YR=true:=by have:=Yi hb11;rw [List.take_of_length_le this] at hX;exact hX
    refine JB.exitS (JV.ext (JP.hit (JB.assocS (JB.reg ?_))))
    refine JA.o ?_
    refine JA.nil (JB.blk ?_)
    refine JB.forA [0,4] [] (l.length) (fun j=>[.slot 4 (.int (1+(j:Int)))]) (fun j=>JAg (l.map Pl.num) (1+j)) (fun j=>by simp only [go_sem]<;>rfl) JH6 ?_ (fun j hj Xj=>?_)
    ·exact JCL _
    ·skip
     refine JB.assocS (JB.reg ?_)
     iterate 4 (refine JA.o ?_)
     refine JA.nil ?_
     refine JB.cndS JD (fun hb42=>?_) (fun hb42=>?_)
     ·skip
      have hjl:1+j<l.length:=by have:=of_decide_eq_true hb42;omega
      obtain ⟨x,hx⟩:∃x,l[1+j]? = some x:=⟨_,List.getElem?_eq_getElem hjl⟩
      obtain ⟨y,hy⟩:∃y,l[1+j-1]? = some y:=⟨_,List.getElem?_eq_getElem (by omega)⟩
      have hy2:l[j]? = some y:=by rw [←hy];congr 1;omega
      have t1:((1:Int)+(j:Int)-1).toNat=j:=by omega
      have t2:((1:Int)+(j:Int)).toNat=1+j:=by omega
      refine JB.skipS (JB.blk ?_)
      refine JB.opk 14 ?_
      have X:=(((Fx.mk hx).a hy2).a t1).a t2
      iterate 2 (refine JF.o1 JC ?_)
      refine JF.o1 QQ ?_
      iterate 4 (refine JF.o1 JC ?_)
      refine JF.o1 QC ?_
      refine JF.o1 QQ ?_
      iterate 3 (refine JF.o1 JC ?_)
      refine JF.nil (QW.fin J4 J4 ?_)
      refine JB.cnd JC (fun hb56=>?_) (fun hb56=>?_)
      ·skip
       have hno:=JEd (f:=Pl.num) (k:=1+j) (by omega) hx hy (by have:=of_decide_eq_true hb56;omega)
       have hr:=JED hle
       refine JB.reg ?_
       have X:=(((X.a hpe).a hall).a hno).a hr
       refine JA.o1 JC ?_
       refine JA.nil (JP.ret (JV.ret (JP.ret ?_)))
       exact Ends.fin [] (rs:=[.tmp 2]) rfl JC Qp
      ·skip
       refine JP.nrm (JB.reg1 ?_)
       refine JA.o1 JC ?_
       refine JA.o1 QC ?_
       refine JA.o1 JC ?_
       refine JA.nil ?_
       refine JV.nxt ?_ ?_ ?_
       ·omega
       ·exact JO.kp [0,4] [] Zl
       ·exact JCM Xj hx hy (by have:=of_decide_eq_false hb56;omega)
     ·skip
      have hno:=JEc Xj (by have:=of_decide_eq_false hb42;omega)
      have hr:=JEC hle
      refine JB.exitS (JV.ext (JP.hit (JB.reg ?_)))
      have X:=(((Fx.mk hpe).a hall).a hno).a hr
      refine JA.o1 JC ?_
      refine JA.nil ?_
      exact Ends.fin [] (rs:=[.tmp 2]) rfl JC Qp
end Go.Mw

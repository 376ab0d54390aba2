/- How the document cuts a text at a byte, byte by byte; plain laws, no program in sight. -/
import Derived.Test.YtpmdcdglfeicaaaGreatDoorD1
import Derived.Test.YtpmdcdglfeicaaaGreatDoorB6
import Derived.Test.YtpmdcdglfeicaaaGreatDoorB4
import Derived.Test.YtpmdcdglfeicaaaGreatDoorB10
import Derived.Test.YtpmdcdglfeicaaaGreatDoorB9
set_option maxRecDepth 20000
set_option maxHeartbeats 16000000
set_option linter.unusedSimpArgs false
set_option linter.unusedVariables false
set_option linter.unusedSectionVars false
set_option linter.deprecated false
namespace Go.Bk
def Yi (c:UInt8)(s:Bs):Nat→List Bs × Nat
 |0=>([],0)
 |i+1=>if i=s.length∨s[i]? = some c then ((Yi c s i).1++[(s.drop (Yi c s i).2).take (i-(Yi c s i).2)],i+1) else Yi c s i
theorem JG2 {c:UInt8}{s:Bs}{i:Nat}(h:i=s.length∨s[i]? = some c):Yi c s (i+1)=((Yi c s i).1++[(s.drop (Yi c s i).2).take (i-(Yi c s i).2)],i+1):=by rw [Yi,if_pos h]
theorem JLo {c:UInt8}{s:Bs}{i:Nat}(h:¬(i=s.length∨s[i]? = some c)):Yi c s (i+1)=Yi c s i:=by rw [Yi,if_neg h]
theorem JG1 (c:UInt8)(s:Bs):∀i,(Yi c s i).2≤i∧(Yi c s i).1.length≤i
 |0=>by simp [Yi]
 |i+1=>by
  have:=JG1 c s i
  rw [Yi]
  split
  ·simp;omega
  ·omega
theorem JLn (c:UInt8)(s:Bs):∀i,i≤s.length→(∀k,(Yi c s i).2≤k→k<i→s[k]?≠some c)∧Jt c s=(Yi c s i).1++Jt c (s.drop (Yi c s i).2)
 |0,_=>⟨fun k _ h=>by omega,by simp [Yi]⟩
 |i+1,hi=>by
  obtain ⟨h1,h2⟩:=JLn c s i (by omega)
  by_cases h:i=s.length∨s[i]? = some c
  ·rw [JG2 h]
   refine ⟨fun k ha hb=>by simp only at ha;omega,?_⟩
   have hc:s[i]? = some c:=by rcases h with h|h;omega;exact h
   have hb:=(JG1 c s i).1
   obtain ⟨f,hf⟩:∃f,(Yi c s i).2=f:=⟨_,rfl⟩
   rw [hf] at h1 h2 hb ⊢
   have hd:s.drop f=(s.drop f).take (i-f)++c::s.drop (i+1):=by
    have h3:(s.drop f).drop (i-f)=c::s.drop (i+1):=by
     rw [List.drop_drop,show f+(i-f)=i by omega]
     obtain ⟨hl,hg⟩:=List.getElem?_eq_some_iff.1 hc
     rw [←hg,List.getElem_cons_drop]
    rw [←h3,List.take_append_drop]
   have hn:c ∉ (s.drop f).take (i-f):=fun hm=>by
    obtain ⟨k,hk⟩:=List.getElem?_of_mem hm
    have hkl:k<i-f:=by
     have:=(List.getElem?_eq_some_iff.1 hk).1
     rw [List.length_take] at this;omega
    rw [List.getElem?_take,if_pos hkl,List.getElem?_drop] at hk
    exact h1 (f+k) (by omega) (by omega) hk
   have hcut:Jt c (s.drop f)=(s.drop f).take (i-f)::Jt c (s.drop (i+1)):=by
    conv=>lhs;rw [hd]
    rw [JCA c _ _ hn]
   rw [h2,hcut]
   show _=((Yi c s i).1++[(s.drop f).take (i-f)])++Jt c (s.drop (i+1))
   rw [List.append_assoc];rfl
  ·rw [JLo h]
   refine ⟨fun k ha hb=>?_,h2⟩
   by_cases hk:k=i
   ·subst hk;exact fun e=>h (.inr e)
   ·exact h1 k ha (by omega)
theorem JRI (c:UInt8)(s:Bs):(Yi c s (s.length+1)).1=Jt c s:=by
 obtain ⟨h1,h2⟩:=JLn c s s.length (Nat.le_refl _)
 rw [JG2 (.inl rfl),h2]
 have hb:=(JG1 c s s.length).1
 obtain ⟨f,hf⟩:∃f,(Yi c s s.length).2=f:=⟨_,rfl⟩
 rw [hf] at h1 hb ⊢
 have hn:c ∉ s.drop f:=fun hm=>by
  obtain ⟨k,hk⟩:=List.getElem?_of_mem hm
  have hkl:=(List.getElem?_eq_some_iff.1 hk).1
  rw [List.length_drop] at hkl
  rw [List.getElem?_drop] at hk
  exact h1 (f+k) (by omega) (by omega) hk
 rw [JBm c _ hn]
 show _++[(s.drop f).take (s.length-f)]=_
 rw [List.take_of_length_le (by rw [List.length_drop];omega)]
theorem JRh (s:Bs)(f i:Nat):(s.take i).drop f=(s.drop f).take (i-f):=by rw [List.drop_take]
end Go.Bk
namespace Go.Mw
open Go.Proofs
open Go.Bk
attribute [local go_sem] decide_true beq_self_eq_true bne_self_eq_false
theorem JSZ (m a:Nat):JAp true (m:Int) (a:Int)=((min m a:Nat):Int):=by
 simp only [JAp,cond_true]
 split<;>omega
theorem JSY (a:Nat):JAp true 1099511627776 (a:Int)=((min 1099511627776 a:Nat):Int):=JSZ 1099511627776 a
theorem JVd {c:UInt8}(n:Nat)(h:YU c=true):vst n c=min 1099511627776 (10*n+(c.toNat-48)):=by unfold vst;rw [if_pos h,show (2:Nat)^40=1099511627776 by decide]
theorem JOt {c:UInt8}(n:Nat)(h:YU c=false):vst n c=n:=by unfold vst;rw [if_neg (by simp [h])]
theorem JGu (s:Bs)(hs:s.length≤1000000000):Jb Tryz.prog 87 [.str s] (.int (YM s)) []:=by
 have hv0:YM []=0:=rfl
 refine Js Jf Tryz.func87 rfl (by simp only [List.length_cons,List.length_nil,Tryz.ntmps87];omega) JJ rfl ?_
 refine JB.reg ?_
 refine JA.o ?_
 refine JA.nil (JB.reg ?_)
 refine JA.o ?_
 refine JA.nil (JB.assocS (JB.reg ?_))
 refine JA.o ?_
 refine JA.nil (JB.blk ?_)
 have X:=Fx.mk hv0
 refine JB.forA [0,3,4] [] (s.length) (fun k=>[.slot 3 (.int (YM (s.take k))),.slot 4 (.int k)]) (fun _=>True) (fun k=>by simp only [go_sem]<;>rfl) JIE ?_ (fun k hk hX=>?_)
 ·trivial
 ·skip
  refine JB.assocS (JB.reg ?_)
  iterate 4 (refine JA.o ?_)
  refine JA.nil ?_
  refine JB.cndS JD (fun hb8=>?_) (fun hb8=>?_)
  ·skip
   have hlt:k<s.length:=by simpa using hb8
   obtain ⟨c,hx⟩:∃c,s[k]? = some c:=⟨_,List.getElem?_eq_getElem hlt⟩
   have hc8:=c.toNat_lt
   have hvm:=JOs (s.take k)
   refine JB.skipS (JB.blk ?_)
   by_cases h1:48≤c.toNat
   ·skip
    have hd1:decide ((c.toNat:Int)≥48)=true:=by first|exact decide_eq_true (by omega)|exact decide_eq_false (by omega)
    refine JB.reg ?_
    have X:=(Fx.mk hx).a hd1
    iterate 5 (refine JA.o1 JC ?_)
    iterate 4 (refine JA.y1 JC ?_)
    refine JA.o1 JC ?_
    refine JA.nil ?_
    refine JB.cnd JC (fun hb20=>?_) (fun hb20=>?_)
    ·skip
     have h2:c.toNat≤57:=by have:=of_decide_eq_true hb20;omega
     have hv:YM (s.take (k+1))=min 1099511627776 (10*YM (s.take k)+(c.toNat-48)):=by rw [Yf hx,JGH,JVd _ (JDR.2 ⟨h1,h2⟩)]
     have w1:IntKind.u8.wrap ((c.toNat:Int)-48)=((c.toNat-48:Nat):Int):=by rw [IntWalk.u8_in _ (by omega)];omega
     have w2:IntKind.i64.wrap ((c.toNat-48:Nat):Int)=((c.toNat-48:Nat):Int):=IntWalk.i64_in _ (by omega)
     have w3:IntKind.i64.wrap (10*(YM (s.take k):Int))=((10*YM (s.take k):Nat):Int):=by rw [IntWalk.i64_in _ (by omega)];omega
     have w4:IntKind.i64.wrap (((10*YM (s.take k):Nat):Int)+((c.toNat-48:Nat):Int))=((10*YM (s.take k)+(c.toNat-48):Nat):Int):=by rw [IntWalk.i64_in _ (by omega)];omega
     have w5:=JSY (10*YM (s.take k)+(c.toNat-48))
     refine JB.reg1 ?_
     have X:=(((((X.a hv).a w1).a w2).a w3).a w4).a w5
     refine JA.o1 JC ?_
     refine JA.o1 Jv ?_
     iterate 3 (refine JA.o1 JC ?_)
     iterate 3 (refine JA.o1 Jv ?_)
     iterate 2 (refine JA.o1 JC ?_)
     refine JA.nil (JR.nrm (JB.reg1 ?_))
     refine JA.o1 JC ?_
     refine JA.o1 Jv ?_
     refine JA.o1 JC ?_
     refine JA.nil ?_
     refine JU.nxt ?_ ?_ ?_
     ·omega
     ·exact JN.kp [0,3,4] [] ZA
     ·trivial
    ·skip
     have h2:¬c.toNat≤57:=by have:=of_decide_eq_false hb20;omega
     have hv:YM (s.take (k+1))=YM (s.take k):=by rw [Yf hx,JGH,JOt _ (by unfold YU;rw [decide_eq_false h2,Bool.and_false])]
     refine JR.nrm (JB.reg1 ?_)
     have X:=X.a hv
     refine JA.o1 JC ?_
     refine JA.o1 Jv ?_
     refine JA.o1 JC ?_
     refine JA.nil ?_
     refine JU.nxt ?_ ?_ ?_
     ·omega
     ·exact JN.kp [0,3,4] [] ZA
     ·trivial
   ·skip
    have hd1:decide ((c.toNat:Int)≥48)=false:=by first|exact decide_eq_true (by omega)|exact decide_eq_false (by omega)
    have hv:YM (s.take (k+1))=YM (s.take k):=by rw [Yf hx,JGH,JOt _ (by unfold YU;rw [decide_eq_false h1];rfl)]
    refine JB.reg ?_
    have X:=((Fx.mk hx).a hd1).a hv
    iterate 5 (refine JA.o1 JC ?_)
    iterate 4 (refine JA.s ?_)
    refine JA.o1 JC ?_
    refine JA.nil ?_
    refine JB.cnd JC (fun hb20=>?_) (fun hb20=>?_)
    ·exact absurd hb20 (by simp)
    ·skip
     refine JR.nrm (JB.reg1 ?_)
     refine JA.o1 JC ?_
     refine JA.o1 Jv ?_
     refine JA.o1 JC ?_
     refine JA.nil ?_
     refine JU.nxt ?_ ?_ ?_
     ·omega
     ·exact JN.kp [0,3,4] [] ZA
     ·trivial
  ·skip
   have hke:s.length≤k:=by simpa using hb8
   have htk:s.take k=s:=List.take_of_length_le hke
   refine JB.exitS (JU.ext (JR.hit (JB.reg ?_)))
   have X:=Fx.mk htk
   iterate 2 (refine JA.o1 JC ?_)
   refine JA.nil ?_
   exact Ends.fin [] (rs:=[.tmp 2]) rfl JC Qs
theorem JIj (s:Bs)(c:UInt8)(hs:s.length≤1000000000):Jb Tryz.prog 86 [.str s,.leaf (.d (.raw (.int .u8 (c.toNat:Nat))))] (.leaf (.d (JEl (Jt c s)))) []:=by
 refine Js Jf Tryz.func86 rfl (by simp only [List.length_cons,List.length_nil,Tryz.ntmps86];omega) JJ rfl ?_
 refine JB.reg ?_
 refine JA.o ?_
 refine JA.nil (JB.reg ?_)
 refine JA.o ?_
 refine JA.nil (JB.reg ?_)
 refine JA.o ?_
 refine JA.nil (JB.assocS (JB.reg ?_))
 refine JA.nilo 5 1000 9 1 JD JD (by omega) (by omega) JD ?_
 refine JA.o ?_
 refine JA.nil (JB.blk ?_)
 refine JB.forA [0,1,5,6,7] [1000] (s.length+1) (fun k=>[.slot 5 (.leaf (.own 1000 0 (Yi c s k).1.length (Yi c s k).1.length)),.slot 6 (.int (Yi c s k).2),.slot 7 (.int k),.obj 1000 (.arr 9 1 ((Yi c s k).1.map encStr))]) (fun _=>True) (fun k=>by simp only [go_sem]<;>rfl) (by simp only [go_sem,Int.natCast_zero,Yi,List.map_nil,List.length_nil]<;>rfl) ?_ (fun k hk hX=>?_)
 ·trivial
 ·skip
  refine JB.assocS (JB.reg ?_)
  iterate 4 (refine JA.o ?_)
  refine JA.nil ?_
  refine JB.cndS JD (fun hb11=>?_) (fun hb11=>?_)
  ·skip
   have hlt:k≤s.length:=by have:=of_decide_eq_true hb11;omega
   have hbd:=JG1 c s k
   have hxt:=JRh s (Yi c s k).2 k
   refine JB.skipS (JB.blk ?_)
   by_cases h1:k=s.length
   ·skip
    have e1:((k:Int)==(s.length:Int))=true:=beq_iff_eq.2 (by omega)
    have hh:=JG2 (c:=c) (s:=s) (i:=k) (.inl h1)
    refine JB.reg ?_
    have X:=Fx.mk e1
    iterate 5 (refine JA.o1 JC ?_)
    iterate 5 (refine JA.s ?_)
    refine JA.o1 JC ?_
    refine JA.nil ?_
    refine JB.cnd JC (fun hb24=>?_) (fun hb24=>?_)
    ·skip
     refine JB.reg ?_
     have X:=(X.a hh).a hxt
     iterate 4 (refine JA.o1 JC ?_)
     refine JA.o1 QE ?_
     refine JA.o1 JC ?_
     refine JA.o1 V4 ?_
     refine JA.o1 JC ?_
     refine JA.nil (JB.reg1 ?_)
     refine JA.o1 JC ?_
     refine JA.o1 Jv ?_
     refine JA.o1 JC ?_
     refine JA.nil (JR.nrm (JB.reg1 ?_))
     refine JA.o1 JC ?_
     refine JA.o1 Jv ?_
     refine JA.o1 JC ?_
     refine JA.nil ?_
     refine JU.nxt ?_ ?_ ?_
     ·omega
     ·exact JN.kp [0,1,5,6,7] [1000] V15
     ·trivial
    ·exact absurd hb24 (by simp)
   ·skip
    have e1:((k:Int)==(s.length:Int))=false:=beq_eq_false_iff_ne.2 (by omega)
    obtain ⟨x,hx⟩:∃x,s[k]? = some x:=⟨_,List.getElem?_eq_getElem (by omega)⟩
    refine JB.reg ?_
    have X:=(Fx.mk hx).a e1
    iterate 5 (refine JA.o1 JC ?_)
    iterate 5 (refine JA.y1 JC ?_)
    refine JA.o1 JC ?_
    refine JA.nil ?_
    refine JB.cnd JC (fun hb24=>?_) (fun hb24=>?_)
    ·skip
     have hxc:x=c:=by
      have:=hb24
      simp at this
      exact UInt8.toNat_inj.1 (by omega)
     have hh:=JG2 (c:=c) (s:=s) (i:=k) (.inr (hxc▸hx))
     refine JB.reg ?_
     have X:=(X.a hh).a hxt
     iterate 4 (refine JA.o1 JC ?_)
     refine JA.o1 QE ?_
     refine JA.o1 JC ?_
     refine JA.o1 V4 ?_
     refine JA.o1 JC ?_
     refine JA.nil (JB.reg1 ?_)
     refine JA.o1 JC ?_
     refine JA.o1 Jv ?_
     refine JA.o1 JC ?_
     refine JA.nil (JR.nrm (JB.reg1 ?_))
     refine JA.o1 JC ?_
     refine JA.o1 Jv ?_
     refine JA.o1 JC ?_
     refine JA.nil ?_
     refine JU.nxt ?_ ?_ ?_
     ·omega
     ·exact JN.kp [0,1,5,6,7] [1000] V15
     ·trivial
    ·skip
     have hxc:x≠c:=fun h=>by subst h;simp at hb24
     have hh:=JLo (c:=c) (s:=s) (i:=k) (fun h=>h.elim h1 fun h=>by rw [hx] at h;exact hxc (Option.some.inj h))
     refine JR.nrm (JB.reg1 ?_)
     have X:=X.a hh
     refine JA.o1 JC ?_
     refine JA.o1 Jv ?_
     refine JA.o1 JC ?_
     refine JA.nil ?_
     refine JU.nxt ?_ ?_ ?_
     ·omega
     ·exact JN.kp [0,1,5,6,7] [1000] ZA
     ·trivial
  ·skip
   have hke:k=s.length+1:=by have:=of_decide_eq_false hb11;omega
   subst hke
   have hce:=JRI c s
   have htk:List.take (Jt c s).length (List.map encStr (Jt c s))=List.map encStr (Jt c s):=List.take_of_length_le (by simp)
   refine JB.exitS (JU.ext (JR.hit (JB.reg ?_)))
   have X:=Fx.mk htk
   refine JA.frz 1000 JC ?_
   have X:=(Fx.mk hce).a htk
   iterate 2 (refine JA.o1 JC ?_)
   refine JA.nil ?_
   exact Ends.fin [] (rs:=[.tmp 4]) rfl JC Qs
end Go.Mw
namespace Go.Mw
open Go.Proofs
open Go.Bk
attribute [local go_sem] decide_true beq_self_eq_true bne_self_eq_false
theorem JON:∀(a:List Int) (n:Int),ZE a=true→(∀m,a.getLast? = some m→m≤n)→ZE (a++[n])=true
 |[],n,_,_=>rfl
 |[x],n,_,h=>by
  have:=h x rfl
  simp [ZE,this]
 |x::y::a,n,h,hm=>by
  simp only [ZE,Bool.and_eq_true] at h
  have ih:=JON (y::a) n h.2 (fun m h=>hm m (by rw [List.getLast?_cons_cons];exact h))
  show ZE (x::y::(a++[n]))=true
  simp only [ZE,Bool.and_eq_true]
  exact ⟨h.1,ih⟩
theorem JSL {l:List Int}{j:Nat}(h0:0<j)(hj:j≤l.length):(l.take j).getLast? = l[j-1]? :=by
 rw [List.getLast?_eq_getElem?,List.length_take,Nat.min_eq_left hj,List.getElem?_take,if_pos (by omega)]
theorem JOS {l:List Int}{j:Nat}{n:Int}(hn:l[j]? = some n)(h:ZE (l.take j)=true)(hm:0<j→∀m,l[j-1]? = some m→m≤n):ZE (l.take (j+1))=true:=by
 rw [Yf hn]
 refine JON _ _ h fun m h2=>?_
 have hj:=(List.getElem?_eq_some_iff.1 hn).1
 by_cases h0:0<j
 ·rw [JSL h0 (by omega)] at h2
  exact hm h0 m h2
 ·have:j=0:=by omega
  subst this
  simp at h2
theorem JOP:∀ {l:List Int} {j:Nat} {m n:Int},ZE l=true→l[j]? = some m→l[j+1]? = some n→m≤n
 |[],j,m,n,_,h,_=>by simp at h
 |[x],j,m,n,_,_,h=>by simp at h
 |x::y::l,0,m,n,h,h1,h2=>by
  simp only [ZE,Bool.and_eq_true,decide_eq_true_eq] at h
  simp at h1 h2
  subst h1 h2;exact h.1
 |x::y::l,j+1,m,n,h,h1,h2=>by
  simp only [ZE,Bool.and_eq_true] at h
  exact JOP h.2 (by simpa using h1) (by simpa using h2)
theorem JHh {l:List Pg}{k:Nat}{x:Pg}(hx:l[k]? = some x)(h:¬YT x=true):l.all YT=false:=by
 cases h2:l.all YT with
 |false=>rfl
 |true=>exact absurd (JE2 h2 hx) h
theorem JDW {x:Pg}:YT x=true↔Ys x.house 0 9999=true∧x.reads.length≤16∧x.reads.all (fun n=>Ys n 0 1073741824)=true∧ZE x.reads=true:=by
 unfold YT
 simp only [Bool.and_eq_true,decide_eq_true_eq,and_assoc]
theorem JQs (l:List Pg)(hl:l.length≤1000)(hz:∀x∈l,x.reads.length≤1000):Jb Tryz.prog 40 [.leaf (.d (Yt l))] (.int (Yl l)) []:=by
 have hpe:Yl l=JAE l.length 32 (l.all YT) (Yr (l.map Pg.house)):=rfl
 refine Js Jf Tryz.func40 rfl (by simp only [List.length_cons,List.length_nil,Tryz.ntmps40];omega) JJ rfl ?_
 refine JB.reg ?_
 refine JA.o ?_
 refine JA.nil (JB.assocS (JB.reg ?_))
 iterate 3 (refine JA.o ?_)
 refine JA.nil ?_
 refine JB.cndS JD (fun hb8=>?_) (fun hb8=>?_)
 ·skip
  have h1:32<l.length:=by have:=of_decide_eq_true hb8;omega
  have hr:=JFE (l.all YT) (Yr (l.map Pg.house)) h1
  refine JB.assocS (JB.reg ?_)
  have X:=(Fx.mk hpe).a hr
  refine JA.o1 JC ?_
  refine JA.nil (JB.retS ?_)
  exact Ends.fin [] (rs:=[.tmp 2]) rfl JC Qs
 ·skip
  have hle:l.length≤32:=by have:=of_decide_eq_false hb8;omega
  refine JB.skipS (JB.assocS (JB.reg ?_))
  refine JA.o ?_
  refine JA.nil (JB.blk ?_)
  refine JB.forA [0,3] [] (l.length) (fun k=>[.slot 3 (.int k)]) (fun k=>(l.take k).all YT=true) (fun k=>by simp only [go_sem]<;>rfl) JDy ?_ (fun k hk hX=>?_)
  ·rfl
  ·skip
   refine JB.assocS (JB.reg ?_)
   iterate 4 (refine JA.o ?_)
   refine JA.nil ?_
   refine JB.cndS JD (fun hb12=>?_) (fun hb12=>?_)
   ·skip
    have hlt:=Yk hb12
    obtain ⟨x,hx⟩:=Yj hb12
    have hxz:=hz x (List.mem_of_getElem? hx)
    refine JB.skipS (JB.blk (JB.assocS ?_))
    by_cases g1:Ys x.house 0 9999=true
    ·skip
     refine JB.reg ?_
     have X:=(Fx.mk hx).a g1
     iterate 2 (refine JA.o1 QW ?_)
     refine JA.o1 V72 ?_
     iterate 2 (refine JA.o1 QW ?_)
     refine JA.c1 (JE9 x.house 0 9999) QW QW ?_
     iterate 2 (refine JA.o1 QW ?_)
     iterate 2 (refine JA.y1 QW ?_)
     refine JA.y1 V72 ?_
     iterate 4 (refine JA.y1 QW ?_)
     refine JA.o1 QW ?_
     refine JA.nil ?_
     refine JB.cndS QW (fun hb30=>?_) (fun hb30=>?_)
     ·skip
      have h16:¬x.reads.length≤16:=by have:=of_decide_eq_true hb30;omega
      have hna:=JHh hx (fun h=>h16 (JDW.1 h).2.1)
      have hr:=JDM (Yr (l.map Pg.house)) hle
      refine JB.assocS (JB.reg ?_)
      have X:=((X.a hpe).a hna).a hr
      refine JA.o1 QW ?_
      refine JA.nil (JB.retS (JR.ret (JU.ret (JR.ret ?_))))
      exact Ends.fin [] (rs:=[.tmp 2]) rfl QW (by simp only [go_sem,X.h,Bool.not_true]<;>first|rfl|exact QP)
     ·skip
      have h16:x.reads.length≤16:=by have:=of_decide_eq_false hb30;omega
      refine JB.skipS (JB.reg ?_)
      refine JA.o1 QW ?_
      refine JA.nil (JB.blk1 ?_)
      refine JB.forA [0,3,4] [] (x.reads.length) (fun j=>[.slot 4 (.int j)]) (fun j=>(x.reads.take j).all (fun n=>Ys n 0 1073741824)=true∧ZE (x.reads.take j)=true) (fun j=>by simp only [go_sem]<;>rfl) (by simp only [go_sem,X.h,Bool.not_true,Int.natCast_zero]<;>rfl) ?_ (fun j hj Xj=>?_)
      ·exact ⟨rfl,rfl⟩
      ·skip
       refine JB.assocS (JB.reg ?_)
       iterate 3 (refine JA.o1 QW ?_)
       refine JA.o1 V72 ?_
       iterate 4 (refine JA.o1 QW ?_)
       refine JA.nil ?_
       refine JB.cndS QW (fun hb38=>?_) (fun hb38=>?_)
       ·skip
        have hlt2:=Yk hb38
        obtain ⟨n,hn⟩:=Yj hb38
        refine JB.skipS (JB.blk ?_)
        by_cases q1:Ys n 0 1073741824=true
        ·skip
         by_cases q2:0<j
         ·skip
          have hd:decide ((j:Int)>0)=true:=decide_eq_true (by omega)
          have ht:((j:Int)-1).toNat=j-1:=by omega
          obtain ⟨m,hm⟩:∃m,x.reads[j-1]? = some m:=⟨_,List.getElem?_eq_getElem (by omega)⟩
          refine JB.opk 36 ?_
          have X:=((((X.a hn).a q1).a hd).a ht).a hm
          iterate 2 (refine JF.o1 Yn ?_)
          refine JF.o1 V57 ?_
          iterate 3 (refine JF.o1 Yn ?_)
          refine JF.o1 V57 ?_
          refine JF.o1 Yn ?_
          refine JF.cal (JE9 n 0 1073741824) JY Yn V24 (YX) Yn JD JD ?_
          iterate 2 (refine JF.o1 Yn ?_)
          iterate 5 (refine JF.y1 Yn ?_)
          refine JF.y1 V57 ?_
          iterate 3 (refine JF.y1 Yn ?_)
          refine JF.y1 V57 ?_
          iterate 3 (refine JF.y1 Yn ?_)
          refine JF.y1 V57 ?_
          iterate 3 (refine JF.y1 Yn ?_)
          refine JF.y1 V49 ?_
          refine JF.y1 V57 ?_
          iterate 3 (refine JF.y1 Yn ?_)
          refine JF.o1 Yn ?_
          refine JF.nil (QO.finT JJ JJ JJ ?_)
          refine JB.cnd Yn (fun hb74=>?_) (fun hb74=>?_)
          ·skip
           have hlt3:n<m:=of_decide_eq_true hb74
           have hna:=JHh hx (fun h=>by have h5:=JOP (l:=x.reads) (j:=j-1) (JDW.1 h).2.2.2 hm (by rw [show j-1+1=j by omega];exact hn);omega)
           have hr:=JDM (Yr (l.map Pg.house)) hle
           refine JB.reg ?_
           have X:=((X.a hpe).a hna).a hr
           refine JA.o1 Yn ?_
           refine JA.nil (JR.ret (JU.ret (Qp.ret (JR.ret (JU.ret (JR.ret ?_))))))
           exact Ends.fin [] (rs:=[.tmp 2]) rfl Yn (by simp only [go_sem,X.h,Bool.not_true,Bool.not_true]<;>first|rfl|exact QP)
          ·skip
           have hge3:m≤n:=by have:=of_decide_eq_false hb74;omega
           have hst:=JOS hn Xj.2 (fun _ m2 h2=>by rw [hm] at h2;cases h2;exact hge3)
           refine JR.nrm (JB.reg1 ?_)
           refine JA.o1 Yn ?_
           refine JA.o1 V49 ?_
           refine JA.o1 Yn ?_
           refine JA.nil ?_
           refine JU.nxt ?_ ?_ ?_
           ·omega
           ·exact JN.kp [0,3,4] [] (by simp only [go_sem,X.h,Bool.not_true,Bool.not_true]<;>first|exact QP|rfl)
           ·exact ⟨by rw [Yf hn,List.all_append,Xj.1];simp [q1],hst⟩
         ·skip
          have hd:decide ((j:Int)>0)=false:=decide_eq_false (by omega)
          refine JB.opk 36 ?_
          have X:=((X.a hn).a q1).a hd
          iterate 2 (refine JF.o1 Yn ?_)
          refine JF.o1 V57 ?_
          iterate 3 (refine JF.o1 Yn ?_)
          refine JF.o1 V57 ?_
          refine JF.o1 Yn ?_
          refine JF.cal (JE9 n 0 1073741824) JY Yn V24 (YX) Yn JD JD ?_
          iterate 2 (refine JF.o1 Yn ?_)
          iterate 3 (refine JF.y1 Yn ?_)
          iterate 18 (refine JF.s ?_)
          refine JF.y1 Yn ?_
          refine JF.o1 Yn ?_
          refine JF.nil (QO.finT JJ JJ JJ ?_)
          refine JB.cnd Yn (fun hb74=>?_) (fun hb74=>?_)
          ·exact absurd hb74 (by simp)
          ·skip
           have hst:=JOS hn Xj.2 (fun h=>absurd h q2)
           refine JR.nrm (JB.reg1 ?_)
           refine JA.o1 Yn ?_
           refine JA.o1 V49 ?_
           refine JA.o1 Yn ?_
           refine JA.nil ?_
           refine JU.nxt ?_ ?_ ?_
           ·omega
           ·exact JN.kp [0,3,4] [] (by simp only [go_sem,X.h,Bool.not_true,Bool.not_true]<;>first|exact QP|rfl)
           ·exact ⟨by rw [Yf hn,List.all_append,Xj.1];simp [q1],hst⟩
        ·skip
         have h1:Ys n 0 1073741824=false:=by simpa using q1
         refine JB.opk 36 ?_
         have X:=(X.a hn).a h1
         iterate 2 (refine JF.o1 JBd ?_)
         refine JF.o1 V54 ?_
         iterate 3 (refine JF.o1 JBd ?_)
         refine JF.o1 V54 ?_
         refine JF.o1 JBd ?_
         refine JF.cal (JE9 n 0 1073741824) JY JBd V24 (YX) JBd JD JD ?_
         iterate 2 (refine JF.o1 JBd ?_)
         iterate 22 (refine JF.s ?_)
         refine JF.o1 JBd ?_
         refine JF.nil (QO.finT JJ JJ JJ ?_)
         refine JB.cnd JBd (fun hb74=>?_) (fun hb74=>?_)
         ·skip
          have hna:=JHh hx (fun h=>q1 (List.all_eq_true.1 (JDW.1 h).2.2.1 n (List.mem_of_getElem? hn)))
          have hr:=JDM (Yr (l.map Pg.house)) hle
          refine JB.reg ?_
          have X:=((X.a hpe).a hna).a hr
          refine JA.o1 JBd ?_
          refine JA.nil (JR.ret (JU.ret (Qp.ret (JR.ret (JU.ret (JR.ret ?_))))))
          exact Ends.fin [] (rs:=[.tmp 2]) rfl JBd (by simp only [go_sem,X.h,Bool.not_true,Bool.not_false]<;>first|rfl|exact QP)
         ·exact absurd hb74 (by simp)
       ·skip
        have hjn:=Yo hb38
        obtain ⟨y1,y2⟩:=Xj
        rw [List.take_of_length_le hjn] at y1 y2
        have hok:YT x=true:=JDW.2 ⟨g1,h16,y1,y2⟩
        refine JB.exitS (JU.ext (Qp.hit (JR.nrm (JB.reg1 ?_))))
        refine JA.o1 QW ?_
        refine JA.o1 (by simp only [go_sem,X.h,Bool.not_true];(try simp (disch:=omega) only [IntWalk.i64_in,IntWalk.u64_in,IntWalk.i32_in,IntWalk.u8_in,if_neg,if_pos])<;> rfl) ?_
        refine JA.o1 QW ?_
        refine JA.nil ?_
        refine JU.nxt ?_ ?_ ?_
        ·omega
        ·exact JN.kp [0,3] [] (by simp only [go_sem,X.h,Bool.not_true]<;>first|exact QP|rfl)
        ·exact by rw [Yf hx,List.all_append,hX];simp [hok]
    ·skip
     have h1:Ys x.house 0 9999=false:=by simpa using g1
     refine JB.reg ?_
     have X:=(Fx.mk hx).a h1
     iterate 2 (refine JA.o1 JAK ?_)
     refine JA.o1 (by simp only [go_sem,X.h,Bool.not_false];(try simp (disch:=omega) only [if_pos]);(try simp only [go_sem,X.h,Bool.not_false])<;> rfl) ?_
     iterate 2 (refine JA.o1 JAK ?_)
     refine JA.c1 (JE9 x.house 0 9999) JAK JAK ?_
     iterate 2 (refine JA.o1 JAK ?_)
     iterate 7 (refine JA.s ?_)
     refine JA.o1 JAK ?_
     refine JA.nil ?_
     refine JB.cndS JAK (fun hb30=>?_) (fun hb30=>?_)
     ·skip
      have hna:=JHh hx (fun h=>g1 (JDW.1 h).1)
      have hr:=JDM (Yr (l.map Pg.house)) hle
      refine JB.assocS (JB.reg ?_)
      have X:=((X.a hpe).a hna).a hr
      refine JA.o1 JAK ?_
      refine JA.nil (JB.retS (JR.ret (JU.ret (JR.ret ?_))))
      exact Ends.fin [] (rs:=[.tmp 2]) rfl JAK (by simp only [go_sem,X.h,Bool.not_false]<;>first|rfl|exact QP)
     ·exact absurd hb30 (by simp)
   ·skip
    have hall:l.all YT=true:=by have:=Yo hb12;rw [List.take_of_length_le this] at hX;exact hX
    refine JB.exitS (JU.ext (JR.hit (JB.assocS (JB.reg ?_))))
    refine JA.o ?_
    refine JA.nil (JB.blk ?_)
    refine JB.forA [0,5] [] (l.length) (fun i=>[.slot 5 (.int (1+(i:Int)))]) (fun i=>JBU (l.map Pg.house) (1+i)) (fun i=>by simp only [go_sem]<;>rfl) (by simp only [go_sem,Int.natCast_zero,Int.add_zero]<;>rfl) ?_ (fun i hi Xi=>?_)
    ·exact JDf _
    ·skip
     refine JB.assocS (JB.reg ?_)
     iterate 4 (refine JA.o ?_)
     refine JA.nil ?_
     refine JB.cndS JD (fun hb78=>?_) (fun hb78=>?_)
     ·skip
      have hjl:1+i<l.length:=by have:=of_decide_eq_true hb78;omega
      obtain ⟨x,hx⟩:∃x,l[1+i]? = some x:=⟨_,List.getElem?_eq_getElem hjl⟩
      obtain ⟨y,hy⟩:∃y,l[1+i-1]? = some y:=⟨_,List.getElem?_eq_getElem (by omega)⟩
      have hy2:l[i]? = some y:=by rw [←hy];congr 1;omega
      have t1:((1:Int)+(i:Int)-1).toNat=i:=by omega
      have t2:((1:Int)+(i:Int)).toNat=1+i:=by omega
      refine JB.skipS (JB.blk ?_)
      refine JB.opk 14 ?_
      have X:=(((Fx.mk hx).a hy2).a t1).a t2
      iterate 2 (refine JF.o1 JC ?_)
      refine JF.o1 QE ?_
      iterate 4 (refine JF.o1 JC ?_)
      refine JF.o1 Jv ?_
      refine JF.o1 QE ?_
      iterate 3 (refine JF.o1 JC ?_)
      refine JF.nil (QO.fin QZ QZ ?_)
      refine JB.cnd JC (fun hb92=>?_) (fun hb92=>?_)
      ·skip
       have hno:=JHq (f:=Pg.house) (k:=1+i) (by omega) hx hy (by have:=of_decide_eq_true hb92;omega)
       have hr:=JG8 hle
       refine JB.reg ?_
       have X:=(((X.a hpe).a hall).a hno).a hr
       refine JA.o1 JC ?_
       refine JA.nil (JR.ret (JU.ret (JR.ret ?_)))
       exact Ends.fin [] (rs:=[.tmp 2]) rfl JC Qs
      ·skip
       refine JR.nrm (JB.reg1 ?_)
       refine JA.o1 JC ?_
       refine JA.o1 Jv ?_
       refine JA.o1 JC ?_
       refine JA.nil ?_
       refine JU.nxt ?_ ?_ ?_
       ·omega
       ·exact JN.kp [0,5] [] ZA
       ·exact JDg Xi hx hy (by have:=of_decide_eq_false hb92;omega)
     ·skip
      have hno:=JHp Xi (by have:=of_decide_eq_false hb78;omega)
      have hr:=JG7 hle
      refine JB.exitS (JU.ext (JR.hit (JB.reg ?_)))
      have X:=(((Fx.mk hpe).a hall).a hno).a hr
      refine JA.o1 JC ?_
      refine JA.nil ?_
      exact Ends.fin [] (rs:=[.tmp 2]) rfl JC Qs
end Go.Mw
namespace Go.Bk
theorem JOe (a b:List (Nat × Int)):Ji (a++b)=Ji a+Ji b:=by simp [Ji]
theorem JOg {gs:List (Nat × Int)}{j:Nat}{g:Nat × Int}(h:gs[j]? = some g):Ji (gs.take (j+1))=Ji (gs.take j)+g.1:=by
 rw [List.take_add_one,h,JOe];simp [Ji]
theorem JOf (gs:List (Nat × Int))(j:Nat):Ji (gs.take j)≤Ji gs:=by
 have:=JOe (gs.take j) (gs.drop j)
 rw [List.take_append_drop] at this;omega
theorem JU8 (a b:List (Nat × Int)):spread (a++b)=spread a++spread b:=by simp [spread]
theorem JOU {gs:List (Nat × Int)}{j:Nat}{g:Nat × Int}(h:gs[j]? = some g):spread gs=spread (gs.take j)++(List.replicate g.1 g.2++spread (gs.drop (j+1))):=by
 have e:gs=gs.take j++g::gs.drop (j+1):=by
  obtain ⟨hl,hg⟩:=List.getElem?_eq_some_iff.1 h
  rw [←hg,List.getElem_cons_drop,List.take_append_drop]
 conv=>lhs;rw [e]
 rw [JU8];simp [spread]
theorem JOT {gs:List (Nat × Int)}{j m:Nat}{g:Nat × Int}(h:gs[j]? = some g)(hm:m<g.1):(spread gs)[Ji (gs.take j)+m]? = some g.2:=by
 rw [JOU h,List.getElem?_append_right (by rw [JDj];omega),JDj,Nat.add_sub_cancel_left,List.getElem?_append_left (by simpa using hm),List.getElem?_replicate,if_pos hm]
theorem JMM:∀ {gs:List (Nat × Int)} {j:Nat} {g g':Nat × Int},good gs→gs[j]? = some g→gs[j+1]? = some g' → g.2≠g'.2
 |[],j,g,g',_,h,_=>by simp at h
 |[a],j,g,g',_,_,h=>by simp at h
 |a::b::l,0,g,g',hg,h1,h2=>by
  simp at h1 h2
  subst h1 h2
  exact hg.2.1
 |a::b::l,j+1,g,g',hg,h1,h2=>JMM (gs:=b::l) (j:=j) hg.2.2 (by simpa using h1) (by simpa using h2)
theorem JVA {gs:List (Nat × Int)}{j:Nat}{g:Nat × Int}(hg:good gs)(h:gs[j]? = some g){d:Int}(hd:(spread gs)[Ji (gs.take j)+g.1]? = some d):g.2≠d:=by
 rw [JOU h,List.getElem?_append_right (by rw [JDj];omega),JDj,Nat.add_sub_cancel_left,List.getElem?_append_right (by simp),List.length_replicate,Nat.sub_self] at hd
 cases h2:gs[j+1]? with
 |none=>
  rw [List.drop_eq_nil_of_le (by simpa using h2)] at hd
  simp [spread] at hd
 |some g'=>
  have h1:=JBq gs hg g' (List.mem_of_getElem? h2)
  have e:gs.drop (j+1)=g'::gs.drop (j+2):=by
   obtain ⟨hl,hg⟩:=List.getElem?_eq_some_iff.1 h2
   rw [←hg,List.getElem_cons_drop]
  rw [e] at hd
  have:(spread (g'::gs.drop (j+2)))[0]? = some g'.2:=by
   have:=JOT (gs:=g'::gs.drop (j+2)) (j:=0) (m:=0) (g:=g') rfl (by omega)
   simpa [Ji] using this
  rw [this] at hd
  cases hd
  exact JMM hg h h2
theorem JIq:∀ {r:List Int} {i:Nat} {a b:Int},r[i]? = some a→r[i+1]? = some b→(Jm r)[i]? = some (b-a)
 |[],i,a,b,h,_=>by simp at h
 |[x],i,a,b,_,h=>by simp at h
 |x::y::l,0,a,b,h1,h2=>by
  simp at h1 h2
  subst h1 h2;rfl
 |x::y::l,i+1,a,b,h1,h2=>by
  show (Jm (y::l))[i]? = _
  exact JIq (by simpa using h1) (by simpa using h2)
theorem JUK (r:List Int):Ji (runs (Jm r))=r.length-1:=by
 rw [←JDj,(JF2 (Jm r)).2,JBK]
theorem JGi:∀(ws:List Bs) (w:Bs),ws≠[]→blanks (ws++[w])=blanks ws++32::w
 |[],_,h=>absurd rfl h
 |[a],w,_=>by
  show blanks (a::[w])=_
  rw [JB5 a (by simp)];rfl
 |a::b::l,w,_=>by
  show blanks (a::(b::l++[w]))=_
  rw [JB5 a (by simp),JGi (b::l) w (by simp),JB5 a (by simp)]
  simp
end Go.Bk
namespace Go.Mw
open Go.Proofs
open Go.Bk
attribute [local go_sem] decide_true beq_self_eq_true bne_self_eq_false
theorem JKR (x:Pg)(j:Nat):YE x j≠[]:=by unfold YE JBC;simp
theorem JOu {x:Pg}(h:YT x=true)(j:Nat):(blanks (YE x j)).length≤425:=by
 have h1:∀k,(blanks (YE x j)).length≤(blanks (YE x (j+k))).length:=by
  intro k
  induction k with
  |zero=>exact Nat.le_refl _
  |succ k ih=>
   refine Nat.le_trans ih ?_
   cases hg:(runs (Jm x.reads))[j+k]? with
   |none=>
    have:YE x (j+k+1)=YE x (j+k):=by
     unfold YE
     rw [List.take_add_one,hg];simp
    rw [show j+(k+1)=j+k+1 by omega,this]
    exact Nat.le_refl _
   |some g=>
    rw [show j+(k+1)=j+k+1 by omega,JGJ hg,JGi _ _ (JKR x _),List.length_append]
    omega
 have h2:=JES h
 have h3:YE x (j+(runs (Jm x.reads)).length)=Ym x:=by
  rw [←JH6 x]
  unfold YE
  rw [List.take_of_length_le (by omega),List.take_length]
 have:=h1 (runs (Jm x.reads)).length
 rw [h3] at this
 unfold ZK at h2
 omega
theorem JQv (x:Pg)(hx:YT x=true):Jb Tryz.prog 85 [pgV x] (.str (ZK x++[10])) []:=by
 obtain ⟨ho1,ho2,ho3,ho4⟩:=JDW.1 hx
 have hh:=ZC.1 ho1
 have hrt:=JUK x.reads
 have hsp:=(JF2 (Jm x.reads)).2
 have hgd:=(JF2 (Jm x.reads)).1
 have hrb:∀(i:Nat) (a:Int),x.reads[i]? = some a→0≤a∧a≤1073741824:=fun i a h=>ZC.1 (List.all_eq_true.1 ho3 a (List.mem_of_getElem? h))
 have hwz:=JKS x
 have htz:Ji []=0:=rfl
 refine Js Jf Tryz.func85 rfl (by simp only [List.length_cons,List.length_nil,Tryz.ntmps85];omega) JJ rfl ?_
 refine JB.reg ?_
 iterate 2 (refine JA.o ?_)
 refine JA.nil (JB.reg ?_)
 iterate 2 (refine JA.o ?_)
 refine JA.c1 (JIf x.house hh.1 (by omega)) JD JD ?_
 refine JA.o ?_
 refine JA.nil (JB.assocS (JB.reg ?_))
 iterate 4 (refine JA.o ?_)
 refine JA.nil ?_
 refine JB.joinA [1,3] [1] (fun (o:Unit)=>[.slot 3 (.str (blanks (YE x 0)))]) (fun (o:Unit)=>True) (fun o=>by simp only [go_sem]<;>rfl) ?_ (fun o hj=>?_)
 ·skip
  refine JB.cnd JD (fun hb13=>?_) (fun hb13=>?_)
  ·skip
   obtain ⟨r,rt,hz2⟩:∃r t,x.reads=r::t:=by
    cases h:x.reads with
    |nil=>rw [h] at hb13;cases hb13
    |cons r t=>exact ⟨r,t,rfl⟩
   have hwp:YE x 0=[Jz x.house.toNat,Jz r.toNat]:=by rw [hwz];unfold JBC;rw [hz2]
   have hbw:blanks (YE x 0)=Jz x.house.toNat++32::Jz r.toNat:=by rw [hwp];rfl
   have hr1:x.reads[0]? = some r:=by rw [hz2];rfl
   have hr0:=hrb 0 r hr1
   have tl1:=Zz (n:=x.house.toNat) (k:=20) (by omega) (by omega)
   have tl2:=Zz (n:=r.toNat) (k:=20) (by omega) (by omega)
   refine JB.reg1 ?_
   have X:=(Fx.mk hr1).a hbw
   refine JA.o1 Jo ?_
   refine JA.o1 V60 ?_
   iterate 2 (refine JA.o1 Jo ?_)
   refine JA.o1 V69 ?_
   refine JA.o1 Jo ?_
   refine JA.c1 (JIf r hr0.1 (by omega)) Jo Jo ?_
   refine JA.o1 V60 ?_
   refine JA.o1 Jo ?_
   refine JA.nil ?_
   refine Zq.nrm (()) ?_ ?_
   ·trivial
   ·exact JN.kp [1,3] [1] (by simp only [go_sem,X.h,Int.toNat_zero]<;>first|((repeat' (first|with_reducible_and_instances rfl|refine Q8 ?_ ?_ ?_|refine Q7 ?_|refine YL ?_|refine Q9 ?_ ?_|refine Q3 ?_|refine Q4 ?_|refine YN ?_|refine Q6 ?_ ?_|refine YI ?_ ?_|refine YK ?_|refine YF ?_|(refine Q5 ?_;omega)));all_goals (simp;done))|rfl)
  ·skip
   have hz1:x.reads=[]:=by
    cases h:x.reads with
    |nil=>rfl
    |cons r t=>rw [h] at hb13;simp at hb13
   have hwp:YE x 0=[Jz x.house.toNat]:=by rw [hwz];unfold JBC;rw [hz1]
   have hbw:blanks (YE x 0)=Jz x.house.toNat:=by rw [hwp];rfl
   refine Zq.nrm (()) ?_ ?_
   ·trivial
   ·exact JN.kp [1,3] [1] (by simp only [go_sem,hbw]<;>first|exact QP|rfl)
 ·skip
  refine JB.assocS (JB.reg ?_)
  refine JA.o ?_
  refine JA.nil (JB.blk ?_)
  have X:=Fx.mk htz
  refine JB.forA [1,3,4] [1] ((runs (Jm x.reads)).length) (fun k=>[.slot 3 (.str (blanks (YE x k))),.slot 4 (.int (1+(Ji ((runs (Jm x.reads)).take k):Int)))]) (fun _=>True) (fun k=>by simp only [go_sem]<;>rfl) JIE ?_ (fun k hk hX=>?_)
  ·trivial
  ·skip
   refine JB.assocS (JB.reg ?_)
   iterate 5 (refine JA.o ?_)
   refine JA.nil ?_
   refine JB.cndS JD (fun hb26=>?_) (fun hb26=>?_)
   ·skip
    have hk:k<(runs (Jm x.reads)).length:=by
     have h1:=of_decide_eq_true hb26
     rcases Nat.lt_or_ge k (runs (Jm x.reads)).length with h|h
     ·exact h
     ·rw [List.take_of_length_le h] at h1;omega
    obtain ⟨g,hg⟩:∃g,(runs (Jm x.reads))[k]? = some g:=⟨_,List.getElem?_eq_getElem hk⟩
    have hg1:=JBq _ hgd g (List.mem_of_getElem? hg)
    have hts:=JOg hg
    have hle:=JOf (runs (Jm x.reads)) (k+1)
    obtain ⟨p,hp⟩:∃p,1+Ji ((runs (Jm x.reads)).take k)=p:=⟨_,rfl⟩
    have hp2:1+Ji ((runs (Jm x.reads)).take (k+1))=p+g.1:=by omega
    have hpr:=JDX hx (r:=x.reads.headD 0) (t:=x.reads.tail) (by cases h:x.reads with|nil=>rw [h] at hg;simp [Jm,runs] at hg|cons r t=>rfl)
    have hgb:=hpr.by0 g (List.mem_of_getElem? hg)
    have hat:∀m,m<g.1→∃a b,x.reads[p+m-1]? = some a∧x.reads[p+m]? = some b∧b-a=g.2:=fun m hm=>by
     have h1:=JOT hg hm
     rw [hsp] at h1
     obtain ⟨a,ha⟩:∃a,x.reads[p+m-1]? = some a:=⟨_,List.getElem?_eq_getElem (by omega)⟩
     obtain ⟨b,hb⟩:∃b,x.reads[p+m]? = some b:=⟨_,List.getElem?_eq_getElem (by omega)⟩
     have h2:=JIq ha (by rw [show p+m-1+1=p+m by omega];exact hb)
     rw [show p+m-1=Ji ((runs (Jm x.reads)).take k)+m by omega,h1] at h2
     exact ⟨a,b,ha,hb,(Option.some.inj h2).symm⟩
    obtain ⟨a0,b0,ha0,hb0,hd0⟩:=hat 0 (by omega)
    rw [Nat.add_zero] at ha0 hb0
    have ra0:=hrb _ _ ha0
    have rb0:=hrb _ _ hb0
    have tp:((p:Int)-1).toNat=p-1:=by omega
    have hwb:=JOu hx k
    have hwb2:=JOu hx (k+1)
    rw [JGJ hg,JGi _ _ (JKR x k)] at hwb2
    obtain ⟨w,hw⟩:∃w:Bs,(if g.1=1 then ([]:Bs) else Jz g.1++[120])=w:=⟨_,rfl⟩
    have hgw:Y8 g=w++Jz g.2.toNat:=by rw [←hw];unfold Y8;split<;>simp
    have hst:blanks (YE x (k+1))=blanks (YE x k)++32::(w++Jz g.2.toNat):=by rw [JGJ hg,JGi _ _ (JKR x k),hgw]
    rw [hgw] at hwb2
    rw [List.length_append,List.length_cons,List.length_append] at hwb2
    have hpI:(1:Int)+((Ji ((runs (Jm x.reads)).take k):Nat):Int)=(p:Int):=by omega
    have hp2I:(1:Int)+((Ji ((runs (Jm x.reads)).take (k+1)):Nat):Int)=(p:Int)+(g.1:Int):=by omega
    refine JB.skipS (JB.blk1 ?_)
    refine JB.opk 16 ?_
    have X:=((((((Fx.mk hpI).a hp2I).a hst).a ha0).a hb0).a tp).a hd0
    iterate 3 (refine JF.o1 JC ?_)
    refine JF.o1 QE ?_
    iterate 4 (refine JF.o1 JC ?_)
    refine JF.o1 Jv ?_
    refine JF.o1 QE ?_
    refine JF.o1 JC ?_
    refine JF.o1 Jv ?_
    iterate 2 (refine JF.o1 JC ?_)
    refine JF.nil (QO.fin QZ QZ ?_)
    refine JB.joinA [1,3,4,5,6] [1] (fun (o:Unit)=>[.slot 4 (.int ((p:Int)+(g.1:Int))),.slot 6 (.int g.1)]) (fun (o:Unit)=>True) (fun o=>by simp only [go_sem]<;>rfl) ?_ (fun o hj=>?_)
    ·skip
     refine JB.blk1 ?_
     refine JB.forA [1,3,4,5,6] [1] (g.1) (fun m=>[.slot 4 (.int ((p:Int)+(m:Int))),.slot 6 (.int m)]) (fun _=>True) (fun m=>by simp only [go_sem]<;>rfl) (by simp only [go_sem,X.h,Int.natCast_zero,Int.add_zero]<;>rfl) ?_ (fun m hm Xm=>?_)
     ·trivial
     ·skip
      refine JB.assocS ?_
      by_cases hm:m<g.1
      ·skip
       obtain ⟨a,b,ha,hb,hd⟩:=hat m hm
       have ra:=hrb _ _ ha
       have rb:=hrb _ _ hb
       have hlt:p+m<x.reads.length:=(List.getElem?_eq_some_iff.1 hb).1
       have d1:decide (((p:Int)+(m:Int))<(x.reads.length:Int))=true:=decide_eq_true (by omega)
       have t1:((p:Int)+(m:Int)).toNat=p+m:=by omega
       have t2:((p:Int)+(m:Int)-1).toNat=p+m-1:=by omega
       refine JB.opk 23 ?_
       have X:=(((((X.a d1).a t1).a t2).a ha).a hb).a hd
       iterate 6 (refine JF.o1 JC ?_)
       iterate 3 (refine JF.y1 JC ?_)
       refine JF.y1 QE ?_
       iterate 4 (refine JF.y1 JC ?_)
       refine JF.y1 Jv ?_
       refine JF.y1 QE ?_
       refine JF.y1 JC ?_
       refine JF.y1 Jv ?_
       iterate 2 (refine JF.y1 JC ?_)
       refine JF.o1 JC ?_
       refine JF.nil (QO.finT JJ JJ JJ ?_)
       refine JB.cndS JC (fun hb59=>?_) (fun hb59=>?_)
       ·skip
        refine JB.skipS (JB.blk1 (JB.reg ?_))
        refine JA.o1 JC ?_
        refine JA.o1 Jv ?_
        refine JA.o1 JC ?_
        refine JA.nil (JB.reg1 ?_)
        refine JA.o1 JC ?_
        refine JA.o1 Jv ?_
        refine JA.o1 JC ?_
        refine JA.nil (Qp.nrm ?_)
        refine JU.nxt ?_ ?_ ?_
        ·omega
        ·exact JN.kp [1,3,4,5,6] [1] ZA
        ·trivial
       ·exact absurd hb59 (by simp)
      ·skip
       by_cases hq:p+g.1<x.reads.length
       ·skip
        have hme:m=g.1:=by omega
        subst hme
        have hlt2:p+g.1<x.reads.length:=hq
        obtain ⟨a,ha⟩:∃a,x.reads[p+g.1-1]? = some a:=⟨_,List.getElem?_eq_getElem (by omega)⟩
        obtain ⟨b,hb⟩:∃b,x.reads[p+g.1]? = some b:=⟨_,List.getElem?_eq_getElem (by omega)⟩
        have hdd:=JIq ha (by rw [show p+g.1-1+1=p+g.1 by omega];exact hb)
        rw [show p+g.1-1=Ji ((runs (Jm x.reads)).take k)+g.1 by omega] at hdd
        have hne:=JVA hgd hg (d:=b-a) (by rw [hsp];exact hdd)
        have ra:=hrb _ _ ha
        have rb:=hrb _ _ hb
        have d1:decide (((p:Int)+(g.1:Int))<(x.reads.length:Int))=true:=decide_eq_true (by omega)
        have t1:((p:Int)+(g.1:Int)).toNat=p+g.1:=by omega
        have t2:((p:Int)+(g.1:Int)-1).toNat=p+g.1-1:=by omega
        have hnf:(b-a==g.2)=false:=beq_eq_false_iff_ne.2 (fun h=>hne h.symm)
        refine JB.opk 23 ?_
        have X:=(((((X.a d1).a t1).a t2).a ha).a hb).a hnf
        iterate 6 (refine JF.o1 JC ?_)
        iterate 3 (refine JF.y1 JC ?_)
        refine JF.y1 QE ?_
        iterate 4 (refine JF.y1 JC ?_)
        refine JF.y1 Jv ?_
        refine JF.y1 QE ?_
        refine JF.y1 JC ?_
        refine JF.y1 Jv ?_
        iterate 2 (refine JF.y1 JC ?_)
        refine JF.o1 JC ?_
        refine JF.nil (QO.finT JJ JJ JJ ?_)
        refine JB.cndS JC (fun hb59=>?_) (fun hb59=>?_)
        ·exact absurd hb59 (by simp)
        ·skip
         refine JB.exitS (JU.ext (Qp.hit ?_))
         refine Zq.nrm (()) ?_ ?_
         ·trivial
         ·exact JN.kp [1,3,4,5,6] [1] ZA
       ·skip
        have hme:m=g.1:=by omega
        subst hme
        have d1:decide (((p:Int)+(g.1:Int))<(x.reads.length:Int))=false:=decide_eq_false (by omega)
        refine JB.opk 23 ?_
        have X:=X.a d1
        iterate 6 (refine JF.o1 JC ?_)
        iterate 14 (refine JF.s ?_)
        refine JF.o1 JC ?_
        refine JF.nil (QO.finT JJ JJ JJ ?_)
        refine JB.cndS JC (fun hb59=>?_) (fun hb59=>?_)
        ·exact absurd hb59 (by simp)
        ·skip
         refine JB.exitS (JU.ext (Qp.hit ?_))
         refine Zq.nrm (()) ?_ ?_
         ·trivial
         ·exact JN.kp [1,3,4,5,6] [1] ZA
    refine JB.reg ?_
    refine JA.o1 JC ?_
    refine JA.o1 Jv ?_
    refine JA.o1 JC ?_
    refine JA.nil (JB.assocS (JB.reg ?_))
    iterate 2 (refine JA.o1 JC ?_)
    refine JA.nil ?_
    refine JB.joinA [1,3,4,5] [1] (fun (o:Unit)=>[.slot 3 (.str (blanks (YE x k)++32::w))]) (fun (o:Unit)=>True) (fun o=>by simp only [go_sem]<;>rfl) ?_ (fun o hj=>?_)
    ·skip
     refine JB.cnd JC (fun hb67=>?_) (fun hb67=>?_)
     ·skip
      have hgn:¬g.1=1:=by have:=of_decide_eq_true hb67;omega
      have tl1:=Zz (n:=g.1) (k:=20) (by omega) (by omega)
      have hif:w=Jz g.1++[120]:=by rw [←hw,if_neg hgn]
      refine JB.reg1 ?_
      have X:=X.a hif
      iterate 2 (refine JA.o1 JC ?_)
      refine JA.c1 (JLN g.1 (by omega)) JC JC ?_
      iterate 2 (refine JA.o1 Jv ?_)
      refine JA.o1 JC ?_
      refine JA.nil ?_
      refine Zq.nrm (()) ?_ ?_
      ·trivial
      ·exact JN.kp [1,3,4,5] [1] (by simp only [go_sem,X.h]<;>first|((repeat' (first|with_reducible_and_instances rfl|refine Q8 ?_ ?_ ?_|refine Q7 ?_|refine YL ?_|refine Q9 ?_ ?_|refine Q3 ?_|refine Q4 ?_|refine YN ?_|refine Q6 ?_ ?_|refine YI ?_ ?_|refine YK ?_|refine YF ?_|(refine Q5 ?_;omega)));all_goals (simp;done))|rfl)
     ·skip
      have hgn:g.1=1:=by have:=of_decide_eq_false hb67;omega
      have hif:w=[]:=by rw [←hw,if_pos hgn]
      refine Zq.nrm (()) ?_ ?_
      ·trivial
      ·exact JN.kp [1,3,4,5] [1] (by simp only [go_sem,hpI,hp2I,hst,ha0,hb0,tp,hd0,hif]<;>first|((repeat' (first|with_reducible_and_instances rfl|refine Q8 ?_ ?_ ?_|refine Q7 ?_|refine YL ?_|refine Q9 ?_ ?_|refine Q3 ?_|refine Q4 ?_|refine YN ?_|refine Q6 ?_ ?_|refine YI ?_ ?_|refine YK ?_|refine YF ?_|(refine Q5 ?_;omega)));all_goals (simp;done))|rfl)
    ·skip
     refine JB.reg1 ?_
     iterate 2 (refine JA.o1 JC ?_)
     refine JA.c1 (JIf g.2 hgb.1 (by omega)) JC JC ?_
     refine JA.o1 Jv ?_
     refine JA.o1 JC ?_
     refine JA.nil (Qp.nrm ?_)
     refine JU.nxt ?_ ?_ ?_
     ·omega
     ·exact JN.kp [1,3,4] [1] V21
     ·trivial
   ·skip
    have hke:(runs (Jm x.reads)).length≤k:=by
     have h1:=of_decide_eq_false hb26
     rcases Nat.lt_or_ge k (runs (Jm x.reads)).length with h|h
     ·obtain ⟨g,hg⟩:∃g,(runs (Jm x.reads))[k]? = some g:=⟨_,List.getElem?_eq_getElem h⟩
      have:=JOg hg
      have:=JBq _ hgd g (List.mem_of_getElem? hg)
      have:=JOf (runs (Jm x.reads)) (k+1)
      omega
     ·exact h
    have hwa:blanks (YE x k)=ZK x:=by
     have:YE x k=Ym x:=by rw [←JH6 x];unfold YE;rw [List.take_of_length_le hke,List.take_length]
     rw [this];rfl
    have hlb:=JES hx
    refine JB.exitS (JU.ext (JR.hit (JB.reg ?_)))
    have X:=Fx.mk hwa
    refine JA.o1 JC ?_
    refine JA.o1 Jv ?_
    refine JA.o1 JC ?_
    refine JA.nil ?_
    exact Ends.fin [] (rs:=[.tmp 2]) rfl JC Qs
theorem JQu (l:List Pg)(hl:l.length≤1000)(hz:∀x∈l,x.reads.length≤1000):Jb Tryz.prog 31 [.leaf (.d (Yt l))] (JGA (JBB l) (Yl l)) []:=by
 refine Js Jf Tryz.func31 rfl (by simp only [List.length_cons,List.length_nil,Tryz.ntmps31];omega) JJ rfl ?_
 refine JB.reg ?_
 iterate 2 (refine JA.o ?_)
 refine JA.nil (JB.reg ?_)
 refine JA.o ?_
 refine JA.c1 (JQs l hl hz) JD JD ?_
 refine JA.o ?_
 refine JA.nil (JB.assocS (JB.reg ?_))
 iterate 2 (refine JA.o ?_)
 refine JA.nil ?_
 refine JB.cndS JD (fun hb10=>?_) (fun hb10=>?_)
 ·skip
  have hne:Yl l≠0:=by simpa using hb10
  have hr:JBB l=[]:=if_neg hne
  refine JB.assocS (JB.reg ?_)
  have X:=Fx.mk hr
  iterate 3 (refine JA.o1 JAR ?_)
  refine JA.nil (JB.retS ?_)
  exact Ends.fin [] (rs:=[.tmp 2,.tmp 3]) rfl JAR JDx
 ·skip
  have he0:Yl l=0:=by simpa using hb10
  have hr:JBB l=YY l:=if_pos he0
  obtain ⟨h32,hok,_⟩:=JAn he0
  have hz0:YY []=[]:=rfl
  refine JB.skipS (JB.reg ?_)
  refine JA.o ?_
  refine JA.nil (JB.assocS (JB.reg ?_))
  refine JA.o ?_
  refine JA.nil (JB.blk ?_)
  have X:=Fx.mk hz0
  refine JB.forA [0,5,6] [] (l.length) (fun k=>[.slot 5 (.str (YY (l.take k))),.slot 6 (.int k)]) (fun _=>True) (fun k=>by simp only [go_sem]<;>rfl) JIE ?_ (fun k hk hX=>?_)
  ·trivial
  ·skip
   refine JB.assocS (JB.reg ?_)
   iterate 4 (refine JA.o ?_)
   refine JA.nil ?_
   refine JB.cndS JD (fun hb15=>?_) (fun hb15=>?_)
   ·skip
    have hlt:=Yk hb15
    obtain ⟨x,hx⟩:=Yj hb15
    have hxok:=JE2 hok hx
    have hbk:=JJi _ (JIW k hok)
    have hbl:(l.take k).length≤32:=by rw [List.length_take];omega
    have hlb:=JES hxok
    have hps:=JNB hx
    refine JB.skipS (JB.blk (JB.reg1 ?_))
    have X:=(Fx.mk hx).a hps
    iterate 3 (refine JA.o1 JC ?_)
    refine JA.o1 QE ?_
    refine JA.o1 JC ?_
    refine JA.c1 (JQv x hxok) JC JC ?_
    refine JA.o1 Jv ?_
    refine JA.o1 JC ?_
    refine JA.nil (JR.nrm (JB.reg1 ?_))
    refine JA.o1 JC ?_
    refine JA.o1 Jv ?_
    refine JA.o1 JC ?_
    refine JA.nil ?_
    refine JU.nxt ?_ ?_ ?_
    ·omega
    ·exact JN.kp [0,5,6] [] V21
    ·trivial
   ·skip
    have hke:l.length≤k:=Yo hb15
    have htk:l.take k=l:=List.take_of_length_le hke
    refine JB.exitS (JU.ext (JR.hit (JB.reg ?_)))
    have X:=((Fx.mk htk).a hr).a he0
    iterate 3 (refine JA.o1 JAR ?_)
    refine JA.nil ?_
    exact Ends.fin [] (rs:=[.tmp 2,.tmp 3]) rfl JAR JDx
end Go.Mw
namespace Go.Bk
def Yb:List Bs→Nat→List Int
 |_,0=>[]
 |[],_+1=>[]
 |r::rest,j+1=>(rest.take j).foldl JDn [(YM r:Int)]
theorem JNb (ts:List Bs):Yb ts 0=[]:=by cases ts<;>rfl
theorem JNZ {ts:List Bs}{r:Bs}(h:ts[0]? = some r):Yb ts 1=[(YM r:Int)]:=by
 cases ts with
 |nil=>simp at h
 |cons a ts=>
  have:a=r:=by simpa using h
  subst this;rfl
theorem JNa {ts:List Bs}{j:Nat}{w:Bs}(hj:1≤j)(h:ts[j]? = some w):Yb ts (j+1)=Jq (ZV w) (min (Zw w) (17-(Yb ts j).length)) (Yb ts j):=by
 cases ts with
 |nil=>simp at h
 |cons a ts=>
  obtain ⟨i,rfl⟩:∃i,j=i+1:=⟨j-1,by omega⟩
  have h':ts[i]? = some w:=by simpa using h
  show (ts.take (i+1)).foldl JDn [(YM a:Int)]=_
  rw [List.take_add_one,h',List.foldl_append]
  rfl
theorem JNA {line h:Bs}{ts:List Bs}(hc:Jt 32 line=h::ts):JCv line=⟨YM h,Yb ts ts.length⟩:=by
 unfold JCv
 rw [hc]
 cases ts with
 |nil=>rfl
 |cons r rest=>
  show (⟨_,_⟩:Pg)=⟨_,(rest.take rest.length).foldl JDn [(YM r:Int)]⟩
  rw [List.take_length]
def JIZ (r:List Int):Prop:=r≠[]∧r.length≤17∧0≤Y9 r∧Y9 r≤1099511627776*r.length
theorem JIa {r:List Int}{d:Int}(h:JIZ r)(hd:0≤d∧d≤1099511627776):∀(j:Nat),r.length+j≤17→JIZ (Jq d j r)
 |0,_=>h
 |j+1,hj=>by
  obtain ⟨h1,h2,h3,h4⟩:=JIa h hd j (by omega)
  rw [JAw]
  refine ⟨by simp,?_,?_,?_⟩
  ·rw [List.length_append,List.length_singleton,Y4];omega
  ·rw [JHV];omega
  ·rw [JHV,List.length_append,List.length_singleton,Y4]
   rw [Y4] at h4
   push_cast at h4 ⊢
   omega
theorem JGG (l:Bs):YM l≤1099511627776:=JOs l
theorem JId (w:Bs):0≤(ZV w:Int)∧(ZV w:Int)≤1099511627776:=by
 have:=JGG ((Jt 120 w).getLastD [])
 unfold ZV;omega
theorem JJt {ts:List Bs}:∀(j:Nat),1≤j→j≤ts.length→JIZ (Yb ts j)
 |0,h,_=>by omega
 |1,_,h=>by
  have h0:0<ts.length:=by omega
  obtain ⟨r,hr⟩:∃r,ts[0]? = some r:=⟨_,List.getElem?_eq_getElem h0⟩
  rw [JNZ hr]
  have:=JGG r
  exact ⟨by simp,by simp,by simp [Y9],by simp [Y9];omega⟩
 |j+2,_,h=>by
  have hj:j+1<ts.length:=by omega
  obtain ⟨w,hw⟩:∃w,ts[j+1]? = some w:=⟨_,List.getElem?_eq_getElem hj⟩
  have ih:=JJt (ts:=ts) (j+1) (by omega) (by omega)
  rw [JNa (by omega) hw]
  exact JIa ih (JId w) _ (by have:=ih.2.1;omega)
theorem JNY {ts:List Bs}{j:Nat}(h:j≤ts.length):(Yb ts j).length≤17:=by
 cases j with
 |zero=>rw [JNb];simp
 |succ j=>exact (JJt (j+1) (by omega) h).2.1
theorem JLq (c:UInt8)(s:Bs):∃h ts,Jt c s=h::ts:=by
 cases h:Jt c s with
 |nil=>exact absurd h (JCg c s)
 |cons a l=>exact ⟨a,l,rfl⟩
theorem JPf {w x:Bs}(h:(Jt 120 w)[(Jt 120 w).length-1]? = some x):ZV w=YM x:=by
 unfold ZV
 rw [List.getLastD_eq_getLast?,List.getLast?_eq_getElem?,h];rfl
theorem JSW {w a:Bs}(h1:1<(Jt 120 w).length)(h:(Jt 120 w)[0]? = some a):Zw w=YM a:=by
 unfold Zw
 rw [if_pos h1,List.headD_eq_head?_getD,List.head?_eq_getElem?,h];rfl
theorem JSV {w:Bs}(h1:¬ 1<(Jt 120 w).length):Zw w=1:=if_neg h1
theorem JJP (text:Bs):(Qo text).length=min 33 ((Jt 10 text).length-1):=by
 unfold Qo
 rw [List.length_map,List.length_take,List.length_dropLast]
theorem JSS {text line:Bs}{k:Nat}(hk:k<(Qo text).length)(h:(Jt 10 text)[k]? = some line):(Qo text)[k]? = some (JCv line):=by
 rw [JJP] at hk
 unfold Qo
 rw [List.getElem?_map,List.getElem?_take,if_pos (by omega),List.getElem?_dropLast,if_pos (by omega),h];rfl
theorem JTM (line:Bs):(JCv line).reads.length≤17:=by
 obtain ⟨h,ts,hc⟩:=JLq 32 line
 rw [JNA hc]
 exact JNY (Nat.le_refl _)
theorem JSU {text:Bs}:∀x∈Qo text,x.reads.length≤1000:=fun x hx=>by
 unfold Qo at hx
 obtain ⟨line,_,rfl⟩:=List.mem_map.1 hx
 have:=JTM line
 omega
end Go.Bk
namespace Go.Mw
open Go.Proofs
open Go.Bk
attribute [local go_sem] decide_true beq_self_eq_true bne_self_eq_false
theorem JQt (text:Bs)(hl:text.length≤100000000):Jb Tryz.prog 32 [.str text] (rgE (JAh text)) []:=by
 have hcn0:=JCh 10 text
 have hln:=JJP text
 have hta2:List.take (Qo text).length (List.map Yx (Qo text))=List.map Yx (Qo text):=List.take_of_length_le (by simp)
 refine Js Jf Tryz.func32 rfl (by simp only [List.length_cons,List.length_nil,Tryz.ntmps32];omega) JJ rfl ?_
 refine JB.reg ?_
 iterate 2 (refine JA.o ?_)
 refine JA.nil (JB.reg ?_)
 refine JA.o ?_
 refine JA.c1 (JIj text 10 (by omega)) JD JD ?_
 refine JA.o ?_
 refine JA.nil (JB.reg ?_)
 refine JA.o ?_
 refine JA.nil (JB.assocS (JB.reg ?_))
 refine JA.nilo 5 1000 31 2 JD JD (by omega) (by omega) JD ?_
 refine JA.o ?_
 refine JA.nil ?_
 refine JB.joinA [0,5] [1000] (fun (o:Unit)=>[.slot 5 (.leaf (.own 1000 0 (Qo text).length (Qo text).length)),.obj 1000 (.arr 31 2 ((Qo text).map Yx))]) (fun (o:Unit)=>True) (fun o=>by simp only [go_sem]<;>rfl) ?_ (fun o hj=>?_)
 ·skip
  refine JB.blk1 ?_
  refine JB.forA [0,4,5,6] [1000] ((Qo text).length) (fun k=>[.slot 5 (.leaf (.own 1000 0 ((Qo text).take k).length ((Qo text).take k).length)),.slot 6 (.int k),.obj 1000 (.arr 31 2 (((Qo text).take k).map Yx))]) (fun _=>True) (fun k=>by simp only [go_sem]<;>rfl) (by simp only [go_sem,Int.natCast_zero,List.take_zero,List.map_nil,List.length_nil]<;>rfl) ?_ (fun k hk hX=>?_)
  ·trivial
  ·skip
   refine JB.assocS ?_
   by_cases hk:k<(Qo text).length
   ·skip
    have hlt0:k<(Qo text).length:=hk
    have hln:=JJP text
    obtain ⟨line,hx⟩:∃line,(Jt 10 text)[k]? = some line:=⟨_,List.getElem?_eq_getElem (by omega)⟩
    have hlk:=JSS hlt0 hx
    have hlw:=JA0 10 text line (List.mem_of_getElem? hx)
    obtain ⟨h,ts,hc⟩:=JLq 32 line
    have hpe:=JNA hc
    have hcw:∀w∈h::ts,w.length≤line.length:=fun w hw=>JA0 32 line w (by rw [hc];exact hw)
    have hwh:=hcw h (by simp)
    have hcn:=JCh 32 line
    rw [hc,List.length_cons] at hcn
    have hvh:=JGG h
    have d1:decide ((k:Int)+1<((Jt 10 text).length:Int))=true:=decide_eq_true (by omega)
    have d2:decide ((k:Int)≤32)=true:=decide_eq_true (by omega)
    have hw0:=JNb ts
    have hts:=Yf hlk
    have hrl:(Yb ts ts.length).length≤17:=JNY (Nat.le_refl _)
    have hc0:(Jt 32 line)[0]? = some h:=by rw [hc];rfl
    have hcl:(Jt 32 line).length=ts.length+1:=by rw [hc];rfl
    refine JB.reg ?_
    have X:=((((Fx.mk d1).a d2).a hx).a hc0).a hcl
    refine JA.o1 Jo ?_
    refine JA.o1 V60 ?_
    iterate 4 (refine JA.o1 Jo ?_)
    iterate 2 (refine JA.y1 Jo ?_)
    refine JA.o1 Jo ?_
    refine JA.nil ?_
    refine JB.cndS Jo (fun hb26=>?_) (fun hb26=>?_)
    ·skip
     refine JB.skipS (JB.blk (JB.reg ?_))
     iterate 2 (refine JA.o1 Jo ?_)
     refine JA.o1 V69 ?_
     refine JA.o1 Jo ?_
     refine JA.c1 (JIj line 32 (by omega)) Jo Jo ?_
     refine JA.o1 Jo ?_
     refine JA.nil (JB.reg ?_)
     refine JA.o1 Jo ?_
     refine JA.o1 V69 ?_
     refine JA.o1 Jo ?_
     refine JA.c1 (JGu h (by omega)) Jo Jo ?_
     iterate 3 (refine JA.o1 Jo ?_)
     refine JA.nil (JB.assocS (JB.reg ?_))
     refine JA.nilc 8 1 1001 3 1 JD rfl JD (by omega) (by omega) JD ?_
     refine JA.o1 Jo ?_
     refine JA.nil (JB.blk ?_)
     have X:=X.a hw0
     refine JB.forA [0,4,5,6,7,8,9] [8,1000,1001] (ts.length) (fun j=>[.slot 9 (.int (1+(j:Int))),.obj 8 (.cells [.d (.i (YM h:Nat)),.own 1001 0 (Yb ts j).length (Yb ts j).length]),.obj 1001 (.arr 3 1 ((Yb ts j).map Qy))]) (fun _=>True) (fun j=>by simp only [go_sem]<;>rfl) (by simp only [go_sem,X.h,Int.toNat_zero,Int.natCast_zero,Int.add_zero,List.map_nil,List.length_nil]<;>rfl) ?_ (fun j hj Xj=>?_)
     ·trivial
     ·skip
      refine JB.assocS (JB.reg ?_)
      have X:=((((Fx.mk d1).a d2).a hx).a hc0).a hcl
      iterate 4 (refine JA.o1 Jo ?_)
      refine JA.nil ?_
      refine JB.cndS Jo (fun hb42=>?_) (fun hb42=>?_)
      ·skip
       have hjl:j<ts.length:=by have:=of_decide_eq_true hb42;omega
       refine JB.skipS (JB.blk (JB.assocS ?_))
       by_cases hj0:j=0
       ·skip
        obtain ⟨r,hr⟩:∃r,ts[0]? = some r:=⟨_,List.getElem?_eq_getElem (by omega)⟩
        have hwr:=hcw r (List.mem_cons_of_mem _ (List.mem_of_getElem? hr))
        have hr1:Yb ts (j+1)=[(YM r:Int)]:=by rw [hj0];exact JNZ hr
        have hwj:Yb ts j=[]:=by rw [hj0];exact hw0
        have hcj:(Jt 32 line)[1]? = some r:=by rw [hc];simpa using hr
        have t1:((1:Int)+(j:Int)).toNat=1:=by omega
        have e1:((1:Int)+(j:Int)==1)=true:=beq_iff_eq.2 (by omega)
        have hvr:=JGG r
        refine JB.reg ?_
        have X:=((((X.a e1).a t1).a hcj).a hr1).a hwj
        iterate 2 (refine JA.o1 Jo ?_)
        refine JA.nil ?_
        refine JB.cndS Jo (fun hb46=>?_) (fun hb46=>?_)
        ·skip
         refine JB.assocS ?_
         refine JB.opk 13 ?_
         iterate 4 (refine JF.o1 Jo ?_)
         refine JF.o1 V69 ?_
         refine JF.o1 Jo ?_
         refine JF.cal (JGu r (by omega)) JY Jo Qc (YX) Jo JD JD ?_
         refine JF.o1 Jo ?_
         refine JF.o1 V3 ?_
         iterate 2 (refine JF.o1 Jo ?_)
         refine JF.nil (QO.fin QZ QZ ?_)
         refine JB.exitS (JR.hit (JB.reg1 ?_))
         refine JA.o1 Jo ?_
         refine JA.o1 V60 ?_
         refine JA.o1 Jo ?_
         refine JA.nil ?_
         refine JU.nxt ?_ ?_ ?_
         ·omega
         ·exact JN.kp [0,4,5,6,7,8,9] [8,1000,1001] V19
         ·trivial
        ·exact absurd hb46 (by simp)
       ·skip
        have e1:((1:Int)+(j:Int)==1)=false:=beq_eq_false_iff_ne.2 (by omega)
        refine JB.reg ?_
        have X:=X.a e1
        iterate 2 (refine JA.o1 Jo ?_)
        refine JA.nil ?_
        refine JB.cndS Jo (fun hb46=>?_) (fun hb46=>?_)
        ·exact absurd hb46 (by simp)
        ·skip
         obtain ⟨w,hw⟩:∃w,ts[j]? = some w:=⟨_,List.getElem?_eq_getElem hjl⟩
         have hwl:=hcw w (List.mem_cons_of_mem _ (List.mem_of_getElem? hw))
         have hB:=JJt (ts:=ts) j (by omega) (by omega)
         have hB2:=hB.2.1
         have hst:=JNa (by omega) hw
         have hpn:=JCh 120 w
         have hps:0<(Jt 120 w).length:=List.length_pos_iff.2 (JCg 120 w)
         obtain ⟨p0,hp0⟩:∃p0,(Jt 120 w)[0]? = some p0:=⟨_,List.getElem?_eq_getElem hps⟩
         obtain ⟨pl,hpl⟩:∃pl,(Jt 120 w)[(Jt 120 w).length-1]? = some pl:=⟨_,List.getElem?_eq_getElem (Nat.sub_lt hps Nat.one_pos)⟩
         have hl0:=JA0 120 w p0 (List.mem_of_getElem? hp0)
         have hll:=JA0 120 w pl (List.mem_of_getElem? hpl)
         have hby:YM pl=ZV w:=(JPf hpl).symm
         have hcj:(Jt 32 line)[j+1]? = some w:=by rw [hc];simpa using hw
         have t1:((1:Int)+(j:Int)).toNat=j+1:=by omega
         have t2:(((Jt 120 w).length:Int)-1).toNat=(Jt 120 w).length-1:=by omega
         have hvm:Zw w≤1099511627776:=by unfold Zw;split;exact JGG _;omega
         refine JB.skipS (JB.reg ?_)
         have X:=(((((X.a t1).a hcj).a t2).a hpl).a hby).a hp0
         iterate 2 (refine JA.o1 Jo ?_)
         refine JA.o1 V69 ?_
         refine JA.o1 Jo ?_
         refine JA.c1 (JIj w 120 (by omega)) Jo Jo ?_
         refine JA.o1 Jo ?_
         refine JA.nil (JB.reg ?_)
         iterate 3 (refine JA.o1 Jo ?_)
         refine JA.o1 V60 ?_
         refine JA.o1 V69 ?_
         refine JA.o1 Jo ?_
         refine JA.c1 (JGu pl (by omega)) Jo Jo ?_
         iterate 2 (refine JA.o1 Jo ?_)
         refine JA.nil (JB.assocS (JB.reg ?_))
         iterate 3 (refine JA.o1 Jo ?_)
         refine JA.nil ?_
         refine JB.joinA [0,4,5,6,7,8,9,11,12] [8,1000,1001] (fun (o:Unit)=>[.slot 11 (.int (Zw w))]) (fun (o:Unit)=>True) (fun o=>by simp only [go_sem]<;>rfl) ?_ (fun o hj=>?_)
         ·skip
          refine JB.cnd Jo (fun hb71=>?_) (fun hb71=>?_)
          ·skip
           have h1p:1<(Jt 120 w).length:=by have:=of_decide_eq_true hb71;omega
           have hm:=JSW h1p hp0
           refine JB.reg1 ?_
           have X:=X.a hm
           refine JA.o1 Jo ?_
           refine JA.o1 V69 ?_
           refine JA.o1 Jo ?_
           refine JA.c1 (JGu p0 (by omega)) Jo Jo ?_
           refine JA.o1 Jo ?_
           refine JA.nil ?_
           refine Zq.nrm (()) ?_ ?_
           ·trivial
           ·exact JN.kp [0,4,5,6,7,8,9,11,12] [8,1000,1001] (by simp only [go_sem,X.h,Int.toNat_zero]<;>first|exact QP|rfl)
          ·skip
           have hm:((Zw w:Nat):Int)=1:=by rw [JSV (by have:=of_decide_eq_false hb71;omega)];rfl
           refine Zq.nrm (()) ?_ ?_
           ·trivial
           ·exact JN.kp [0,4,5,6,7,8,9,11,12] [8,1000,1001] (by simp only [go_sem,d1,d2,hx,hc0,hcl,Int.toNat_zero,e1,t1,hcj,t2,hpl,hby,hp0,hm]<;>first|exact QP|rfl)
         ·skip
          refine JB.reg ?_
          refine JA.o1 Jo ?_
          refine JA.nil (JB.blk1 ?_)
          refine JB.forA [0,4,5,6,7,8,9,11,12,13] [8,1000,1001] (min (Zw w) (17-(Yb ts j).length)) (fun i=>[.slot 13 (.int i),.obj 8 (.cells [.d (.i (YM h:Nat)),.own 1001 0 (Jq (ZV w) i (Yb ts j)).length (Jq (ZV w) i (Yb ts j)).length]),.obj 1001 (.arr 3 1 ((Jq (ZV w) i (Yb ts j)).map Qy))]) (fun _=>True) (fun i=>by simp only [go_sem]<;>rfl) (by simp only [go_sem,X.h,Int.toNat_zero,Int.natCast_zero]<;>rfl) ?_ (fun i hi Xi=>?_)
          ·trivial
          ·skip
           refine JB.assocS ?_
           by_cases hi:i<min (Zw w) (17-(Yb ts j).length)
           ·skip
            have hAl:=Y4 (ZV w) i (Yb ts j)
            have d3:decide ((i:Int)<(Zw w:Int))=true:=decide_eq_true (by omega)
            have d4:decide (((Jq (ZV w) i (Yb ts j)).length:Int)≤16)=true:=decide_eq_true (by omega)
            have hbj:=JIa hB (JId w) i (by omega)
            have hp1:1≤(Jq (ZV w) i (Yb ts j)).length:=List.length_pos_iff.2 hbj.1
            have hlg:=JCH hbj.1
            have h1n:(((Jq (ZV w) i (Yb ts j)).length:Int)-1).toNat=(Jq (ZV w) i (Yb ts j)).length-1:=by omega
            have hsu:=JAw (ZV w) i (Yb ts j)
            have hb3:=hbj.2.2.1
            have hb4:=hbj.2.2.2
            have hby3:=JId w
            refine JB.reg ?_
            have X:=((((X.a d3).a d4).a h1n).a hlg).a hsu
            iterate 4 (refine JA.o1 Jo ?_)
            iterate 4 (refine JA.y1 Jo ?_)
            refine JA.o1 Jo ?_
            refine JA.nil ?_
            refine JB.cndS Jo (fun hb84=>?_) (fun hb84=>?_)
            ·skip
             refine JB.skipS (JB.blk ?_)
             refine JB.opk1 18 ?_
             iterate 7 (refine JF.o1 Jo ?_)
             refine JF.o1 V60 ?_
             refine JF.o1 V69 ?_
             iterate 2 (refine JF.o1 Jo ?_)
             refine JF.o1 V60 ?_
             refine JF.o1 Jo ?_
             refine JF.o1 V3 ?_
             iterate 2 (refine JF.o1 Jo ?_)
             refine JF.nil (QO.fin QZ QZ ?_)
             refine JR.nrm (JB.reg1 ?_)
             refine JA.o1 Jo ?_
             refine JA.o1 V60 ?_
             refine JA.o1 Jo ?_
             refine JA.nil ?_
             refine JU.nxt ?_ ?_ ?_
             ·omega
             ·exact JN.kp [0,4,5,6,7,8,9,11,12,13] [8,1000,1001] (by simp only [go_sem,X.h,Int.toNat_zero]<;>first|((repeat' (first|with_reducible_and_instances rfl|refine Q8 ?_ ?_ ?_|refine Q7 ?_|refine YL ?_|refine Q9 ?_ ?_|refine Q3 ?_|refine Q4 ?_|refine YN ?_|refine Q6 ?_ ?_|refine YI ?_ ?_|refine YK ?_|refine YF ?_|(refine Q5 ?_;omega)));all_goals (first|omega|(simp [Qy];done)|(simp [Qy];omega)))|rfl)
             ·trivial
            ·exact absurd hb84 (by simp)
           ·skip
            have hie:i=min (Zw w) (17-(Yb ts j).length):=by omega
            have hAl:=Y4 (ZV w) i (Yb ts j)
            have hti:Yb ts (j+1)=(Jq (ZV w) i (Yb ts j)):=by rw [hst,←hie]
            by_cases hm2:i<Zw w
            ·skip
             have d3:decide ((i:Int)<(Zw w:Int))=true:=decide_eq_true (by omega)
             have d4:decide (((Jq (ZV w) i (Yb ts j)).length:Int)≤16)=false:=decide_eq_false (by omega)
             refine JB.reg ?_
             have X:=((X.a hti).a d3).a d4
             iterate 4 (refine JA.o1 Jo ?_)
             iterate 4 (refine JA.y1 Jo ?_)
             refine JA.o1 Jo ?_
             refine JA.nil ?_
             refine JB.cndS Jo (fun hb84=>?_) (fun hb84=>?_)
             ·exact absurd hb84 (by simp)
             ·skip
              refine JB.exitS (JU.ext (Qp.hit (JR.nrm (JB.reg1 ?_))))
              refine JA.o1 Jo ?_
              refine JA.o1 V60 ?_
              refine JA.o1 Jo ?_
              refine JA.nil ?_
              refine JU.nxt ?_ ?_ ?_
              ·omega
              ·exact JN.kp [0,4,5,6,7,8,9] [8,1000,1001] V19
              ·trivial
            ·skip
             have d3:decide ((i:Int)<(Zw w:Int))=false:=decide_eq_false (by omega)
             refine JB.reg ?_
             have X:=(X.a hti).a d3
             iterate 4 (refine JA.o1 Jo ?_)
             iterate 4 (refine JA.s ?_)
             refine JA.o1 Jo ?_
             refine JA.nil ?_
             refine JB.cndS Jo (fun hb84=>?_) (fun hb84=>?_)
             ·exact absurd hb84 (by simp)
             ·skip
              refine JB.exitS (JU.ext (Qp.hit (JR.nrm (JB.reg1 ?_))))
              refine JA.o1 Jo ?_
              refine JA.o1 V60 ?_
              refine JA.o1 Jo ?_
              refine JA.nil ?_
              refine JU.nxt ?_ ?_ ?_
              ·omega
              ·exact JN.kp [0,4,5,6,7,8,9] [8,1000,1001] V19
              ·trivial
      ·skip
       have hje:j=ts.length:=by have:=of_decide_eq_false hb42;omega
       subst hje
       have hta:List.take (Yb ts ts.length).length (List.map Qy (Yb ts ts.length))=List.map Qy (Yb ts ts.length):=List.take_of_length_le (by simp)
       have htl:((Qo text).take k).length=k:=by rw [List.length_take];omega
       have htl2:((Qo text).take (k+1)).length=k+1:=by rw [List.length_take];omega
       refine JB.exitS (JU.ext (JR.hit (JB.reg1 ?_)))
       have X:=Fx.mk hta
       refine JA.frz 1001 JC ?_
       have X:=(((((((Fx.mk d1).a d2).a hx).a hc0).a hcl).a hta).a htl).a htl2
       iterate 3 (refine JA.o1 Jo ?_)
       refine JA.o1 V3 ?_
       refine JA.o1 Jo ?_
       refine JA.nil (JR.nrm (JB.reg1 ?_))
       refine JA.o1 Jo ?_
       refine JA.o1 V60 ?_
       refine JA.o1 Jo ?_
       refine JA.nil ?_
       refine JU.nxt ?_ ?_ ?_
       ·omega
       ·exact JN.kp [0,4,5,6] [1000] (by simp only [go_sem,X.h,Int.toNat_zero]<;>first|((repeat' (first|with_reducible_and_instances rfl|refine Q8 ?_ ?_ ?_|refine Q7 ?_|refine YL ?_|refine Q9 ?_ ?_|refine Q3 ?_|refine Q4 ?_|refine YN ?_|refine Q6 ?_ ?_|refine YI ?_ ?_|refine YK ?_|refine YF ?_|(refine Q5 ?_;omega)));all_goals (first|omega|(rw [hts,hpe];simp [Yx];done)))|rfl)
       ·trivial
    ·exact absurd hb26 (by simp)
   ·skip
    have hke:k=(Qo text).length:=by omega
    subst hke
    have htk:(Qo text).take (Qo text).length=Qo text:=List.take_length
    by_cases hq:(Qo text).length+1<(Jt 10 text).length
    ·skip
     have d1:decide (((Qo text).length:Int)+1<((Jt 10 text).length:Int))=true:=decide_eq_true (by omega)
     have d2:decide (((Qo text).length:Int)≤32)=false:=decide_eq_false (by omega)
     refine JB.reg ?_
     have X:=((Fx.mk htk).a d1).a d2
     refine JA.o1 JC ?_
     refine JA.o1 Jv ?_
     iterate 4 (refine JA.o1 JC ?_)
     iterate 2 (refine JA.y1 JC ?_)
     refine JA.o1 JC ?_
     refine JA.nil ?_
     refine JB.cndS JC (fun hb26=>?_) (fun hb26=>?_)
     ·exact absurd hb26 (by simp)
     ·skip
      refine JB.exitS (JU.ext (Qp.hit ?_))
      refine Zq.nrm (()) ?_ ?_
      ·trivial
      ·exact JN.kp [0,5] [1000] ZA
    ·skip
     have d1:decide (((Qo text).length:Int)+1<((Jt 10 text).length:Int))=false:=decide_eq_false (by omega)
     refine JB.reg ?_
     have X:=(Fx.mk htk).a d1
     refine JA.o1 JC ?_
     refine JA.o1 Jv ?_
     iterate 4 (refine JA.o1 JC ?_)
     iterate 2 (refine JA.s ?_)
     refine JA.o1 JC ?_
     refine JA.nil ?_
     refine JB.cndS JC (fun hb26=>?_) (fun hb26=>?_)
     ·exact absurd hb26 (by simp)
     ·skip
      refine JB.exitS (JU.ext (Qp.hit ?_))
      refine Zq.nrm (()) ?_ ?_
      ·trivial
      ·exact JN.kp [0,5] [1000] ZA
 refine JB.reg ?_
 have X:=Fx.mk hta2
 refine JA.frz 1000 JC ?_
 refine JA.o ?_
 refine JA.c1 (JQu (Qo text) (by omega) JSU) JD JD ?_
 iterate 5 (refine JA.o ?_)
 refine JA.nil (JB.assocS ?_)
 by_cases g1:Yl (Qo text)=0
 ·skip
  by_cases g2:JBB (Qo text)=text
  ·skip
   have hw:JBB (Qo text)=YY (Qo text):=if_pos g1
   have hr:JAh text=some (Qo text):=by unfold JAh;rw [if_pos ⟨g1,hw▸g2⟩]
   have hg2:(JBB (Qo text)==text)=true:=by simpa using g2
   refine JB.reg ?_
   have X:=((Fx.mk g1).a hr).a hg2
   iterate 3 (refine JA.o1 Z1 ?_)
   iterate 3 (refine JA.y1 Z1 ?_)
   refine JA.o1 Z1 ?_
   refine JA.nil ?_
   refine JB.cndS Z1 (fun hb117=>?_) (fun hb117=>?_)
   ·exact absurd hb117 (by simp)
   ·skip
    refine JB.skipS (JB.reg ?_)
    iterate 3 (refine JA.o1 Z1 ?_)
    refine JA.nil ?_
    exact Ends.fin [] (rs:=[.tmp 2,.tmp 3]) rfl Z1 JIG
  ·skip
   have hw:JBB (Qo text)=YY (Qo text):=if_pos g1
   have hr:JAh text=none:=by unfold JAh;rw [if_neg (fun h=>g2 (hw.trans h.2))]
   have hg2:(JBB (Qo text)==text)=false:=by simpa using g2
   refine JB.reg ?_
   have X:=((Fx.mk g1).a hr).a hg2
   iterate 3 (refine JA.o1 Z1 ?_)
   iterate 3 (refine JA.y1 Z1 ?_)
   refine JA.o1 Z1 ?_
   refine JA.nil ?_
   refine JB.cndS Z1 (fun hb117=>?_) (fun hb117=>?_)
   ·skip
    refine JB.assocS (JB.reg ?_)
    iterate 2 (refine JA.o1 Z1 ?_)
    refine JA.nild 2 2 JD JD ?_
    refine JA.nil (JB.retS ?_)
    exact Ends.fin [] (rs:=[.tmp 2,.tmp 3]) rfl Z1 JIG
   ·exact absurd hb117 (by simp)
 ·skip
  have hr:JAh text=none:=by unfold JAh;rw [if_neg (fun h=>g1 h.1)]
  have hg1:(Yl (Qo text) != 0)=true:=by simpa using g1
  refine JB.reg ?_
  have X:=(Fx.mk hr).a hg1
  iterate 3 (refine JA.o1 Z1 ?_)
  iterate 3 (refine JA.s ?_)
  refine JA.o1 Z1 ?_
  refine JA.nil ?_
  refine JB.cndS Z1 (fun hb117=>?_) (fun hb117=>?_)
  ·skip
   refine JB.assocS (JB.reg ?_)
   iterate 2 (refine JA.o1 Z1 ?_)
   refine JA.nild 2 2 JD JD ?_
   refine JA.nil (JB.retS ?_)
   exact Ends.fin [] (rs:=[.tmp 2,.tmp 3]) rfl Z1 JIG
  ·exact absurd hb117 (by simp)
end Go.Mw
namespace Go.Mw
open Go.Proofs
open Go.Bk
attribute [local go_sem] decide_true beq_self_eq_true bne_self_eq_false
theorem JP3 (a b:List Sh)(ha:a.length≤1000000)(hb:b.length≤1000000)(hz:∀x∈a,x.tries.length≤1000000):Jb Tryz.prog 34 [.leaf (.d (Z6 a)),.leaf (.d (Z6 b))] (.bool (decide (a=b))) []:=by
 refine Js Jf Tryz.func34 rfl (by simp only [List.length_cons,List.length_nil,Tryz.ntmps34];omega) JJ rfl ?_
 refine JB.reg ?_
 refine JA.o ?_
 refine JA.nil (JB.assocS (JB.reg ?_))
 iterate 5 (refine JA.o ?_)
 refine JA.nil ?_
 refine JB.cndS JD (fun hb11=>?_) (fun hb11=>?_)
 ·skip
  have hne:¬a=b:=fun h=>by subst h;simp at hb11
  have hr:decide (a=b)=false:=decide_eq_false hne
  refine JB.assocS (JB.reg ?_)
  have X:=Fx.mk hr
  refine JA.o1 JC ?_
  refine JA.nil (JB.retS ?_)
  exact Ends.fin [] (rs:=[.tmp 4]) rfl JC Qs
 ·skip
  have hll:a.length=b.length:=by simp at hb11;omega
  refine JB.skipS (JB.assocS (JB.reg ?_))
  refine JA.o ?_
  refine JA.nil (JB.blk ?_)
  refine JB.forA [0,1,5] [] (a.length) (fun k=>[.slot 5 (.int k)]) (fun k=>a.take k=b.take k) (fun k=>by simp only [go_sem]<;>rfl) JDy ?_ (fun k hk hX=>?_)
  ·rfl
  ·skip
   refine JB.assocS (JB.reg ?_)
   iterate 4 (refine JA.o ?_)
   refine JA.nil ?_
   refine JB.cndS JD (fun hb15=>?_) (fun hb15=>?_)
   ·skip
    have hlt:=Yk hb15
    obtain ⟨x,hx⟩:=Yj hb15
    obtain ⟨y,hy⟩:∃y,b[k]? = some y:=⟨_,List.getElem?_eq_getElem (by omega)⟩
    have hxz:=hz x (List.mem_of_getElem? hx)
    refine JB.skipS (JB.blk (JB.assocS ?_))
    by_cases hh:x.meter=y.meter
    ·skip
     have q1:(x.meter != y.meter)=false:=by simp [hh]
     refine JB.opk 28 ?_
     have X:=((Fx.mk hx).a hy).a q1
     iterate 2 (refine JF.o1 JC ?_)
     refine JF.o1 QE ?_
     iterate 4 (refine JF.o1 JC ?_)
     refine JF.o1 QE ?_
     iterate 4 (refine JF.o1 JC ?_)
     iterate 2 (refine JF.y1 JC ?_)
     refine JF.y1 QE ?_
     iterate 5 (refine JF.y1 JC ?_)
     refine JF.y1 QE ?_
     iterate 4 (refine JF.y1 JC ?_)
     refine JF.o1 JC ?_
     refine JF.nil (QO.finT JJ JJ JJ ?_)
     refine JB.cndS JC (fun hb43=>?_) (fun hb43=>?_)
     ·skip
      have hne:¬a=b:=fun h=>by subst h;rw [hx] at hy;cases hy;simp at hb43
      have hr:decide (a=b)=false:=decide_eq_false hne
      refine JB.assocS (JB.reg ?_)
      have X:=X.a hr
      refine JA.o1 JC ?_
      refine JA.nil (JB.retS (JR.ret (JU.ret (JR.ret ?_))))
      exact Ends.fin [] (rs:=[.tmp 4]) rfl JC Qs
     ·skip
      have hrl:x.tries.length=y.tries.length:=by simp at hb43;omega
      refine JB.skipS (JB.reg ?_)
      refine JA.o1 JC ?_
      refine JA.nil (JB.blk1 ?_)
      refine JB.forA [0,1,5,6] [] (x.tries.length) (fun j=>[.slot 6 (.int j)]) (fun j=>x.tries.take j=y.tries.take j) (fun j=>by simp only [go_sem]<;>rfl) JGN ?_ (fun j hj Xj=>?_)
      ·rfl
      ·skip
       refine JB.assocS (JB.reg ?_)
       iterate 3 (refine JA.o1 JC ?_)
       refine JA.o1 QE ?_
       iterate 4 (refine JA.o1 JC ?_)
       refine JA.nil ?_
       refine JB.cndS JC (fun hb51=>?_) (fun hb51=>?_)
       ·skip
        have hlt2:=Yk hb51
        obtain ⟨n,hn⟩:=Yj hb51
        obtain ⟨m,hm⟩:∃m,y.tries[j]? = some m:=⟨_,List.getElem?_eq_getElem (by omega)⟩
        refine JB.skipS (JB.blk ?_)
        refine JB.opk 19 ?_
        have X:=(X.a hn).a hm
        iterate 2 (refine JF.o1 V92 ?_)
        refine JF.o1 V41 ?_
        iterate 3 (refine JF.o1 V92 ?_)
        refine JF.o1 V41 ?_
        iterate 3 (refine JF.o1 V92 ?_)
        refine JF.o1 V41 ?_
        iterate 3 (refine JF.o1 V92 ?_)
        refine JF.o1 V41 ?_
        iterate 2 (refine JF.o1 V92 ?_)
        refine JF.nil (QO.finT JJ JJ JJ ?_)
        refine JB.cnd V92 (fun hb70=>?_) (fun hb70=>?_)
        ·skip
         have hne:¬a=b:=fun h=>by subst h;rw [hx] at hy;cases hy;rw [hn] at hm;cases hm;simp at hb70
         have hr:decide (a=b)=false:=decide_eq_false hne
         refine JB.reg ?_
         have X:=X.a hr
         refine JA.o1 V92 ?_
         refine JA.nil (JR.ret (JU.ret (Qp.ret (JR.ret (JU.ret (JR.ret ?_))))))
         exact Ends.fin [] (rs:=[.tmp 4]) rfl V92 (by simp only [go_sem,X.h,Nat.zero_mul,List.drop_zero,Int.toNat_zero]<;>first|rfl|exact QP)
        ·skip
         have hnm:n=m:=by
          obtain ⟨n1,n2,n3⟩:=n
          obtain ⟨m1,m2,m3⟩:=m
          simp at hb70
          rw [Tr.mk.injEq]
          omega
         subst hnm
         refine JR.nrm (JB.reg1 ?_)
         refine JA.o1 V92 ?_
         refine JA.o1 (by simp only [go_sem,X.h,Nat.zero_mul,List.drop_zero,Int.toNat_zero];(try simp (disch:=omega) only [IntWalk.i64_in,IntWalk.u64_in,IntWalk.i32_in,IntWalk.u8_in,if_neg,if_pos])<;> rfl) ?_
         refine JA.o1 V92 ?_
         refine JA.nil ?_
         refine JU.nxt ?_ ?_ ?_
         ·omega
         ·exact JN.kp [0,1,5,6] [] (by simp only [go_sem,X.h,Nat.zero_mul,List.drop_zero,Int.toNat_zero]<;>first|exact QP|rfl)
         ·exact JF5 hn hm Xj
       ·skip
        have hre:=JF4 hrl (Yo hb51) Xj
        have hxy:x=y:=by
         obtain ⟨x1,x2⟩:=x
         obtain ⟨y1,y2⟩:=y
         simp only at hh hre
         subst hh hre;rfl
        subst hxy
        refine JB.exitS (JU.ext (Qp.hit (JR.nrm (JB.reg1 ?_))))
        refine JA.o1 JC ?_
        refine JA.o1 Jv ?_
        refine JA.o1 JC ?_
        refine JA.nil ?_
        refine JU.nxt ?_ ?_ ?_
        ·omega
        ·exact JN.kp [0,1,5] [] ZA
        ·exact JF5 hx hy hX
    ·skip
     have q1:(x.meter != y.meter)=true:=by simp [hh]
     refine JB.opk 28 ?_
     have X:=((Fx.mk hx).a hy).a q1
     iterate 2 (refine JF.o1 JC ?_)
     refine JF.o1 QE ?_
     iterate 4 (refine JF.o1 JC ?_)
     refine JF.o1 QE ?_
     iterate 4 (refine JF.o1 JC ?_)
     iterate 13 (refine JF.s ?_)
     refine JF.o1 JC ?_
     refine JF.nil (QO.finT JJ JJ JJ ?_)
     refine JB.cndS JC (fun hb43=>?_) (fun hb43=>?_)
     ·skip
      have hne:¬a=b:=fun h=>by subst h;rw [hx] at hy;cases hy;exact hh rfl
      have hr:decide (a=b)=false:=decide_eq_false hne
      refine JB.assocS (JB.reg ?_)
      have X:=X.a hr
      refine JA.o1 JC ?_
      refine JA.nil (JB.retS (JR.ret (JU.ret (JR.ret ?_))))
      exact Ends.fin [] (rs:=[.tmp 4]) rfl JC Qs
     ·exact absurd hb43 (by simp)
   ·skip
    have heq:=JF4 hll (Yo hb15) hX
    have hr:decide (a=b)=true:=decide_eq_true heq
    refine JB.exitS (JU.ext (JR.hit (JB.reg ?_)))
    have X:=Fx.mk hr
    refine JA.o1 JC ?_
    refine JA.nil ?_
    exact Ends.fin [] (rs:=[.tmp 4]) rfl JC Qs
end Go.Mw

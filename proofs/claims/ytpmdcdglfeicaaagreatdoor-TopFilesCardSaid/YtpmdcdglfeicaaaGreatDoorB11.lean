/- Contracts of the functions that the book reaches: figures. -/
import Derived.Test.YtpmdcdglfeicaaaGreatDoorD1
import Derived.Test.YtpmdcdglfeicaaaGreatDoorB5
import Derived.Test.YtpmdcdglfeicaaaGreatDoorB7
import Derived.Lib.Split
import Derived.Test.YtpmdcdglfeicaaaGreatDoorB9
import Derived.WalkKit
import Derived.Defers
import Derived.Recover
import Derived.Test.YtpmdcdglfeicaaaGreatDoorB10
set_option maxRecDepth 20000
set_option maxHeartbeats 16000000
set_option linter.unusedSimpArgs false
set_option linter.unusedVariables false
set_option linter.unusedSectionVars false
set_option linter.deprecated false
namespace Go.Mw
open Go.Proofs
open Go.Bk
attribute [local go_sem] decide_true beq_self_eq_true bne_self_eq_false
theorem JKo {s:Bs}{p:Nat}{c:UInt8}(h:s[p]? = some c):JW (s.take (p+1))=10*JW (s.take p)+(c.toNat-48):=by rw [JCp h,JHq]
theorem JFw:∀(n:Nat) (s:Bs),s.length≤n→s.all YS=true→JW s<10^n:=by
 intro n
 induction n with
 |zero=>intro s h _;have:s=[]:=List.eq_nil_of_length_eq_zero (by omega);subst this;decide
 |succ n ih=>
  intro s h hd
  rcases List.eq_nil_or_concat s with rfl|⟨t,c,rfl⟩
  ·exact Nat.pow_pos (by decide)
  ·rw [List.concat_eq_append] at h hd ⊢
   rw [List.all_append,Bool.and_eq_true] at hd
   have hc:YS c=true:=by simpa using hd.2
   unfold YS at hc
   simp only [Bool.and_eq_true,decide_eq_true_eq] at hc
   have:=ih t (by simp at h;omega) hd.1
   rw [JHq,Nat.pow_succ];omega
theorem JBq {s t:Bs}(h:s≠t):(s==t)=false:=by simpa using h
theorem JAx (s:Bs)(h:Ql s=true):Jf Tryz.prog 109 [.str s] (.int (JW s:Nat)) []:=by
 obtain ⟨h1,h2,h3,h4⟩:=JFQ.1 h
 have e1:=JBq h1
 have hle:decide ((s.length:Int)≤12)=true:=decide_eq_true (by omega)
 have hpos:0<s.length:=List.length_pos_iff.2 h1
 have hv:=JFw 12 s h2 h4
 refine Jq Jj Tryz.func109 rfl JEe JL rfl ?_
 refine JB.reg ?_
 have X:=(Fx.mk e1).a hle
 refine JA.o1 YX ?_
 refine JA.nil ?_
 by_cases hz:s=[48]
 ·skip
  have e2:(s==[48])=true:=by rw [hz];rfl
  refine JB.reg ?_
  have X:=X.a e2
  iterate 3 (refine JA.o1 YX ?_)
  iterate 3 (refine JA.y1 YX ?_)
  iterate 2 (refine JA.o1 YX ?_)
  iterate 3 (refine JA.y1 YX ?_)
  iterate 3 (refine JA.s ?_)
  refine JA.y1 YX ?_
  refine JA.o1 YX ?_
  refine JA.c1 (ZF true rfl) YX YX ?_
  refine JA.nil (JB.assocS (JB.reg ?_))
  iterate 2 (refine JA.o1 YX ?_)
  refine JA.nil (JB.blk ?_)
  refine JB.whl [2,23] [23] (fun (p:Nat)=>[.slot 2 (.int (JW (s.take p):Nat)),.slot 23 (.leaf (.obj 23)),.obj 23 (.sit (bs s) p)]) (fun p=>p≤s.length) (fun p=>s.length-p) (0) (fun p=>by simp only [go_sem]<;>rfl) (by simp only [go_sem,X.h,Bool.not_false,Bool.not_true,Int.natCast_zero]<;>rfl) ?_ (fun p hX=>?_)
  ·exact Nat.zero_le _
  ·skip
   by_cases hp:p<s.length
   ·skip
    obtain ⟨c,hx⟩:∃c,s[p]? = some c:=⟨_,List.getElem?_eq_getElem hp⟩
    have hcd:YS c=true:=List.all_eq_true.1 h4 c (List.mem_of_getElem? hx)
    unfold YS at hcd
    simp only [Bool.and_eq_true,decide_eq_true_eq] at hcd
    have hec:s[p]=c:=by rw [List.getElem?_eq_getElem hp] at hx;exact Option.some.inj hx
    have hdec:=JGp s p hp (by rw [hec];omega)
    rw [hec] at hdec
    have d1:decide ((48:Int)≤(c.toNat:Int))=true:=decide_eq_true (by omega)
    have d2:decide ((c.toNat:Int)≤57)=true:=decide_eq_true (by omega)
    have hvt:=JKo hx
    have hvb:=JFw 12 (s.take p) (by rw [List.length_take];omega) (List.all_eq_true.2 fun x hx=>List.all_eq_true.1 h4 x (List.mem_of_mem_take hx))
    refine JB.reg ?_
    have X:=(((X.a hp).a hdec).a d1).a d2
    iterate 2 (refine JA.o1 YX ?_)
    refine JA.nil ?_
    refine JB.cndS YX (fun hb25=>?_) (fun hb25=>?_)
    ·skip
     refine JB.skipS (JB.blk1 (JB.reg ?_))
     iterate 2 (refine JA.o1 YX ?_)
     refine JA.nil (JB.reg ?_)
     iterate 3 (refine JA.o1 YX ?_)
     iterate 2 (refine JA.y1 YX ?_)
     refine JA.o1 YX ?_
     refine JA.c1 (ZF true rfl) YX YX ?_
     refine JA.nil (JB.reg1 ?_)
     refine JA.o1 YX ?_
     refine JA.o1 V51 ?_
     refine JA.o1 YX ?_
     iterate 3 (refine JA.o1 V51 ?_)
     refine JA.o1 YX ?_
     refine JA.nil (QA.nrm ?_)
     refine Yl.nxt (p+1) ?_ ?_ ?_
     ·show s.length-(p+1)<s.length-p;omega
     ·show p+1≤s.length;omega
     ·exact JN.kp [2,23] [23] (by simp only [go_sem,X.h,Bool.not_false,Bool.not_true]<;>first|((repeat' (first|with_reducible_and_instances rfl|refine Q6 ?_ ?_ ?_|refine Q4 ?_|refine Q8 ?_|refine Q7 ?_ ?_|refine Qw ?_|refine Qy ?_|refine Q9 ?_|refine Q1 ?_ ?_|refine Q3 ?_ ?_|refine Q5 ?_|refine Qx ?_|(refine Qz ?_;omega)));all_goals (first|omega|(rw [hvt];omega)))|rfl)
    ·exact absurd hb25 (by simp)
   ·skip
    have hpe:p=s.length:=by omega
    subst hpe
    have htk:s.take s.length=s:=List.take_length
    refine JB.reg ?_
    have X:=(X.a hp).a htk
    iterate 2 (refine JA.o1 YX ?_)
    refine JA.nil ?_
    refine JB.cndS YX (fun hb25=>?_) (fun hb25=>?_)
    ·exact absurd hb25 (by simp)
    ·skip
     refine JB.exitS (Yl.ext (JR.hit (JB.reg ?_)))
     iterate 2 (refine JA.o1 YX ?_)
     refine JA.nil ?_
     exact Ends.fin [] (rs:=[.tmp 2]) rfl YX (by simp only [go_sem,X.h,Bool.not_false,Bool.not_true]<;>first|rfl|exact QB)
 ·skip
  have e2:=JBq hz
  have hc0:s.head?≠some 48:=h3.resolve_left hz
  obtain ⟨c0,hx0⟩:∃c,s[0]? = some c:=⟨_,List.getElem?_eq_getElem hpos⟩
  have hn0:((c0.toNat:Int) != 48)=true:=by
   simp only [bne_iff_ne,ne_eq]
   intro e
   apply hc0
   rw [List.head?_eq_getElem?,hx0]
   congr 1
   have:c0.toNat=48:=by omega
   exact UInt8.toNat_inj.1 this
  refine JB.reg ?_
  have X:=((X.a e2).a hx0).a hn0
  iterate 3 (refine JA.o1 QV ?_)
  iterate 3 (refine JA.y1 QV ?_)
  iterate 2 (refine JA.o1 QV ?_)
  iterate 7 (refine JA.y1 QV ?_)
  refine JA.o1 QV ?_
  refine JA.c1 (ZF true rfl) QV QV ?_
  refine JA.nil (JB.assocS (JB.reg ?_))
  iterate 2 (refine JA.o1 QV ?_)
  refine JA.nil (JB.blk ?_)
  refine JB.whl [2,23] [23] (fun (p:Nat)=>[.slot 2 (.int (JW (s.take p):Nat)),.slot 23 (.leaf (.obj 23)),.obj 23 (.sit (bs s) p)]) (fun p=>p≤s.length) (fun p=>s.length-p) (0) (fun p=>by simp only [go_sem]<;>rfl) (by simp only [go_sem,X.h,Bool.not_false,Bool.not_true,Int.toNat_zero,Int.natCast_zero]<;>rfl) ?_ (fun p hX=>?_)
  ·exact Nat.zero_le _
  ·skip
   by_cases hp:p<s.length
   ·skip
    obtain ⟨c,hx⟩:∃c,s[p]? = some c:=⟨_,List.getElem?_eq_getElem hp⟩
    have hcd:YS c=true:=List.all_eq_true.1 h4 c (List.mem_of_getElem? hx)
    unfold YS at hcd
    simp only [Bool.and_eq_true,decide_eq_true_eq] at hcd
    have hec:s[p]=c:=by rw [List.getElem?_eq_getElem hp] at hx;exact Option.some.inj hx
    have hdec:=JGp s p hp (by rw [hec];omega)
    rw [hec] at hdec
    have d1:decide ((48:Int)≤(c.toNat:Int))=true:=decide_eq_true (by omega)
    have d2:decide ((c.toNat:Int)≤57)=true:=decide_eq_true (by omega)
    have hvt:=JKo hx
    have hvb:=JFw 12 (s.take p) (by rw [List.length_take];omega) (List.all_eq_true.2 fun x hx=>List.all_eq_true.1 h4 x (List.mem_of_mem_take hx))
    refine JB.reg ?_
    have X:=(((X.a hp).a hdec).a d1).a d2
    iterate 2 (refine JA.o1 QV ?_)
    refine JA.nil ?_
    refine JB.cndS QV (fun hb25=>?_) (fun hb25=>?_)
    ·skip
     refine JB.skipS (JB.blk1 (JB.reg ?_))
     iterate 2 (refine JA.o1 QV ?_)
     refine JA.nil (JB.reg ?_)
     iterate 3 (refine JA.o1 QV ?_)
     iterate 2 (refine JA.y1 QV ?_)
     refine JA.o1 QV ?_
     refine JA.c1 (ZF true rfl) QV QV ?_
     refine JA.nil (JB.reg1 ?_)
     refine JA.o1 QV ?_
     refine JA.o1 V42 ?_
     refine JA.o1 QV ?_
     iterate 3 (refine JA.o1 V42 ?_)
     refine JA.o1 QV ?_
     refine JA.nil (QA.nrm ?_)
     refine Yl.nxt (p+1) ?_ ?_ ?_
     ·show s.length-(p+1)<s.length-p;omega
     ·show p+1≤s.length;omega
     ·exact JN.kp [2,23] [23] V17
    ·exact absurd hb25 (by simp)
   ·skip
    have hpe:p=s.length:=by omega
    subst hpe
    have htk:s.take s.length=s:=List.take_length
    refine JB.reg ?_
    have X:=(X.a hp).a htk
    iterate 2 (refine JA.o1 QV ?_)
    refine JA.nil ?_
    refine JB.cndS QV (fun hb25=>?_) (fun hb25=>?_)
    ·exact absurd hb25 (by simp)
    ·skip
     refine JB.exitS (Yl.ext (JR.hit (JB.reg ?_)))
     iterate 2 (refine JA.o1 QV ?_)
     refine JA.nil ?_
     exact Ends.fin [] (rs:=[.tmp 2]) rfl QV (by simp only [go_sem,X.h,Bool.not_false,Bool.not_true,Int.toNat_zero]<;>first|rfl|exact QB)
theorem JSs:YW Tryz.prog QW 109 [.str []] []:=by
 refine JAC Jj Tryz.func109 rfl JEe JL rfl ?_
 refine JB.reg ?_
 refine JA.o1 YY ?_
 refine JA.nil ?_
 refine JB.pan (pv:=QW) 16 rfl ?_
 iterate 3 (refine JA.o1 YY ?_)
 iterate 3 (refine JA.s ?_)
 iterate 2 (refine JA.o1 YY ?_)
 iterate 7 (refine JA.s ?_)
 refine JA.o1 YY ?_
 exact JA.panc (JBO false rfl) Jr YY YQ rfl
theorem JSt (s:Bs)(h1:12<s.length)(hl:s.length≤1000000000):YW Tryz.prog QW 109 [.str s] []:=by
 have hne:s≠[]:=fun e=>by rw [e] at h1;simp at h1
 have e1:=JBq hne
 have hle:decide ((s.length:Int)≤12)=false:=decide_eq_false (by omega)
 refine JAC Jj Tryz.func109 rfl JEe JL rfl ?_
 refine JB.reg ?_
 have X:=(Fx.mk e1).a hle
 refine JA.o1 JDe ?_
 refine JA.nil ?_
 refine JB.pan (pv:=QW) 16 rfl ?_
 iterate 3 (refine JA.o1 JDe ?_)
 iterate 3 (refine JA.y1 JDe ?_)
 iterate 2 (refine JA.o1 JDe ?_)
 iterate 7 (refine JA.s ?_)
 refine JA.o1 JDe ?_
 exact JA.panc (JBO false rfl) Jr JDe YQ rfl
theorem JSu (s:Bs)(h1:s.length≤12)(hz:s≠[48])(h0:s[0]? = some 48):YW Tryz.prog QW 109 [.str s] []:=by
 have hne:s≠[]:=fun e=>by rw [e] at h0;simp at h0
 have e1:=JBq hne
 have e2:=JBq hz
 have hle:decide ((s.length:Int)≤12)=true:=decide_eq_true (by omega)
 have h48:(((48:UInt8).toNat:Int) != 48)=false:=rfl
 refine JAC Jj Tryz.func109 rfl JEe JL rfl ?_
 refine JB.reg ?_
 have X:=((((Fx.mk e1).a e2).a hle).a h0).a h48
 refine JA.o1 JCv ?_
 refine JA.nil ?_
 refine JB.pan (pv:=QW) 16 rfl ?_
 iterate 3 (refine JA.o1 JCv ?_)
 iterate 3 (refine JA.y1 JCv ?_)
 iterate 2 (refine JA.o1 JCv ?_)
 iterate 7 (refine JA.y1 JCv ?_)
 refine JA.o1 JCv ?_
 exact JA.panc (JBO false rfl) Jr JCv YQ rfl
theorem JSv (s a r:Bs)(c0:UInt8)(hs:s=a++c0::r)(h1:s.length≤12)(h3:s=[48]∨s.head?≠some 48)(h4:a.all YS=true)(h5:YS c0=false):YW Tryz.prog QW 109 [.str s] []:=by
 have hsl:s.length=a.length+(r.length+1):=by rw [hs];simp
 have hne:s≠[]:=fun e=>by rw [e] at hsl;simp at hsl
 have e1:=JBq hne
 have hle:decide ((s.length:Int)≤12)=true:=decide_eq_true (by omega)
 have hpos:0<s.length:=by omega
 refine JAC Jj Tryz.func109 rfl JEe JL rfl ?_
 refine JB.reg ?_
 have X:=(Fx.mk e1).a hle
 refine JA.o1 YX ?_
 refine JA.nil ?_
 by_cases hz:s=[48]
 ·skip
  exfalso
  rw [hz] at hs
  cases a with
  |nil=>simp at hs;rw [←hs.1] at h5;cases h5
  |cons y a=>simp at hs
 ·skip
  have e2:=JBq hz
  have hc0:s.head?≠some 48:=h3.resolve_left hz
  obtain ⟨d0,hx0⟩:∃c,s[0]? = some c:=⟨_,List.getElem?_eq_getElem hpos⟩
  have hn0:((d0.toNat:Int) != 48)=true:=by
   simp only [bne_iff_ne,ne_eq]
   intro e
   apply hc0
   rw [List.head?_eq_getElem?,hx0]
   congr 1
   have:d0.toNat=48:=by omega
   exact UInt8.toNat_inj.1 this
  refine JB.reg ?_
  have X:=((X.a e2).a hx0).a hn0
  iterate 3 (refine JA.o1 QV ?_)
  iterate 3 (refine JA.y1 QV ?_)
  iterate 2 (refine JA.o1 QV ?_)
  iterate 7 (refine JA.y1 QV ?_)
  refine JA.o1 QV ?_
  refine JA.c1 (ZF true rfl) QV QV ?_
  refine JA.nil (JB.assocS (JB.reg ?_))
  iterate 2 (refine JA.o1 QV ?_)
  refine JA.nil (JB.blk ?_)
  refine JB.whl [2,23] [23] (fun (p:Nat)=>[.slot 2 (.int (JW (s.take p):Nat)),.slot 23 (.leaf (.obj 23)),.obj 23 (.sit (bs s) p)]) (fun p=>p≤a.length) (fun p=>a.length-p) (0) (fun p=>by simp only [go_sem]<;>rfl) (by simp only [go_sem,X.h,Bool.not_false,Bool.not_true,Int.toNat_zero,Int.natCast_zero]<;>rfl) ?_ (fun p hX=>?_)
  ·exact Nat.zero_le _
  ·skip
   have hp:p<s.length:=by have:p≤a.length:=hX;omega
   refine JB.reg ?_
   have X:=X.a hp
   iterate 2 (refine JA.o1 QV ?_)
   refine JA.nil ?_
   refine JB.cndS QV (fun hb25=>?_) (fun hb25=>?_)
   ·skip
    refine JB.skipS (JB.blk1 (JB.reg ?_))
    iterate 2 (refine JA.o1 QV ?_)
    refine JA.nil ?_
    by_cases hpa:p<a.length
    ·skip
     obtain ⟨c,hxa⟩:∃c,a[p]? = some c:=⟨_,List.getElem?_eq_getElem hpa⟩
     have hx:s[p]? = some c:=by rw [hs,List.getElem?_append_left hpa];exact hxa
     have hcd:YS c=true:=List.all_eq_true.1 h4 c (List.mem_of_getElem? hxa)
     unfold YS at hcd
     simp only [Bool.and_eq_true,decide_eq_true_eq] at hcd
     have hec:s[p]=c:=by rw [List.getElem?_eq_getElem hp] at hx;exact Option.some.inj hx
     have hdec:=JGp s p hp (by rw [hec];omega)
     rw [hec] at hdec
     have d1:decide ((48:Int)≤(c.toNat:Int))=true:=decide_eq_true (by omega)
     have d2:decide ((c.toNat:Int)≤57)=true:=decide_eq_true (by omega)
     have hvt:=JKo hx
     have htp:s.take p=a.take p:=by rw [hs,List.take_append_of_le_length (by omega)]
     have hvb:=JFw 12 (s.take p) (by rw [List.length_take];omega) (by rw [htp];exact List.all_eq_true.2 fun x hx=>List.all_eq_true.1 h4 x (List.mem_of_mem_take hx))
     refine JB.reg ?_
     have X:=((X.a hdec).a d1).a d2
     iterate 3 (refine JA.o1 QV ?_)
     iterate 2 (refine JA.y1 QV ?_)
     refine JA.o1 QV ?_
     refine JA.c1 (ZF true rfl) QV QV ?_
     refine JA.nil (JB.reg1 ?_)
     refine JA.o1 QV ?_
     refine JA.o1 V42 ?_
     refine JA.o1 QV ?_
     iterate 3 (refine JA.o1 V42 ?_)
     refine JA.o1 QV ?_
     refine JA.nil (QA.nrm ?_)
     refine Yl.nxt (p+1) ?_ ?_ ?_
     ·show a.length-(p+1)<a.length-p;omega
     ·show p+1≤a.length;omega
     ·exact JN.kp [2,23] [23] V17
    ·skip
     have hpe:p=a.length:=by omega
     have hsc:s[p]? = some c0:=by rw [hs,hpe,List.getElem?_append_right (Nat.le_refl _),Nat.sub_self];rfl
     have hec:s[p]=c0:=by rw [List.getElem?_eq_getElem hp] at hsc;exact Option.some.inj hsc
     have hnd:¬(48≤(Utf8.decode (bs s) p).1∧(Utf8.decode (bs s) p).1≤57):=fun ⟨g1,g2⟩=>by
      have:=(JT9 hp g1 g2).2.2
      rw [hec,h5] at this;cases this
     by_cases hv:48≤(Utf8.decode (bs s) p).1
     ·skip
      have d1:decide ((48:Int)≤(((Utf8.decode (bs s) p).1:Nat):Int))=true:=decide_eq_true (by omega)
      have d2:decide ((((Utf8.decode (bs s) p).1:Nat):Int)≤57)=false:=decide_eq_false (by omega)
      refine JB.pan (pv:=QW) 6 rfl ?_
      have X:=(X.a d1).a d2
      iterate 3 (refine JA.o1 QV ?_)
      iterate 2 (refine JA.y1 QV ?_)
      refine JA.o1 QV ?_
      exact JA.panc (JBO false rfl) Jr QV YQ rfl
     ·skip
      have d1:decide ((48:Int)≤(((Utf8.decode (bs s) p).1:Nat):Int))=false:=decide_eq_false (by omega)
      refine JB.pan (pv:=QW) 6 rfl ?_
      have X:=X.a d1
      iterate 3 (refine JA.o1 QV ?_)
      iterate 2 (refine JA.s ?_)
      refine JA.o1 QV ?_
      exact JA.panc (JBO false rfl) Jr QV YQ rfl
   ·exact absurd hb25 (by simp)
end Go.Mw
namespace Go.Bk
open Go.Lib
theorem JHF (c:UInt8):∀(a r:Bs),c ∉ a→index (a++c::r) [c]=a.length
 |[],r,_=>by
  have h:[c].isPrefixOf (c::r)=true:=by simp
  show index (c::r) [c]=_
  unfold index
  rw [if_pos h];rfl
 |x::a,r,h=>by
  have hx:c≠x:=fun e=>h (by simp [e])
  have hp:¬ [c].isPrefixOf (x::(a++c::r))=true:=by simp [hx]
  have ih:=JHF c a r fun e=>h (by simp [e])
  show index (x::(a++c::r)) [c]=_
  unfold index
  rw [if_neg hp,ih]
  have:(((a.length:Nat):Int) == -1)=false:=by rw [beq_eq_false_iff_ne];omega
  simp [this]
theorem JJH (c:UInt8):∀(a:Bs),c ∉ a→index a [c]=-1
 |[],_=>rfl
 |x::a,h=>by
  have hx:c≠x:=fun e=>h (by simp [e])
  have hp:¬ [c].isPrefixOf (x::a)=true:=by simp [hx]
  have ih:=JJH c a fun e=>h (by simp [e])
  unfold index
  rw [if_neg hp,ih];rfl
theorem JQ0 (c:UInt8)(a r:Bs)(h:c ∉ a):cut (a++c::r) [c]=(a,r,true):=by
 unfold cut
 rw [JHF c a r h,if_pos (by omega),Int.toNat_natCast]
 simp
theorem JQ1 (c:UInt8)(a:Bs)(h:c ∉ a):cut a [c]=(a,[],false):=by
 unfold cut
 rw [JJH c a h,if_neg (by decide)]
theorem JG6 (c:UInt8)(s:Bs)(h:c∈s):∃a r,s=a++c::r∧c ∉ a:=by
 induction s with
 |nil=>cases h
 |cons x s ih=>
  by_cases e:x=c
  ·subst e;exact ⟨[],s,rfl,by simp⟩
  ·obtain ⟨a,r,e1,e2⟩:=ih (by rcases List.mem_cons.1 h with h|h;exact absurd h.symm e;exact h)
   exact ⟨x::a,r,by rw [e1];rfl,fun h=>by rcases List.mem_cons.1 h with h|h;exact e h.symm;exact e2 h⟩
theorem JL6 (c:UInt8):∀(n:Nat) (s:Bs),s.length<n→countFrom [c] n s=s.count c
 |0,s,h=>by omega
 |n+1,s,h=>by
  unfold countFrom
  by_cases hc:c∈s
  ·obtain ⟨a,r,rfl,ha⟩:=JG6 c s hc
   rw [JHF c a r ha]
   have h1:(((a.length:Nat):Int) == -1)=false:=by rw [beq_eq_false_iff_ne];omega
   rw [h1]
   have hd:(a++c::r).drop (((a.length:Nat):Int).toNat+[c].length)=r:=by simp
   rw [hd,JL6 c n r (by simp at h;omega)]
   simp [List.count_append,List.count_eq_zero_of_not_mem ha];omega
  ·rw [JJH c s hc,List.count_eq_zero_of_not_mem hc];rfl
theorem JOb (c:UInt8):∀(n:Nat) (s:Bs),s.length≤n→splitK [c] 0 (s.count c) s=QP c s
 |n,s,h=>by
  by_cases hc:c∈s
  ·obtain ⟨a,r,rfl,ha⟩:=JG6 c s hc
   have hn:(a++c::r).count c=r.count c+1:=by simp [List.count_append,List.count_eq_zero_of_not_mem ha]
   rw [hn,splitK,JHF c a r ha]
   have h1:(((a.length:Nat):Int) == -1)=false:=by rw [beq_eq_false_iff_ne];omega
   rw [h1]
   have hd:(a++c::r).drop (((a.length:Nat):Int).toNat+[c].length)=r:=by simp
   rw [hd,JC2 c a r ha]
   have hl:r.length<n:=by simp at h;omega
   match n,hl with
   |n+1,hl=>rw [JOb c n r (by omega)];simp
  ·rw [List.count_eq_zero_of_not_mem hc,JC3 c s hc];rfl
end Go.Bk
namespace Go.Mw
open Go.Proofs Go.Bk
theorem JMh:Tryz.prog.globalNamed "internal/bytealg.MaxLen" = some (Tryz.lays145_ren.g 1):=by kernel_rfl
theorem JRe:Tryz.prog.globalNamed "internal/bytealg.MaxLen" = some (Tryz.lays146_ren.g 1):=by kernel_rfl
theorem JTR (s:Bs)(c:UInt8):JCk s [c]=(QP c s).map encStr:=by
 have hc:Lib.countB (bs s) (bs [c])=s.count c:=by
  show Lib.count (bs s).data.toList (bs [c]).data.toList=_
  rw [JAI,JAI]
  exact JL6 c _ s (Nat.lt_succ_self _)
 have hd:=Lib.splitB_data (bs [c]) 0 (s.count c) (bs s)
 rw [JAI,JAI,JOb c _ s (Nat.le_refl _)] at hd
 unfold JCk
 rw [hc,←hd,List.map_map]
 refine List.map_congr_left fun x _=>?_
 show _=[D.raw (.string (bs x.data.toList))]
 rw [JPi]
theorem JDq (s:Bs)(c:UInt8)(hs:s.length≤1000000000):Jf Tryz.prog 107 [.str s,.str [c]] (.leaf (.own 900 0 (QP c s).length (QP c s).length)) [(900,.arr 9 1 ((QP c s).map encStr))]:=by
 have h:=JQA s [c] (by simp) (by omega) _ JRe rfl
 rw [JTR,List.length_map] at h
 exact h
theorem JGe (a r:Bs)(c:UInt8)(ha:c ∉ a)(hs:a.length+r.length≤1000000000):Jf Tryz.prog 150 [.str (a++c::r),.str [c]] (.tup [(false,[.d (.raw (.string (bs a)))]),(false,[.d (.raw (.string (bs r)))]),(false,[.d (.raw (.bool true))])]) []:=by
 have h:=JLm (a++c::r) [c] YF _ JMh rfl
 rw [JQ0 c a r ha] at h
 exact h
theorem JLn (a:Bs)(c:UInt8)(ha:c ∉ a)(hs:a.length≤1000000000):Jf Tryz.prog 150 [.str a,.str [c]] (.tup [(false,[.d (.raw (.string (bs a)))]),(false,[.d (.raw (.string (bs [])))]),(false,[.d (.raw (.bool false))])]) []:=by
 have h:=JLm a [c] (by omega) _ JMh rfl
 rw [JQ1 c a ha] at h
 exact h
end Go.Mw
namespace Go.Mw
open Go.Proofs
open Go.Bk
attribute [local go_sem] decide_true beq_self_eq_true bne_self_eq_false
theorem JMG:∀(s:Bs),s.all YS=false→∃a c r,s=a++c::r∧a.all YS=true∧YS c=false
 |[],h=>by cases h
 |x::s,h=>by
  by_cases hx:YS x=true
  ·rw [List.all_cons,hx,Bool.true_and] at h
   obtain ⟨a,c,r,e,h1,h2⟩:=JMG s h
   exact ⟨x::a,c,r,by rw [e];rfl,by rw [List.all_cons,hx,h1];rfl,h2⟩
  ·exact ⟨[],x,s,rfl,rfl,by simpa using hx⟩
theorem JFf {s:Bs}(h:Ql s=false)(hl:s.length≤1000000000):YW Tryz.prog QW 109 [.str s] []:=by
 by_cases h0:s=[]
 ·subst h0;exact JSs
 ·by_cases h1:s.length≤12
  ·by_cases h2:s=[48]∨s.head?≠some 48
   ·have h3:s.all YS=false:=by
     rw [←Bool.not_eq_true]
     intro h3
     rw [JFQ.2 ⟨h0,h1,h2,h3⟩] at h;cases h
    obtain ⟨a,c,r,e,h4,h5⟩:=JMG s h3
    exact JSv s a r c e h1 h2 h4 h5
   ·have hz:s≠[48]:=fun e=>h2 (.inl e)
    have hh:s.head? = some 48:=Decidable.byContradiction fun e=>h2 (.inr e)
    exact JSu s h1 hz (by rw [←List.head?_eq_getElem?];exact hh)
  ·exact JSt s (by omega) hl
theorem JDy {s:Bs}(h:Ql s=true):JW s<1000000000000:=by
 obtain ⟨h1,h2,h3,h4⟩:=JFQ.1 h
 exact JFw 12 s h2 h4
theorem JQL (w:Bs)(hx:120 ∉ w)(hl:w.length≤1000000000)(h:Ql w=true):Jf Tryz.prog 110 [.str w] (.val true [.d (.i 1),.d (.i (JW w:Nat))]) []:=by
 refine Jq Jj Tryz.func110 rfl JDd JL rfl ?_
 refine JB.reg ?_
 refine JA.o1 Y5 ?_
 refine JA.nil (JB.reg ?_)
 refine JA.o1 Y5 ?_
 refine JA.c1 (JLn w 120 hx hl) Y5 Y5 ?_
 iterate 7 (refine JA.o1 Y5 ?_)
 refine JA.nil (JB.assocS (JB.reg ?_))
 iterate 2 (refine JA.o1 Y5 ?_)
 refine JA.nil ?_
 refine JB.cndS Y5 (fun hb14=>?_) (fun hb14=>?_)
 ·skip
  refine JB.assocS (JB.reg ?_)
  refine JA.o1 Y5 ?_
  refine JA.c1 (JAx w h) Y5 Y5 ?_
  iterate 2 (refine JA.o1 Y5 ?_)
  refine JA.nil (JB.retS ?_)
  exact Ends.fin [] (rs:=[.cell 2 96]) rfl Y5 (by simp only [go_sem,Bool.not_false]<;>first|rfl|exact QB)
 ·exact absurd hb14 (by simp)
theorem JSw (w:Bs)(hx:120 ∉ w)(hl:w.length≤1000000000)(h:Ql w=false):YW Tryz.prog QW 110 [.str w] []:=by
 refine JAC Jj Tryz.func110 rfl JDd JL rfl ?_
 refine JB.reg ?_
 refine JA.o1 Y5 ?_
 refine JA.nil (JB.reg ?_)
 refine JA.o1 Y5 ?_
 refine JA.c1 (JLn w 120 hx hl) Y5 Y5 ?_
 iterate 7 (refine JA.o1 Y5 ?_)
 refine JA.nil (JB.assocS (JB.reg ?_))
 iterate 2 (refine JA.o1 Y5 ?_)
 refine JA.nil ?_
 refine JB.cndS Y5 (fun hb14=>?_) (fun hb14=>?_)
 ·skip
  refine JB.assocS ?_
  refine JB.pan (pv:=QW) 1 rfl ?_
  refine JA.o1 Y5 ?_
  exact JA.panc (JFf h hl) Jr Y5 YQ rfl
 ·exact absurd hb14 (by simp)
theorem JQM (a r:Bs)(hx:120 ∉ a)(hl:a.length+r.length≤1000000000)(ha:Ql a=true)(hr:Ql r=true)(hin:inD (JW a:Nat) 2 16=true):Jf Tryz.prog 110 [.str (a++120::r)] (.val true [.d (.i (JW a:Nat)),.d (.i (JW r:Nat))]) []:=by
 refine Jq Jj Tryz.func110 rfl JDd JL rfl ?_
 refine JB.reg ?_
 have X:=Fx.mk hin
 refine JA.o1 QF ?_
 refine JA.nil (JB.reg ?_)
 refine JA.o1 QF ?_
 refine JA.c1 (JGe a r 120 hx hl) QF QF ?_
 iterate 7 (refine JA.o1 QF ?_)
 refine JA.nil (JB.assocS (JB.reg ?_))
 iterate 2 (refine JA.o1 QF ?_)
 refine JA.nil ?_
 refine JB.cndS QF (fun hb14=>?_) (fun hb14=>?_)
 ·exact absurd hb14 (by simp)
 ·skip
  refine JB.skipS (JB.reg ?_)
  refine JA.o1 QF ?_
  refine JA.c1 (JAx a ha) QF QF ?_
  refine JA.o1 QF ?_
  refine JA.c1 (JAx r hr) QF QF ?_
  iterate 3 (refine JA.o1 QF ?_)
  refine JA.nil (JB.reg ?_)
  iterate 2 (refine JA.o1 QF ?_)
  refine JA.c1 (JGj (JW a:Nat) 2 16) QF QF ?_
  refine JA.c1 (ZF true rfl) QF QF ?_
  refine JA.nil (JB.reg ?_)
  iterate 2 (refine JA.o1 QF ?_)
  refine JA.nil ?_
  exact Ends.fin [] (rs:=[.cell 2 96]) rfl QF (by simp only [go_sem,X.h,Bool.not_true]<;>first|rfl|exact QB)
theorem JSx (a r:Bs)(hx:120 ∉ a)(hl:a.length+r.length≤1000000000)(ha:Ql a=false):YW Tryz.prog QW 110 [.str (a++120::r)] []:=by
 refine JAC Jj Tryz.func110 rfl JDd JL rfl ?_
 refine JB.reg ?_
 refine JA.o1 YY ?_
 refine JA.nil (JB.reg ?_)
 refine JA.o1 YY ?_
 refine JA.c1 (JGe a r 120 hx hl) YY YY ?_
 iterate 7 (refine JA.o1 YY ?_)
 refine JA.nil (JB.assocS (JB.reg ?_))
 iterate 2 (refine JA.o1 YY ?_)
 refine JA.nil ?_
 refine JB.cndS YY (fun hb14=>?_) (fun hb14=>?_)
 ·exact absurd hb14 (by simp)
 ·skip
  refine JB.skipS ?_
  refine JB.pan (pv:=QW) 1 rfl ?_
  refine JA.o1 YY ?_
  exact JA.panc (JFf ha (by omega)) Jr YY YQ rfl
theorem JSy (a r:Bs)(hx:120 ∉ a)(hl:a.length+r.length≤1000000000)(ha:Ql a=true)(hr:Ql r=false):YW Tryz.prog QW 110 [.str (a++120::r)] []:=by
 refine JAC Jj Tryz.func110 rfl JDd JL rfl ?_
 refine JB.reg ?_
 refine JA.o1 YY ?_
 refine JA.nil (JB.reg ?_)
 refine JA.o1 YY ?_
 refine JA.c1 (JGe a r 120 hx hl) YY YY ?_
 iterate 7 (refine JA.o1 YY ?_)
 refine JA.nil (JB.assocS (JB.reg ?_))
 iterate 2 (refine JA.o1 YY ?_)
 refine JA.nil ?_
 refine JB.cndS YY (fun hb14=>?_) (fun hb14=>?_)
 ·exact absurd hb14 (by simp)
 ·skip
  refine JB.skipS ?_
  refine JB.pan (pv:=QW) 3 rfl ?_
  refine JA.o1 YY ?_
  refine JA.c1 (JAx a ha) YY YY ?_
  refine JA.o1 YY ?_
  exact JA.panc (JFf hr (by omega)) Jr YY YQ rfl
theorem JSz (a r:Bs)(hx:120 ∉ a)(hl:a.length+r.length≤1000000000)(ha:Ql a=true)(hr:Ql r=true)(hin:inD (JW a:Nat) 2 16=false):YW Tryz.prog QW 110 [.str (a++120::r)] []:=by
 refine JAC Jj Tryz.func110 rfl JDd JL rfl ?_
 refine JB.reg ?_
 have X:=Fx.mk hin
 refine JA.o1 QF ?_
 refine JA.nil (JB.reg ?_)
 refine JA.o1 QF ?_
 refine JA.c1 (JGe a r 120 hx hl) QF QF ?_
 iterate 7 (refine JA.o1 QF ?_)
 refine JA.nil (JB.assocS (JB.reg ?_))
 iterate 2 (refine JA.o1 QF ?_)
 refine JA.nil ?_
 refine JB.cndS QF (fun hb14=>?_) (fun hb14=>?_)
 ·exact absurd hb14 (by simp)
 ·skip
  refine JB.skipS (JB.reg ?_)
  refine JA.o1 QF ?_
  refine JA.c1 (JAx a ha) QF QF ?_
  refine JA.o1 QF ?_
  refine JA.c1 (JAx r hr) QF QF ?_
  iterate 3 (refine JA.o1 QF ?_)
  refine JA.nil ?_
  refine JB.pan (pv:=QW) 3 rfl ?_
  iterate 2 (refine JA.o1 QF ?_)
  refine JA.c1 (JGj (JW a:Nat) 2 16) QF QF ?_
  exact JA.panc (JBO false rfl) Jr QF YQ rfl
theorem JIg {w:Bs}{g:Nat × Int}(hl:w.length≤1000000000)(h:JAi w=some g):Jf Tryz.prog 110 [.str w] (.val true [.d (.i g.1),.d (.i g.2)]) []:=by
 unfold JAi at h
 by_cases hx:(120:UInt8)∈w
 ·obtain ⟨a,r,rfl,ha⟩:=JG6 120 w hx
  rw [JC2 120 a r ha] at h
  have hd:(a++120::r).drop (a.length+1)=r:=by simp
  have hne:=JDt 120 r
  cases hc:QP 120 r with
  |nil=>exact absurd hc hne
  |cons y ys=>
   rw [hc] at h
   simp only [hd] at h
   split at h
   ·next hcond=>
    cases h
    exact JQM a r ha (by simp at hl;omega) hcond.1.1 hcond.1.2 (JAj.2 (by omega))
   ·cases h
 ·rw [JC3 120 w hx] at h
  simp only at h
  split at h
  ·next hf=>cases h;exact JQL w hx hl hf
  ·cases h
theorem JS0 {w:Bs}(hl:w.length≤1000000000)(h:JAi w=none):YW Tryz.prog QW 110 [.str w] []:=by
 unfold JAi at h
 by_cases hx:(120:UInt8)∈w
 ·obtain ⟨a,r,rfl,ha⟩:=JG6 120 w hx
  have hl2:a.length+r.length≤1000000000:=by simp at hl;omega
  rw [JC2 120 a r ha] at h
  have hd:(a++120::r).drop (a.length+1)=r:=by simp
  have hne:=JDt 120 r
  cases hc:QP 120 r with
  |nil=>exact absurd hc hne
  |cons y ys=>
   rw [hc] at h
   simp only [hd] at h
   cases h1:Ql a with
   |false=>exact JSx a r ha hl2 h1
   |true=>
    cases h2:Ql r with
    |false=>exact JSy a r ha hl2 h1 h2
    |true=>
     refine JSz a r ha hl2 h1 h2 ?_
     rw [←Bool.not_eq_true]
     intro h3
     have:=JAj.1 h3
     rw [h1,h2,if_pos ⟨⟨rfl,rfl⟩,by omega⟩] at h
     cases h
 ·rw [JC3 120 w hx] at h
  simp only at h
  cases hf:Ql w with
  |false=>exact JSw w hx hl hf
  |true=>rw [hf,if_pos rfl] at h;cases h
end Go.Mw
namespace Go.Mw
open Go.Proofs
open Go.Bk
attribute [local go_sem] decide_true beq_self_eq_true bne_self_eq_false
theorem JVB (s:Bs)(c:UInt8)(h:s.getLast? = some c):Lib.hasSuffix s [c]=true∧Lib.trimSuffix s [c]=s.dropLast:=by
 rcases List.eq_nil_or_concat s with rfl|⟨t,d,rfl⟩
 ·cases h
 ·rw [List.concat_eq_append] at h ⊢
  have:d=c:=by simpa using h
  subst this
  constructor
  ·simp [Lib.hasSuffix]
  ·simp [Lib.trimSuffix,Lib.hasSuffix]
theorem JVA (s:Bs)(c:UInt8)(h:s.getLast?≠some c):Lib.hasSuffix s [c]=false:=by
 rcases List.eq_nil_or_concat s with rfl|⟨t,d,rfl⟩
 ·simp [Lib.hasSuffix]
 ·rw [List.concat_eq_append] at h ⊢
  have:¬c=d:=fun e=>h (by rw [e];simp)
  simp [Lib.hasSuffix,List.isSuffixOf,List.isPrefixOf,this]
theorem JQS:Jf Tryz.prog 53 [.str []] (.leaf (.d (JHk []))) []:=by
 refine Jq Jj Tryz.func53 rfl JH0 JL rfl ?_
 refine JB.reg ?_
 refine JA.o ?_
 refine JA.nil (JB.assocS (JB.reg ?_))
 iterate 2 (refine JA.o ?_)
 refine JA.nil ?_
 refine JB.cndS JF (fun hb4=>?_) (fun hb4=>?_)
 ·skip
  refine JB.assocS (JB.reg ?_)
  refine JA.o ?_
  refine JA.nild 2 1 JF JF ?_
  refine JA.nil (JB.retS ?_)
  exact Ends.fin [] (rs:=[.tmp 2]) rfl JF Y3
 ·exact absurd hb4 (by simp)
theorem JQT (s:Bs)(h:s.getLast? = some 10)(hl:s.length≤1000000000):Jf Tryz.prog 53 [.str s] (.leaf (.d (JHk (QP 10 s.dropLast)))) []:=by
 obtain ⟨g1,g2⟩:=JVB s 10 h
 have hne:s≠[]:=fun e=>by rw [e] at h;cases h
 have e1:=JBq hne
 have c1:=JLo s [10] (by omega)
 have c2:=JQC s [10] (by omega)
 rw [g1] at c1
 rw [g2] at c2
 have hdl:s.dropLast.length≤1000000000:=by rw [List.length_dropLast];omega
 have htk:((QP 10 s.dropLast).map encStr).take (QP 10 s.dropLast).length=(QP 10 s.dropLast).map encStr:=List.take_of_length_le (by simp)
 refine Jq Jj Tryz.func53 rfl JH0 JL rfl ?_
 refine JB.reg ?_
 have X:=Fx.mk e1
 refine JA.o1 JC ?_
 refine JA.nil (JB.assocS (JB.reg ?_))
 iterate 2 (refine JA.o1 JC ?_)
 refine JA.nil ?_
 refine JB.cndS JC (fun hb4=>?_) (fun hb4=>?_)
 ·exact absurd hb4 (by simp)
 ·skip
  refine JB.skipS (JB.reg ?_)
  refine JA.o1 JC ?_
  refine JA.c1 (c1) JC JC ?_
  refine JA.c1 (ZF true rfl) JC JC ?_
  refine JA.nil (JB.reg ?_)
  refine JA.o1 JC ?_
  refine JA.c1 (c2) JC JC ?_
  refine JA.cal (JDq s.dropLast 10 hdl) Jr JC Z4 (fr1 JF) JC ?_
  refine JA.o1 JC ?_
  have X:=Fx.mk htk
  refine JA.frz 11900 Zz ?_
  refine JA.nil ?_
  have X:=Fx.mk e1
  exact Ends.fin [] (rs:=[.tmp 2]) rfl JC Qk
theorem JS2 (s:Bs)(h0:s≠[])(h:s.getLast?≠some 10)(hl:s.length≤1000000000):YW Tryz.prog QW 53 [.str s] []:=by
 have g1:=JVA s 10 h
 have e1:=JBq h0
 have c1:=JLo s [10] (by omega)
 rw [g1] at c1
 refine JAC Jj Tryz.func53 rfl JH0 JL rfl ?_
 refine JB.reg ?_
 have X:=Fx.mk e1
 refine JA.o1 JC ?_
 refine JA.nil (JB.assocS (JB.reg ?_))
 iterate 2 (refine JA.o1 JC ?_)
 refine JA.nil ?_
 refine JB.cndS JC (fun hb4=>?_) (fun hb4=>?_)
 ·exact absurd hb4 (by simp)
 ·skip
  refine JB.skipS ?_
  refine JB.pan (pv:=QW) 2 rfl ?_
  refine JA.o1 JC ?_
  refine JA.c1 (c1) JC JC ?_
  exact JA.panc (JBO false rfl) Jr JC YQ rfl
theorem JIh {s:Bs}{ls:List Bs}(hl:s.length≤1000000000)(h:Zv s=some ls):Jf Tryz.prog 53 [.str s] (.leaf (.d (JHk ls))) []:=by
 unfold Zv at h
 split at h
 ·next e=>cases h;subst e;exact JQS
 ·split at h
  ·next e=>cases h;exact JQT s e hl
  ·cases h
theorem JS1 {s:Bs}(hl:s.length≤1000000000)(h:Zv s=none):YW Tryz.prog QW 53 [.str s] []:=by
 unfold Zv at h
 split at h
 ·cases h
 ·next e0=>
  split at h
  ·cases h
  ·next e=>exact JS2 s e0 e hl
end Go.Mw
namespace Go.Bk
def Jg:St→List Bs→Nat→St
 |s,_,0=>s
 |s,[],_=>s
 |s,w::ws,k+1=>match Y2 s w with
  |some t=>Jg t ws k
  |none=>s
theorem JB2 (s:St)(ws:List Bs):Jg s ws 0=s:=by cases ws<;>rfl
theorem JCo {s t:St}{w:Bs}(h:Y2 s w=some t)(ws:List Bs)(k:Nat):Jg s (w::ws) (k+1)=Jg t ws k:=by rw [Jg,h]
theorem JKa:∀(ws:List Bs) (s f:St),ws.foldlM Y2 s=some f→Jg s ws ws.length=f∧∀k w,ws[k]? = some w→Y2 (Jg s ws k) w=some (Jg s ws (k+1))
 |[],s,f,h=>by
  have:s=f:=by simpa using h
  subst this
  exact ⟨rfl,fun k w hk=>by simp at hk⟩
 |w::ws,s,f,h=>by
  rw [List.foldlM_cons] at h
  obtain ⟨t,h1,h2⟩:=Option.bind_eq_some_iff.1 h
  obtain ⟨g1,g2⟩:=JKa ws t f h2
  refine ⟨by rw [List.length_cons,JCo h1];exact g1,fun k v hk=>?_⟩
  cases k with
  |zero=>
   have:w=v:=by simpa using hk
   subst this
   rw [JB2,JCo h1,JB2];exact h1
  |succ k=>rw [JCo h1,JCo h1];exact g2 k v (by simpa using hk)
theorem JFx {s t:St}{w:Bs}(h:Y2 s w=some t):∃g,JAi w=some g∧(s.last.1=0∨s.last.2≠g.2)∧s.reads.length+g.1≤16∧t=⟨Jy g.2 g.1 s.reads,g⟩:=by
 unfold Y2 at h
 obtain ⟨g,h1,h2⟩:=Option.bind_eq_some_iff.1 h
 split at h2
 ·next hc=>cases h2;exact ⟨g,h1,hc.1,hc.2,rfl⟩
 ·cases h2
def JGc (r:List Int):Prop:=r≠[]∧r.length≤16∧0≤ZR r∧ZR r≤1000000000000*r.length
theorem JBp {r:List Int}{d:Int}(h:JGc r)(hd:0≤d∧d≤1000000000000):∀(j:Nat),r.length+j≤16→JGc (Jy d j r)
 |0,_=>h
 |j+1,hj=>by
  obtain ⟨h1,h2,h3,h4⟩:=JBp h hd j (by omega)
  rw [JCL]
  refine ⟨by simp,?_,?_,?_⟩
  ·rw [List.length_append,List.length_singleton,Zs];omega
  ·rw [JM2];omega
  ·rw [JM2,List.length_append,List.length_singleton,Zs]
   rw [Zs] at h4
   push_cast at h4 ⊢
   omega
end Go.Bk
namespace Go.Bk
theorem JRU {s f:St}{ws:List Bs}(hs:s.reads.length≤16)(h:ws.foldlM Y2 s=some f):f.reads.length≤16:=by
 obtain ⟨g1,g2⟩:=JKa ws s f h
 cases hn:ws.length with
 |zero=>
  have:ws=[]:=List.eq_nil_of_length_eq_zero hn
  subst this
  rw [List.length_nil,JB2] at g1
  rw [←g1];exact hs
 |succ n=>
  obtain ⟨w,hw⟩:∃w,ws[n]? = some w:=⟨_,List.getElem?_eq_getElem (by omega)⟩
  obtain ⟨g,_,_,h3,h4⟩:=JFx (g2 n w hw)
  rw [hn,h4] at g1
  rw [←g1]
  show (Jy g.2 g.1 _).length≤16
  rw [Zs];exact h3
theorem JNh {line:Bs}{pg:Pg}(h:Yc line=some pg):pg.reads.length≤16:=by
 unfold Yc at h
 split at h
 ·cases h
 ·split at h
  ·cases h;simp
  ·cases h
 ·split at h
  ·obtain ⟨sf,h1,h2⟩:=Option.map_eq_some_iff.1 h
   cases h2
   exact JRU (by simp) h1
  ·cases h
theorem mapM_at:∀(ls:List Bs) (l:List Pg),ls.mapM Yc=some l→l.length=ls.length∧∀(k:Nat) (line:Bs),ls[k]? = some line→∃pg:Pg,Yc line=some pg∧l[k]? = some pg
 |[],l,h=>by
  have:l=[]:=by simpa using h.symm
  subst this
  exact ⟨rfl,fun k line hk=>by simp at hk⟩
 |x::ls,l,h=>by
  rw [List.mapM_cons] at h
  obtain ⟨p,h1,h2⟩:=Option.bind_eq_some_iff.1 h
  obtain ⟨ps,h3,h4⟩:=Option.bind_eq_some_iff.1 h2
  cases h4
  obtain ⟨g1,g2⟩:=mapM_at ls ps h3
  refine ⟨by simp [g1],fun k line hk=>?_⟩
  cases k with
  |zero=>
   have:x=line:=by simpa using hk
   subst this
   exact ⟨p,h1,rfl⟩
  |succ k=>
   obtain ⟨pg,e1,e2⟩:=g2 k line (by simpa using hk)
   exact ⟨pg,e1,by simpa using e2⟩
theorem JNR:∀(ls:List Bs),ls.mapM Yc=none→∃(q:Nat) (line:Bs) (l:List Pg),ls[q]? = some line∧Yc line=none∧(ls.take q).mapM Yc=some l
 |[],h=>by cases h
 |x::ls,h=>by
  rw [List.mapM_cons] at h
  cases h1:Yc x with
  |none=>exact ⟨0,x,[],rfl,h1,rfl⟩
  |some p=>
   rw [h1] at h
   cases h2:ls.mapM Yc with
   |some ps=>rw [h2] at h;cases h
   |none=>
    obtain ⟨q,line,l,e1,e2,e3⟩:=JNR ls h2
    refine ⟨q+1,line,p::l,by simpa using e1,e2,?_⟩
    rw [List.take_succ_cons,List.mapM_cons,h1,e3];rfl
end Go.Bk
namespace Go.Mw
open Go.Proofs
open Go.Bk
attribute [local go_sem] decide_true beq_self_eq_true bne_self_eq_false
theorem JC4 (c:UInt8):∀(s w:Bs),w∈QP c s→w.length≤s.length
 |[],w,h=>by simp [QP] at h;subst h;simp
 |x::s,w,h=>by
  unfold QP at h
  split at h
  ·rcases List.mem_cons.1 h with h|h
   ·subst h;simp
   ·have:=JC4 c s w h;simp;omega
  ·split at h
   ·simp at h;subst h;simp
   ·next a r hc=>
    rcases List.mem_cons.1 h with h|h
    ·subst h
     have:=JC4 c s a (by rw [hc];simp)
     simp;omega
    ·have:=JC4 c s w (by rw [hc];simp [h])
     simp;omega
theorem JGn (c:UInt8):∀(s:Bs),(QP c s).length≤s.length+1
 |[]=>by simp [QP]
 |x::s=>by
  have ih:=JGn c s
  unfold QP
  split
  ·simp;omega
  ·split
   ·simp
   ·next a r hc=>rw [hc] at ih;simp at ih ⊢;omega
theorem JD6 {l:List Int}(h:l≠[]):l[l.length-1]? = some (ZR l):=by
 rw [←List.getLast?_eq_getElem?]
 unfold ZR
 cases hl:l.getLast? with
 |none=>exact absurd (List.getLast?_eq_none_iff.1 hl) h
 |some x=>rfl
theorem JD3 {w:Bs}{g:Nat × Int}(h:JAi w=some g):1≤g.1∧g.1≤16∧0≤g.2∧g.2<1000000000000:=by
 unfold JAi at h
 split at h
 ·split at h
  ·next hf=>cases h;have:=JDy hf;exact ⟨by simp,by simp,by simp,by show ((JW _:Nat):Int)<_;omega⟩
  ·cases h
 ·split at h
  ·next hf=>cases h;have:=JDy hf.1.2;exact ⟨by show 1≤JW _;omega,hf.2.2,by simp,by show ((JW _:Nat):Int)<_;omega⟩
  ·cases h
 ·cases h
theorem JQd (line h r:Bs)(ws:List Bs)(hc:QP 32 line=h::r::ws)(hl:line.length≤1000000000)(fh:Ql h=true)(fr:Ql r=true)(sf:St)(hf:ws.foldlM Y2 ⟨[(JW r:Int)],(0,0)⟩=some sf):Jf Tryz.prog 54 [.str line] (.val true [.d (.i (JW h:Nat)),.d (JDC sf.reads)]) []:=by
 have hwn:=JGn 32 line
 rw [hc] at hwn
 simp only [List.length_cons] at hwn
 have hsp:=JDq line 32 hl
 rw [hc] at hsp
 have hwl:=JC4 32 line
 rw [hc] at hwl
 obtain ⟨hsf,hstep⟩:=JKa ws _ sf hf
 have bh:=JDy fh
 have br:=JDy fr
 have hgt:decide (((ws.length:Int)+1+1)>1)=true:=decide_eq_true (by omega)
 have hgt2:decide ((((ws.length+1+1:Nat)):Int)>1)=true:=decide_eq_true (by omega)
 have htk:(((h::r::ws).map encStr)).take (h::r::ws).length=(h::r::ws).map encStr:=List.take_of_length_le (by simp)
 have hbs:∀k,k≤ws.length→JGc (Jg ⟨[(JW r:Int)],(0,0)⟩ ws k).reads:=fun k hk=>by
  induction k with
  |zero=>rw [JB2];exact ⟨by simp,by simp,by simp [ZR],by simp [ZR];omega⟩
  |succ k ih=>
   obtain ⟨w,hw⟩:∃w,ws[k]? = some w:=⟨_,List.getElem?_eq_getElem (by omega)⟩
   obtain ⟨g,g1,g2,g3,g4⟩:=JFx (hstep k w hw)
   rw [g4]
   have:=JD3 g1
   exact JBp (ih (by omega)) ⟨by omega,by omega⟩ g.1 (by omega)
 have h2n:Int.toNat 2=2:=rfl
 have htw:List.take ws.length (List.map encStr ws)=List.map encStr ws:=List.take_of_length_le (by simp)
 refine Jq Jj Tryz.func54 rfl JEf JL rfl ?_
 refine JB.reg ?_
 have X:=(((Fx.mk hgt).a hgt2).a h2n).a htw
 refine JA.o1 JQ ?_
 refine JA.nil (JB.reg ?_)
 refine JA.o1 JQ ?_
 refine JA.cal (hsp) Jr JQ Z4 (fr1 JF) JQ ?_
 refine JA.o1 JQ ?_
 have X:=Fx.mk htk
 refine JA.frz 11900 (by simp only [go_sem,X.h,List.map_cons,List.length_cons,List.length_map]<;>rfl) ?_
 refine JA.nil (JB.reg ?_)
 have X:=(((Fx.mk hgt).a hgt2).a h2n).a htw
 refine JA.o1 JQ ?_
 refine JA.o1 Z3 ?_
 refine JA.o1 JQ ?_
 refine JA.c1 (JAx h fh) JQ JQ ?_
 iterate 3 (refine JA.o1 JQ ?_)
 refine JA.nil (JB.assocS (JB.reg ?_))
 iterate 3 (refine JA.o1 JQ ?_)
 refine JA.nil ?_
 refine JB.cndS JQ (fun hb18=>?_) (fun hb18=>?_)
 ·skip
  refine JB.assocS (JB.reg ?_)
  refine JA.o1 JQ ?_
  refine JA.o1 Z3 ?_
  refine JA.o1 JQ ?_
  refine JA.c1 (JAx r fr) JQ JQ ?_
  iterate 3 (refine JA.o1 JQ ?_)
  refine JA.nil (JB.assocS (JB.reg ?_))
  iterate 3 (refine JA.o1 JQ ?_)
  refine JA.nil (JB.assocS (JB.reg ?_))
  refine JA.o1 JQ ?_
  refine JA.o1 Z3 ?_
  iterate 2 (refine JA.o1 JQ ?_)
  refine JA.nil (JB.blk ?_)
  refine JB.forA [2,4,5,27,28,29] [2,4,5,23] (ws.length) (fun k=>[.slot 29 (.int k),.obj 4 (.cells [.d (.i (JW h:Nat)),.own 23 0 (Jg ⟨[(JW r:Int)],(0,0)⟩ ws k).reads.length (Jg ⟨[(JW r:Int)],(0,0)⟩ ws k).reads.length]),.obj 23 (.arr 3 1 ((Jg ⟨[(JW r:Int)],(0,0)⟩ ws k).reads.map JAK)),.obj 5 (.cells [.d (.i ((Jg ⟨[(JW r:Int)],(0,0)⟩ ws k).last.1:Nat)),.d (.i (Jg ⟨[(JW r:Int)],(0,0)⟩ ws k).last.2)])]) (fun _=>True) (fun k=>by simp only [go_sem]<;>rfl) V28 ?_ (fun k hk hX=>?_)
  ·trivial
  ·skip
   refine JB.reg ?_
   refine JA.o1 JQ ?_
   refine JA.nil ?_
   refine JB.cndS JQ (fun hb30=>?_) (fun hb30=>?_)
   ·skip
    have hlt:k<ws.length:=by simpa using hb30
    obtain ⟨w,hw⟩:∃w,ws[k]? = some w:=⟨_,List.getElem?_eq_getElem hlt⟩
    obtain ⟨g,hg,hnb,hlen,hst⟩:=JFx (hstep k w hw)
    have hwk:w.length≤1000000000:=Nat.le_trans (hwl w (List.mem_cons_of_mem _ (List.mem_cons_of_mem _ (List.mem_of_getElem? hw)))) hl
    have hgb:=JD3 hg
    have hbk:=hbs k (by omega)
    have hal:=Zs g.2 g.1 (Jg ⟨[(JW r:Int)],(0,0)⟩ ws k).reads
    refine JB.skipS (JB.blk (JB.reg ?_))
    have X:=(X.a hw).a hst
    refine JA.o1 Z3 ?_
    iterate 2 (refine JA.o1 JQ ?_)
    refine JA.nil (JB.reg ?_)
    refine JA.o1 JQ ?_
    refine JA.c1 (JIg hwk hg) JQ JQ ?_
    iterate 2 (refine JA.o1 JQ ?_)
    refine JA.nil ?_
    by_cases h0:(Jg ⟨[(JW r:Int)],(0,0)⟩ ws k).last.1=0
    ·skip
     have e0:((((Jg ⟨[(JW r:Int)],(0,0)⟩ ws k).last.1:Nat):Int)==0)=true:=by rw [h0];rfl
     refine JB.reg ?_
     have X:=X.a e0
     iterate 4 (refine JA.o1 JQ ?_)
     iterate 5 (refine JA.s ?_)
     refine JA.o1 JQ ?_
     refine JA.c1 (ZF true rfl) JQ JQ ?_
     refine JA.nil (JB.assocS (JB.reg ?_))
     iterate 3 (refine JA.o1 JQ ?_)
     refine JA.nil (JB.blk ?_)
     refine JB.forA [2,4,5,8,27,28,29,47,48] [2,4,5,8,23] (g.1) (fun j=>[.slot 48 (.int j),.obj 4 (.cells [.d (.i (JW h:Nat)),.own 23 0 (Jy g.2 j (Jg ⟨[(JW r:Int)],(0,0)⟩ ws k).reads).length (Jy g.2 j (Jg ⟨[(JW r:Int)],(0,0)⟩ ws k).reads).length]),.obj 23 (.arr 3 1 ((Jy g.2 j (Jg ⟨[(JW r:Int)],(0,0)⟩ ws k).reads).map JAK))]) (fun _=>True) (fun j=>by simp only [go_sem]<;>rfl) V33 ?_ (fun j hj Xj=>?_)
     ·trivial
     ·skip
      refine JB.reg ?_
      refine JA.o1 JQ ?_
      refine JA.nil ?_
      refine JB.cndS JQ (fun hb49=>?_) (fun hb49=>?_)
      ·skip
       have hj:j<g.1:=by have:=of_decide_eq_true hb49;omega
       have hRl:=Zs g.2 j (Jg ⟨[(JW r:Int)],(0,0)⟩ ws k).reads
       have hbj:=JBp hbk ⟨hgb.2.2.1,by omega⟩ j (by omega)
       have hp1:1≤(Jy g.2 j (Jg ⟨[(JW r:Int)],(0,0)⟩ ws k).reads).length:=List.length_pos_iff.2 hbj.1
       have hlg:=JD6 hbj.1
       have hl16:decide (((Jy g.2 j (Jg ⟨[(JW r:Int)],(0,0)⟩ ws k).reads).length:Int)<16)=true:=decide_eq_true (by omega)
       have h1n:(((Jy g.2 j (Jg ⟨[(JW r:Int)],(0,0)⟩ ws k).reads).length:Int)-1).toNat=(Jy g.2 j (Jg ⟨[(JW r:Int)],(0,0)⟩ ws k).reads).length-1:=by omega
       have hsu:=JCL g.2 j (Jg ⟨[(JW r:Int)],(0,0)⟩ ws k).reads
       have hb3:=hbj.2.2.1
       have hb4:=hbj.2.2.2
       refine JB.skipS (JB.blk (JB.reg ?_))
       have X:=(((X.a hl16).a h1n).a hlg).a hsu
       iterate 4 (refine JA.o1 JQ ?_)
       refine JA.c1 (ZF true rfl) JQ JQ ?_
       refine JA.nil ?_
       refine JB.opk1 19 ?_
       iterate 7 (refine JG.o1 JQ ?_)
       refine JG.o1 Yw ?_
       refine JG.o1 Z3 ?_
       iterate 3 (refine JG.o1 JQ ?_)
       refine JG.o1 Yw ?_
       refine JG.o1 JQ ?_
       refine JG.o1 V3 ?_
       iterate 2 (refine JG.o1 JQ ?_)
       refine JG.nil (QK.finT JL JL JL ?_)
       refine JR.nrm (JB.reg1 ?_)
       refine JA.o1 Yw ?_
       refine JA.o1 JQ ?_
       refine JA.nil ?_
       refine JU.nxt ?_ ?_ ?_
       ·omega
       ·exact JN.kp [2,4,5,8,27,28,29,47,48] [2,4,5,8,23] V10
       ·trivial
      ·skip
       have hje:j=g.1:=by have:=of_decide_eq_false hb49;omega
       subst hje
       refine JB.exitS (JU.ext (JR.hit (JB.reg1 ?_)))
       iterate 2 (refine JA.o1 JQ ?_)
       refine JA.nil (JR.nrm (JB.reg1 ?_))
       refine JA.o1 Yw ?_
       refine JA.o1 JQ ?_
       refine JA.nil ?_
       refine JU.nxt ?_ ?_ ?_
       ·omega
       ·exact JN.kp [2,4,5,27,28,29] [2,4,5,23] V35
       ·trivial
    ·skip
     have e0:((((Jg ⟨[(JW r:Int)],(0,0)⟩ ws k).last.1:Nat):Int)==0)=false:=by simpa using h0
     have e5:((Jg ⟨[(JW r:Int)],(0,0)⟩ ws k).last.2 != g.2)=true:=by simpa using hnb.resolve_left h0
     refine JB.reg ?_
     have X:=(X.a e0).a e5
     iterate 4 (refine JA.o1 JQ ?_)
     iterate 5 (refine JA.y1 JQ ?_)
     refine JA.o1 JQ ?_
     refine JA.c1 (ZF true rfl) JQ JQ ?_
     refine JA.nil (JB.assocS (JB.reg ?_))
     iterate 3 (refine JA.o1 JQ ?_)
     refine JA.nil (JB.blk ?_)
     refine JB.forA [2,4,5,8,27,28,29,47,48] [2,4,5,8,23] (g.1) (fun j=>[.slot 48 (.int j),.obj 4 (.cells [.d (.i (JW h:Nat)),.own 23 0 (Jy g.2 j (Jg ⟨[(JW r:Int)],(0,0)⟩ ws k).reads).length (Jy g.2 j (Jg ⟨[(JW r:Int)],(0,0)⟩ ws k).reads).length]),.obj 23 (.arr 3 1 ((Jy g.2 j (Jg ⟨[(JW r:Int)],(0,0)⟩ ws k).reads).map JAK))]) (fun _=>True) (fun j=>by simp only [go_sem]<;>rfl) V33 ?_ (fun j hj Xj=>?_)
     ·trivial
     ·skip
      refine JB.reg ?_
      refine JA.o1 JQ ?_
      refine JA.nil ?_
      refine JB.cndS JQ (fun hb49=>?_) (fun hb49=>?_)
      ·skip
       have hj:j<g.1:=by have:=of_decide_eq_true hb49;omega
       have hRl:=Zs g.2 j (Jg ⟨[(JW r:Int)],(0,0)⟩ ws k).reads
       have hbj:=JBp hbk ⟨hgb.2.2.1,by omega⟩ j (by omega)
       have hp1:1≤(Jy g.2 j (Jg ⟨[(JW r:Int)],(0,0)⟩ ws k).reads).length:=List.length_pos_iff.2 hbj.1
       have hlg:=JD6 hbj.1
       have hl16:decide (((Jy g.2 j (Jg ⟨[(JW r:Int)],(0,0)⟩ ws k).reads).length:Int)<16)=true:=decide_eq_true (by omega)
       have h1n:(((Jy g.2 j (Jg ⟨[(JW r:Int)],(0,0)⟩ ws k).reads).length:Int)-1).toNat=(Jy g.2 j (Jg ⟨[(JW r:Int)],(0,0)⟩ ws k).reads).length-1:=by omega
       have hsu:=JCL g.2 j (Jg ⟨[(JW r:Int)],(0,0)⟩ ws k).reads
       have hb3:=hbj.2.2.1
       have hb4:=hbj.2.2.2
       refine JB.skipS (JB.blk (JB.reg ?_))
       have X:=(((X.a hl16).a h1n).a hlg).a hsu
       iterate 4 (refine JA.o1 JQ ?_)
       refine JA.c1 (ZF true rfl) JQ JQ ?_
       refine JA.nil ?_
       refine JB.opk1 19 ?_
       iterate 7 (refine JG.o1 JQ ?_)
       refine JG.o1 Yw ?_
       refine JG.o1 Z3 ?_
       iterate 3 (refine JG.o1 JQ ?_)
       refine JG.o1 Yw ?_
       refine JG.o1 JQ ?_
       refine JG.o1 V3 ?_
       iterate 2 (refine JG.o1 JQ ?_)
       refine JG.nil (QK.finT JL JL JL ?_)
       refine JR.nrm (JB.reg1 ?_)
       refine JA.o1 Yw ?_
       refine JA.o1 JQ ?_
       refine JA.nil ?_
       refine JU.nxt ?_ ?_ ?_
       ·omega
       ·exact JN.kp [2,4,5,8,27,28,29,47,48] [2,4,5,8,23] V10
       ·trivial
      ·skip
       have hje:j=g.1:=by have:=of_decide_eq_false hb49;omega
       subst hje
       refine JB.exitS (JU.ext (JR.hit (JB.reg1 ?_)))
       iterate 2 (refine JA.o1 JQ ?_)
       refine JA.nil (JR.nrm (JB.reg1 ?_))
       refine JA.o1 Yw ?_
       refine JA.o1 JQ ?_
       refine JA.nil ?_
       refine JU.nxt ?_ ?_ ?_
       ·omega
       ·exact JN.kp [2,4,5,27,28,29] [2,4,5,23] V35
       ·trivial
   ·skip
    have hke:k=ws.length:=by have h9:ws.length≤k:=(by simpa using hb30);omega
    subst hke
    have hta:List.take sf.reads.length (List.map JAK sf.reads)=List.map JAK sf.reads:=List.take_of_length_le (by simp)
    refine JB.exitS (JU.ext (JR.hit (JB.reg ?_)))
    have X:=Fx.mk hta
    refine JA.frz 23 JC ?_
    have X:=(((((Fx.mk hgt).a hgt2).a h2n).a htw).a hsf).a hta
    iterate 2 (refine JA.o1 JQ ?_)
    refine JA.nil ?_
    exact Ends.fin [] (rs:=[.cell 2 31]) rfl JQ (by simp only [go_sem,X.h,List.map_cons,List.length_cons,List.length_map,List.getElem?_cons_zero,List.getElem?_cons_succ,Int.toNat_zero,Int.toNat_one,List.drop_succ_cons,List.drop_zero]<;>first|rfl|exact QB)
 ·exact absurd hb18 (by simp)
end Go.Mw
namespace Go.Mw
open Go.Proofs
open Go.Bk
attribute [local go_sem] decide_true beq_self_eq_true bne_self_eq_false
theorem JQc (line h:Bs)(hc:QP 32 line=[h])(hl:line.length≤1000000000)(fh:Ql h=true):Jf Tryz.prog 54 [.str line] (.val true [.d (.i (JW h:Nat)),.d (.raw (.slice none 0 0))]) []:=by
 have hsp:=JDq line 32 hl
 rw [hc] at hsp
 have h11:decide (((0:Int)+1)>1)=false:=rfl
 have h12:decide ((1:Int)>1)=false:=rfl
 have h13:decide (((0+1:Nat):Int)>1)=false:=rfl
 have h14:decide (((1:Nat):Int)>1)=false:=rfl
 refine Jq Jj Tryz.func54 rfl JEf JL rfl ?_
 refine JB.reg ?_
 have X:=(((Fx.mk h11).a h12).a h13).a h14
 refine JA.o1 Yx ?_
 refine JA.nil (JB.reg ?_)
 refine JA.o1 Yx ?_
 refine JA.cal (hsp) Jr Yx Z4 (fr1 JF) Yx ?_
 refine JA.o1 Yx ?_
 refine JA.frz 11900 (by simp only [go_sem,List.map_cons,List.map_nil,List.length_cons,List.length_nil]<;>rfl) ?_
 refine JA.nil (JB.reg ?_)
 refine JA.o1 Yx ?_
 refine JA.o1 V25 ?_
 refine JA.o1 Yx ?_
 refine JA.c1 (JAx h fh) Yx Yx ?_
 iterate 3 (refine JA.o1 Yx ?_)
 refine JA.nil (JB.assocS (JB.reg ?_))
 iterate 3 (refine JA.o1 Yx ?_)
 refine JA.nil ?_
 refine JB.cndS Yx (fun hb18=>?_) (fun hb18=>?_)
 ·exact absurd hb18 (by simp)
 ·skip
  refine JB.skipS (JB.reg ?_)
  iterate 2 (refine JA.o1 Yx ?_)
  refine JA.nil ?_
  exact Ends.fin [] (rs:=[.cell 2 31]) rfl Yx (by simp only [go_sem,X.h,List.map_cons,List.map_nil,List.length_cons,List.length_nil,List.getElem?_cons_zero,Int.toNat_zero]<;>first|rfl|exact QB)
theorem JNf (line h:Bs)(t:List Bs)(hc:QP 32 line=h::t)(hl:line.length≤1000000000)(fh:Ql h=false)(hh:h.length≤1000000000):YW Tryz.prog QW 54 [.str line] []:=by
 have hsp:=JDq line 32 hl
 rw [hc] at hsp
 have h11:decide (((0:Int)+1)>1)=false:=rfl
 have h12:decide ((1:Int)>1)=false:=rfl
 have h13:decide (((0+1:Nat):Int)>1)=false:=rfl
 have h14:decide (((1:Nat):Int)>1)=false:=rfl
 refine JAC Jj Tryz.func54 rfl JEf JL rfl ?_
 refine JB.reg ?_
 have X:=(((Fx.mk h11).a h12).a h13).a h14
 refine JA.o1 Yx ?_
 refine JA.nil (JB.reg ?_)
 refine JA.o1 Yx ?_
 refine JA.cal (hsp) Jr Yx Z4 (fr1 JF) Yx ?_
 refine JA.o1 Yx ?_
 refine JA.frz 11900 (by simp only [go_sem,List.map_cons]<;>rfl) ?_
 refine JA.nil ?_
 refine JB.pan (pv:=QW) 3 rfl ?_
 refine JA.o1 Yx ?_
 refine JA.o1 V25 ?_
 refine JA.o1 Yx ?_
 exact JA.panc (JFf fh hh) Jr Yx YQ rfl
theorem Wk.nilV (a:AL)(k:Nat):Wk (.val true [a,.d (.raw (.slice none 0 0))]) (.val true [a,.d (.sl k [])]):=by
 intro S ι H w v ⟨vs,hv,ha⟩
 refine ⟨vs,hv,?_⟩
 match vs,ha with
 |[x,y],⟨h1,h2,h3⟩=>
  have h2':RepD S w (.raw (.slice none 0 0)) y:=h2
  cases h2'
  exact ⟨h1,RepD.nil _ _ _,h3⟩
theorem JQb (line h:Bs)(hc:QP 32 line=[h])(hl:line.length≤1000000000)(fh:Ql h=true):Jf Tryz.prog 54 [.str line] (.val true [.d (.i (JW h:Nat)),.d (JDC [])]) []:=
 (JQc line h hc hl fh).weak (Wk.nilV _ 1)
theorem JS4 (line h r:Bs)(t:List Bs)(hc:QP 32 line=h::r::t)(hl:line.length≤1000000000)(fh:Ql h=true)(fr:Ql r=false)(hr:r.length≤1000000000):YW Tryz.prog QW 54 [.str line] []:=by
 have hsp:=JDq line 32 hl
 rw [hc] at hsp
 have hgt:decide (((t.length:Int)+1+1)>1)=true:=decide_eq_true (by omega)
 have hgt2:decide ((((t.length+1+1:Nat)):Int)>1)=true:=decide_eq_true (by omega)
 refine JAC Jj Tryz.func54 rfl JEf JL rfl ?_
 refine JB.reg ?_
 have X:=(Fx.mk hgt).a hgt2
 refine JA.o1 V57 ?_
 refine JA.nil (JB.reg ?_)
 refine JA.o1 V57 ?_
 refine JA.cal (hsp) Jr V57 Z4 (fr1 JF) V57 ?_
 refine JA.o1 V57 ?_
 refine JA.frz 11900 (by simp only [go_sem,List.map_cons]<;>rfl) ?_
 refine JA.nil (JB.reg ?_)
 refine JA.o1 V57 ?_
 refine JA.o1 V22 ?_
 refine JA.o1 V57 ?_
 refine JA.c1 (JAx h fh) V57 V57 ?_
 iterate 3 (refine JA.o1 V57 ?_)
 refine JA.nil (JB.assocS (JB.reg ?_))
 iterate 3 (refine JA.o1 V57 ?_)
 refine JA.nil ?_
 refine JB.cndS V57 (fun hb18=>?_) (fun hb18=>?_)
 ·skip
  refine JB.assocS ?_
  refine JB.pan (pv:=QW) 3 rfl ?_
  refine JA.o1 V57 ?_
  refine JA.o1 V22 ?_
  refine JA.o1 V57 ?_
  exact JA.panc (JFf fr hr) Jr V57 YQ rfl
 ·skip
  exact absurd hb18 YF
end Go.Mw
namespace Go.Mw
open Go.Proofs
open Go.Bk
attribute [local go_sem] decide_true beq_self_eq_true bne_self_eq_false
theorem JS5 (line h r:Bs)(ws:List Bs)(hc:QP 32 line=h::r::ws)(hl:line.length≤1000000000)(fh:Ql h=true)(fr:Ql r=true)(q:Nat)(w0:Bs)(hw0:ws[q]? = some w0)(hstep:∀k w,k<q→ws[k]? = some w→Y2 (Jg ⟨[(JW r:Int)],(0,0)⟩ ws k) w=some (Jg ⟨[(JW r:Int)],(0,0)⟩ ws (k+1)))(hbad:Y2 (Jg ⟨[(JW r:Int)],(0,0)⟩ ws q) w0=none):YW Tryz.prog QW 54 [.str line] []:=by
 have hqw:=(List.getElem?_eq_some_iff.1 hw0).1
 have hwn:=JGn 32 line
 rw [hc] at hwn
 simp only [List.length_cons] at hwn
 have hsp:=JDq line 32 hl
 rw [hc] at hsp
 have hwl:=JC4 32 line
 rw [hc] at hwl
 have bh:=JDy fh
 have br:=JDy fr
 have hgt:decide (((ws.length:Int)+1+1)>1)=true:=decide_eq_true (by omega)
 have hgt2:decide ((((ws.length+1+1:Nat)):Int)>1)=true:=decide_eq_true (by omega)
 have htk:(((h::r::ws).map encStr)).take (h::r::ws).length=(h::r::ws).map encStr:=List.take_of_length_le (by simp)
 have hbs:∀k,k≤q→JGc (Jg ⟨[(JW r:Int)],(0,0)⟩ ws k).reads:=fun k hk=>by
  induction k with
  |zero=>rw [JB2];exact ⟨by simp,by simp,by simp [ZR],by simp [ZR];omega⟩
  |succ k ih=>
   obtain ⟨w,hw⟩:∃w,ws[k]? = some w:=⟨_,List.getElem?_eq_getElem (by omega)⟩
   obtain ⟨g,g1,g2,g3,g4⟩:=JFx (hstep k w (by omega) hw)
   rw [g4]
   have:=JD3 g1
   exact JBp (ih (by omega)) ⟨by omega,by omega⟩ g.1 (by omega)
 have h2n:Int.toNat 2=2:=rfl
 have htw:List.take ws.length (List.map encStr ws)=List.map encStr ws:=List.take_of_length_le (by simp)
 refine JAC Jj Tryz.func54 rfl JEf JL rfl ?_
 refine JB.reg ?_
 have X:=(((Fx.mk hgt).a hgt2).a h2n).a htw
 refine JA.o1 JQ ?_
 refine JA.nil (JB.reg ?_)
 refine JA.o1 JQ ?_
 refine JA.cal (hsp) Jr JQ Z4 (fr1 JF) JQ ?_
 refine JA.o1 JQ ?_
 have X:=Fx.mk htk
 refine JA.frz 11900 (by simp only [go_sem,X.h,List.map_cons,List.length_cons,List.length_map]<;>rfl) ?_
 refine JA.nil (JB.reg ?_)
 have X:=(((Fx.mk hgt).a hgt2).a h2n).a htw
 refine JA.o1 JQ ?_
 refine JA.o1 Z3 ?_
 refine JA.o1 JQ ?_
 refine JA.c1 (JAx h fh) JQ JQ ?_
 iterate 3 (refine JA.o1 JQ ?_)
 refine JA.nil (JB.assocS (JB.reg ?_))
 iterate 3 (refine JA.o1 JQ ?_)
 refine JA.nil ?_
 refine JB.cndS JQ (fun hb18=>?_) (fun hb18=>?_)
 ·skip
  refine JB.assocS (JB.reg ?_)
  refine JA.o1 JQ ?_
  refine JA.o1 Z3 ?_
  refine JA.o1 JQ ?_
  refine JA.c1 (JAx r fr) JQ JQ ?_
  iterate 3 (refine JA.o1 JQ ?_)
  refine JA.nil (JB.assocS (JB.reg ?_))
  iterate 3 (refine JA.o1 JQ ?_)
  refine JA.nil (JB.assocS (JB.reg ?_))
  refine JA.o1 JQ ?_
  refine JA.o1 Z3 ?_
  iterate 2 (refine JA.o1 JQ ?_)
  refine JA.nil (JB.blk ?_)
  refine JB.forA [2,4,5,27,28,29] [2,4,5,23] (q) (fun k=>[.slot 29 (.int k),.obj 4 (.cells [.d (.i (JW h:Nat)),.own 23 0 (Jg ⟨[(JW r:Int)],(0,0)⟩ ws k).reads.length (Jg ⟨[(JW r:Int)],(0,0)⟩ ws k).reads.length]),.obj 23 (.arr 3 1 ((Jg ⟨[(JW r:Int)],(0,0)⟩ ws k).reads.map JAK)),.obj 5 (.cells [.d (.i ((Jg ⟨[(JW r:Int)],(0,0)⟩ ws k).last.1:Nat)),.d (.i (Jg ⟨[(JW r:Int)],(0,0)⟩ ws k).last.2)])]) (fun _=>True) (fun k=>by simp only [go_sem]<;>rfl) V28 ?_ (fun k hk hX=>?_)
  ·trivial
  ·skip
   refine JB.reg ?_
   refine JA.o1 JQ ?_
   refine JA.nil ?_
   refine JB.cndS JQ (fun hb30=>?_) (fun hb30=>?_)
   ·skip
    have hlt:k<ws.length:=by omega
    refine JB.skipS (JB.blk ?_)
    by_cases hkq:k<q
    ·skip
     obtain ⟨w,hw⟩:∃w,ws[k]? = some w:=⟨_,List.getElem?_eq_getElem (by omega)⟩
     obtain ⟨g,hg,hnb,hlen,hst⟩:=JFx (hstep k w hkq hw)
     have hwk:w.length≤1000000000:=Nat.le_trans (hwl w (List.mem_cons_of_mem _ (List.mem_cons_of_mem _ (List.mem_of_getElem? hw)))) hl
     have hgb:=JD3 hg
     have hbk:=hbs k (by omega)
     have hal:=Zs g.2 g.1 (Jg ⟨[(JW r:Int)],(0,0)⟩ ws k).reads
     refine JB.reg ?_
     have X:=(X.a hw).a hst
     refine JA.o1 Z3 ?_
     iterate 2 (refine JA.o1 JQ ?_)
     refine JA.nil (JB.reg ?_)
     refine JA.o1 JQ ?_
     refine JA.c1 (JIg hwk hg) JQ JQ ?_
     iterate 2 (refine JA.o1 JQ ?_)
     refine JA.nil ?_
     by_cases h0:(Jg ⟨[(JW r:Int)],(0,0)⟩ ws k).last.1=0
     ·skip
      have e0:((((Jg ⟨[(JW r:Int)],(0,0)⟩ ws k).last.1:Nat):Int)==0)=true:=by rw [h0];rfl
      refine JB.reg ?_
      have X:=X.a e0
      iterate 4 (refine JA.o1 JQ ?_)
      iterate 5 (refine JA.s ?_)
      refine JA.o1 JQ ?_
      refine JA.c1 (ZF true rfl) JQ JQ ?_
      refine JA.nil (JB.assocS (JB.reg ?_))
      iterate 3 (refine JA.o1 JQ ?_)
      refine JA.nil (JB.blk ?_)
      refine JB.forA [2,4,5,8,27,28,29,47,48] [2,4,5,8,23] (g.1) (fun j=>[.slot 48 (.int j),.obj 4 (.cells [.d (.i (JW h:Nat)),.own 23 0 (Jy g.2 j (Jg ⟨[(JW r:Int)],(0,0)⟩ ws k).reads).length (Jy g.2 j (Jg ⟨[(JW r:Int)],(0,0)⟩ ws k).reads).length]),.obj 23 (.arr 3 1 ((Jy g.2 j (Jg ⟨[(JW r:Int)],(0,0)⟩ ws k).reads).map JAK))]) (fun _=>True) (fun j=>by simp only [go_sem]<;>rfl) V33 ?_ (fun j hj Xj=>?_)
      ·trivial
      ·skip
       refine JB.reg ?_
       refine JA.o1 JQ ?_
       refine JA.nil ?_
       refine JB.cndS JQ (fun hb49=>?_) (fun hb49=>?_)
       ·skip
        have hj:j<g.1:=by have:=of_decide_eq_true hb49;omega
        have hRl:=Zs g.2 j (Jg ⟨[(JW r:Int)],(0,0)⟩ ws k).reads
        have hbj:=JBp hbk ⟨hgb.2.2.1,by omega⟩ j (by omega)
        have hp1:1≤(Jy g.2 j (Jg ⟨[(JW r:Int)],(0,0)⟩ ws k).reads).length:=List.length_pos_iff.2 hbj.1
        have hlg:=JD6 hbj.1
        have hl16:decide (((Jy g.2 j (Jg ⟨[(JW r:Int)],(0,0)⟩ ws k).reads).length:Int)<16)=true:=decide_eq_true (by omega)
        have h1n:(((Jy g.2 j (Jg ⟨[(JW r:Int)],(0,0)⟩ ws k).reads).length:Int)-1).toNat=(Jy g.2 j (Jg ⟨[(JW r:Int)],(0,0)⟩ ws k).reads).length-1:=by omega
        have hsu:=JCL g.2 j (Jg ⟨[(JW r:Int)],(0,0)⟩ ws k).reads
        have hb3:=hbj.2.2.1
        have hb4:=hbj.2.2.2
        refine JB.skipS (JB.blk (JB.reg ?_))
        have X:=(((X.a hl16).a h1n).a hlg).a hsu
        iterate 4 (refine JA.o1 JQ ?_)
        refine JA.c1 (ZF true rfl) JQ JQ ?_
        refine JA.nil ?_
        refine JB.opk1 19 ?_
        iterate 7 (refine JG.o1 JQ ?_)
        refine JG.o1 Yw ?_
        refine JG.o1 Z3 ?_
        iterate 3 (refine JG.o1 JQ ?_)
        refine JG.o1 Yw ?_
        refine JG.o1 JQ ?_
        refine JG.o1 V3 ?_
        iterate 2 (refine JG.o1 JQ ?_)
        refine JG.nil (QK.finT JL JL JL ?_)
        refine JR.nrm (JB.reg1 ?_)
        refine JA.o1 Yw ?_
        refine JA.o1 JQ ?_
        refine JA.nil ?_
        refine JU.nxt ?_ ?_ ?_
        ·omega
        ·exact JN.kp [2,4,5,8,27,28,29,47,48] [2,4,5,8,23] V10
        ·trivial
       ·skip
        have hje:j=g.1:=by have:=of_decide_eq_false hb49;omega
        subst hje
        refine JB.exitS (JU.ext (JR.hit (JB.reg1 ?_)))
        iterate 2 (refine JA.o1 JQ ?_)
        refine JA.nil (JR.nrm (JB.reg1 ?_))
        refine JA.o1 Yw ?_
        refine JA.o1 JQ ?_
        refine JA.nil ?_
        refine JU.nxt ?_ ?_ ?_
        ·omega
        ·exact JN.kp [2,4,5,27,28,29] [2,4,5,23] V35
        ·trivial
     ·skip
      have e0:((((Jg ⟨[(JW r:Int)],(0,0)⟩ ws k).last.1:Nat):Int)==0)=false:=by simpa using h0
      have e5:((Jg ⟨[(JW r:Int)],(0,0)⟩ ws k).last.2 != g.2)=true:=by simpa using hnb.resolve_left h0
      refine JB.reg ?_
      have X:=(X.a e0).a e5
      iterate 4 (refine JA.o1 JQ ?_)
      iterate 5 (refine JA.y1 JQ ?_)
      refine JA.o1 JQ ?_
      refine JA.c1 (ZF true rfl) JQ JQ ?_
      refine JA.nil (JB.assocS (JB.reg ?_))
      iterate 3 (refine JA.o1 JQ ?_)
      refine JA.nil (JB.blk ?_)
      refine JB.forA [2,4,5,8,27,28,29,47,48] [2,4,5,8,23] (g.1) (fun j=>[.slot 48 (.int j),.obj 4 (.cells [.d (.i (JW h:Nat)),.own 23 0 (Jy g.2 j (Jg ⟨[(JW r:Int)],(0,0)⟩ ws k).reads).length (Jy g.2 j (Jg ⟨[(JW r:Int)],(0,0)⟩ ws k).reads).length]),.obj 23 (.arr 3 1 ((Jy g.2 j (Jg ⟨[(JW r:Int)],(0,0)⟩ ws k).reads).map JAK))]) (fun _=>True) (fun j=>by simp only [go_sem]<;>rfl) V33 ?_ (fun j hj Xj=>?_)
      ·trivial
      ·skip
       refine JB.reg ?_
       refine JA.o1 JQ ?_
       refine JA.nil ?_
       refine JB.cndS JQ (fun hb49=>?_) (fun hb49=>?_)
       ·skip
        have hj:j<g.1:=by have:=of_decide_eq_true hb49;omega
        have hRl:=Zs g.2 j (Jg ⟨[(JW r:Int)],(0,0)⟩ ws k).reads
        have hbj:=JBp hbk ⟨hgb.2.2.1,by omega⟩ j (by omega)
        have hp1:1≤(Jy g.2 j (Jg ⟨[(JW r:Int)],(0,0)⟩ ws k).reads).length:=List.length_pos_iff.2 hbj.1
        have hlg:=JD6 hbj.1
        have hl16:decide (((Jy g.2 j (Jg ⟨[(JW r:Int)],(0,0)⟩ ws k).reads).length:Int)<16)=true:=decide_eq_true (by omega)
        have h1n:(((Jy g.2 j (Jg ⟨[(JW r:Int)],(0,0)⟩ ws k).reads).length:Int)-1).toNat=(Jy g.2 j (Jg ⟨[(JW r:Int)],(0,0)⟩ ws k).reads).length-1:=by omega
        have hsu:=JCL g.2 j (Jg ⟨[(JW r:Int)],(0,0)⟩ ws k).reads
        have hb3:=hbj.2.2.1
        have hb4:=hbj.2.2.2
        refine JB.skipS (JB.blk (JB.reg ?_))
        have X:=(((X.a hl16).a h1n).a hlg).a hsu
        iterate 4 (refine JA.o1 JQ ?_)
        refine JA.c1 (ZF true rfl) JQ JQ ?_
        refine JA.nil ?_
        refine JB.opk1 19 ?_
        iterate 7 (refine JG.o1 JQ ?_)
        refine JG.o1 Yw ?_
        refine JG.o1 Z3 ?_
        iterate 3 (refine JG.o1 JQ ?_)
        refine JG.o1 Yw ?_
        refine JG.o1 JQ ?_
        refine JG.o1 V3 ?_
        iterate 2 (refine JG.o1 JQ ?_)
        refine JG.nil (QK.finT JL JL JL ?_)
        refine JR.nrm (JB.reg1 ?_)
        refine JA.o1 Yw ?_
        refine JA.o1 JQ ?_
        refine JA.nil ?_
        refine JU.nxt ?_ ?_ ?_
        ·omega
        ·exact JN.kp [2,4,5,8,27,28,29,47,48] [2,4,5,8,23] V10
        ·trivial
       ·skip
        have hje:j=g.1:=by have:=of_decide_eq_false hb49;omega
        subst hje
        refine JB.exitS (JU.ext (JR.hit (JB.reg1 ?_)))
        iterate 2 (refine JA.o1 JQ ?_)
        refine JA.nil (JR.nrm (JB.reg1 ?_))
        refine JA.o1 Yw ?_
        refine JA.o1 JQ ?_
        refine JA.nil ?_
        refine JU.nxt ?_ ?_ ?_
        ·omega
        ·exact JN.kp [2,4,5,27,28,29] [2,4,5,23] V35
        ·trivial
    ·skip
     have hkq2:k=q:=by omega
     subst hkq2
     have hwk:w0.length≤1000000000:=Nat.le_trans (hwl w0 (List.mem_cons_of_mem _ (List.mem_cons_of_mem _ (List.mem_of_getElem? hw0)))) hl
     have hbk:=hbs k (by omega)
     by_cases hgn:JAi w0=none
     ·skip
      skip
      refine JB.reg ?_
      have X:=X.a hw0
      refine JA.o1 Z3 ?_
      iterate 2 (refine JA.o1 JQ ?_)
      refine JA.nil ?_
      refine JB.pan (pv:=QW) 1 rfl ?_
      refine JA.o1 JQ ?_
      exact JA.panc (JS0 hwk hgn) Jr JQ YQ rfl
     ·skip
      obtain ⟨g0,hg0⟩:=Option.ne_none_iff_exists'.1 hgn
      refine JB.reg ?_
      have X:=X.a hw0
      refine JA.o1 Z3 ?_
      iterate 2 (refine JA.o1 JQ ?_)
      refine JA.nil (JB.reg ?_)
      refine JA.o1 JQ ?_
      refine JA.c1 (JIg hwk hg0) JQ JQ ?_
      iterate 2 (refine JA.o1 JQ ?_)
      refine JA.nil ?_
      by_cases h0:(Jg ⟨[(JW r:Int)],(0,0)⟩ ws k).last.1=0
      ·skip
       have hn3:16<(Jg ⟨[(JW r:Int)],(0,0)⟩ ws k).reads.length+g0.1:=by
        rcases Nat.lt_or_ge 16 ((Jg ⟨[(JW r:Int)],(0,0)⟩ ws k).reads.length+g0.1) with h|h
        ·exact h
        ·exfalso
         unfold Y2 at hbad
         rw [hg0] at hbad
         simp only [Option.bind_some] at hbad
         rw [if_pos ⟨.inl h0,h⟩] at hbad
         cases hbad
       have e0:((((Jg ⟨[(JW r:Int)],(0,0)⟩ ws k).last.1:Nat):Int)==0)=true:=by rw [h0];rfl
       refine JB.reg ?_
       have X:=X.a e0
       iterate 4 (refine JA.o1 JQ ?_)
       iterate 5 (refine JA.s ?_)
       refine JA.o1 JQ ?_
       refine JA.c1 (ZF true rfl) JQ JQ ?_
       refine JA.nil (JB.assocS (JB.reg ?_))
       iterate 3 (refine JA.o1 JQ ?_)
       refine JA.nil (JB.blk ?_)
       refine JB.forA [2,4,5,8,27,28,29,47,48] [2,4,5,8,23] ((16-(Jg ⟨[(JW r:Int)],(0,0)⟩ ws k).reads.length)) (fun j=>[.slot 48 (.int j),.obj 4 (.cells [.d (.i (JW h:Nat)),.own 23 0 (Jy g0.2 j (Jg ⟨[(JW r:Int)],(0,0)⟩ ws k).reads).length (Jy g0.2 j (Jg ⟨[(JW r:Int)],(0,0)⟩ ws k).reads).length]),.obj 23 (.arr 3 1 ((Jy g0.2 j (Jg ⟨[(JW r:Int)],(0,0)⟩ ws k).reads).map JAK))]) (fun _=>True) (fun j=>by simp only [go_sem]<;>rfl) V33 ?_ (fun j hj Xj=>?_)
       ·trivial
       ·skip
        refine JB.reg ?_
        refine JA.o1 JQ ?_
        refine JA.nil ?_
        refine JB.cndS JQ (fun hb49=>?_) (fun hb49=>?_)
        ·skip
         have hgb0:=JD3 hg0
         have hal0:=Zs g0.2 j (Jg ⟨[(JW r:Int)],(0,0)⟩ ws k).reads
         refine JB.skipS (JB.blk ?_)
         by_cases hju:j<16-(Jg ⟨[(JW r:Int)],(0,0)⟩ ws k).reads.length
         ·skip
          have hRl:=Zs g0.2 j (Jg ⟨[(JW r:Int)],(0,0)⟩ ws k).reads
          have hbj:=JBp hbk ⟨hgb0.2.2.1,by omega⟩ j (by omega)
          have hp1:1≤(Jy g0.2 j (Jg ⟨[(JW r:Int)],(0,0)⟩ ws k).reads).length:=List.length_pos_iff.2 hbj.1
          have hlg:=JD6 hbj.1
          have hl16:decide (((Jy g0.2 j (Jg ⟨[(JW r:Int)],(0,0)⟩ ws k).reads).length:Int)<16)=true:=decide_eq_true (by omega)
          have h1n:(((Jy g0.2 j (Jg ⟨[(JW r:Int)],(0,0)⟩ ws k).reads).length:Int)-1).toNat=(Jy g0.2 j (Jg ⟨[(JW r:Int)],(0,0)⟩ ws k).reads).length-1:=by omega
          have hsu:=JCL g0.2 j (Jg ⟨[(JW r:Int)],(0,0)⟩ ws k).reads
          have hb3:=hbj.2.2.1
          have hb4:=hbj.2.2.2
          refine JB.reg ?_
          have X:=(((X.a hl16).a h1n).a hlg).a hsu
          iterate 4 (refine JA.o1 JQ ?_)
          refine JA.c1 (ZF true rfl) JQ JQ ?_
          refine JA.nil ?_
          refine JB.opk1 19 ?_
          iterate 7 (refine JG.o1 JQ ?_)
          refine JG.o1 Yw ?_
          refine JG.o1 Z3 ?_
          iterate 3 (refine JG.o1 JQ ?_)
          refine JG.o1 Yw ?_
          refine JG.o1 JQ ?_
          refine JG.o1 V3 ?_
          iterate 2 (refine JG.o1 JQ ?_)
          refine JG.nil (QK.finT JL JL JL ?_)
          refine JR.nrm (JB.reg1 ?_)
          refine JA.o1 Yw ?_
          refine JA.o1 JQ ?_
          refine JA.nil ?_
          refine JU.nxt ?_ ?_ ?_
          ·omega
          ·exact JN.kp [2,4,5,8,27,28,29,47,48] [2,4,5,8,23] V10
          ·trivial
         ·skip
          have hl16:decide (((Jy g0.2 j (Jg ⟨[(JW r:Int)],(0,0)⟩ ws k).reads).length:Int)<16)=false:=decide_eq_false (by have:=hbk.2.1;omega)
          refine JB.pan (pv:=QW) 4 rfl ?_
          have X:=X.a hl16
          iterate 4 (refine JA.o1 JQ ?_)
          exact JA.panc (JBO false rfl) Jr JQ YQ rfl
        ·skip
         exact absurd (of_decide_eq_false hb49) (by have:=hbk.2.1;omega)
      ·skip
       have e0:((((Jg ⟨[(JW r:Int)],(0,0)⟩ ws k).last.1:Nat):Int)==0)=false:=by simpa using h0
       by_cases h5:(Jg ⟨[(JW r:Int)],(0,0)⟩ ws k).last.2=g0.2
       ·skip
        have e5:((Jg ⟨[(JW r:Int)],(0,0)⟩ ws k).last.2 != g0.2)=false:=by simpa using h5
        refine JB.pan (pv:=QW) 10 rfl ?_
        have X:=(X.a e0).a e5
        iterate 4 (refine JA.o1 JQ ?_)
        iterate 5 (refine JA.y1 JQ ?_)
        refine JA.o1 JQ ?_
        exact JA.panc (JBO false rfl) Jr JQ YQ rfl
       ·skip
        have hn3:16<(Jg ⟨[(JW r:Int)],(0,0)⟩ ws k).reads.length+g0.1:=by
         rcases Nat.lt_or_ge 16 ((Jg ⟨[(JW r:Int)],(0,0)⟩ ws k).reads.length+g0.1) with h|h
         ·exact h
         ·exfalso
          unfold Y2 at hbad
          rw [hg0] at hbad
          simp only [Option.bind_some] at hbad
          rw [if_pos ⟨.inr h5,h⟩] at hbad
          cases hbad
        have e5:((Jg ⟨[(JW r:Int)],(0,0)⟩ ws k).last.2 != g0.2)=true:=by simpa using h5
        refine JB.reg ?_
        have X:=(X.a e0).a e5
        iterate 4 (refine JA.o1 JQ ?_)
        iterate 5 (refine JA.y1 JQ ?_)
        refine JA.o1 JQ ?_
        refine JA.c1 (ZF true rfl) JQ JQ ?_
        refine JA.nil (JB.assocS (JB.reg ?_))
        iterate 3 (refine JA.o1 JQ ?_)
        refine JA.nil (JB.blk ?_)
        refine JB.forA [2,4,5,8,27,28,29,47,48] [2,4,5,8,23] ((16-(Jg ⟨[(JW r:Int)],(0,0)⟩ ws k).reads.length)) (fun j=>[.slot 48 (.int j),.obj 4 (.cells [.d (.i (JW h:Nat)),.own 23 0 (Jy g0.2 j (Jg ⟨[(JW r:Int)],(0,0)⟩ ws k).reads).length (Jy g0.2 j (Jg ⟨[(JW r:Int)],(0,0)⟩ ws k).reads).length]),.obj 23 (.arr 3 1 ((Jy g0.2 j (Jg ⟨[(JW r:Int)],(0,0)⟩ ws k).reads).map JAK))]) (fun _=>True) (fun j=>by simp only [go_sem]<;>rfl) V33 ?_ (fun j hj Xj=>?_)
        ·trivial
        ·skip
         refine JB.reg ?_
         refine JA.o1 JQ ?_
         refine JA.nil ?_
         refine JB.cndS JQ (fun hb49=>?_) (fun hb49=>?_)
         ·skip
          have hgb0:=JD3 hg0
          have hal0:=Zs g0.2 j (Jg ⟨[(JW r:Int)],(0,0)⟩ ws k).reads
          refine JB.skipS (JB.blk ?_)
          by_cases hju:j<16-(Jg ⟨[(JW r:Int)],(0,0)⟩ ws k).reads.length
          ·skip
           have hRl:=Zs g0.2 j (Jg ⟨[(JW r:Int)],(0,0)⟩ ws k).reads
           have hbj:=JBp hbk ⟨hgb0.2.2.1,by omega⟩ j (by omega)
           have hp1:1≤(Jy g0.2 j (Jg ⟨[(JW r:Int)],(0,0)⟩ ws k).reads).length:=List.length_pos_iff.2 hbj.1
           have hlg:=JD6 hbj.1
           have hl16:decide (((Jy g0.2 j (Jg ⟨[(JW r:Int)],(0,0)⟩ ws k).reads).length:Int)<16)=true:=decide_eq_true (by omega)
           have h1n:(((Jy g0.2 j (Jg ⟨[(JW r:Int)],(0,0)⟩ ws k).reads).length:Int)-1).toNat=(Jy g0.2 j (Jg ⟨[(JW r:Int)],(0,0)⟩ ws k).reads).length-1:=by omega
           have hsu:=JCL g0.2 j (Jg ⟨[(JW r:Int)],(0,0)⟩ ws k).reads
           have hb3:=hbj.2.2.1
           have hb4:=hbj.2.2.2
           refine JB.reg ?_
           have X:=(((X.a hl16).a h1n).a hlg).a hsu
           iterate 4 (refine JA.o1 JQ ?_)
           refine JA.c1 (ZF true rfl) JQ JQ ?_
           refine JA.nil ?_
           refine JB.opk1 19 ?_
           iterate 7 (refine JG.o1 JQ ?_)
           refine JG.o1 Yw ?_
           refine JG.o1 Z3 ?_
           iterate 3 (refine JG.o1 JQ ?_)
           refine JG.o1 Yw ?_
           refine JG.o1 JQ ?_
           refine JG.o1 V3 ?_
           iterate 2 (refine JG.o1 JQ ?_)
           refine JG.nil (QK.finT JL JL JL ?_)
           refine JR.nrm (JB.reg1 ?_)
           refine JA.o1 Yw ?_
           refine JA.o1 JQ ?_
           refine JA.nil ?_
           refine JU.nxt ?_ ?_ ?_
           ·omega
           ·exact JN.kp [2,4,5,8,27,28,29,47,48] [2,4,5,8,23] V10
           ·trivial
          ·skip
           have hl16:decide (((Jy g0.2 j (Jg ⟨[(JW r:Int)],(0,0)⟩ ws k).reads).length:Int)<16)=false:=decide_eq_false (by have:=hbk.2.1;omega)
           refine JB.pan (pv:=QW) 4 rfl ?_
           have X:=X.a hl16
           iterate 4 (refine JA.o1 JQ ?_)
           exact JA.panc (JBO false rfl) Jr JQ YQ rfl
         ·skip
          exact absurd (of_decide_eq_false hb49) (by have:=hbk.2.1;omega)
   ·skip
    exact absurd hb30 YF
 ·exact absurd hb18 (by simp)
end Go.Mw
namespace Go.Mw
open Go.Proofs Go.Bk
theorem JOt:∀(ws:List Bs) (s:St),ws.foldlM Y2 s=none→∃q w0,ws[q]? = some w0∧(∀k w,k<q→ws[k]? = some w→Y2 (Jg s ws k) w=some (Jg s ws (k+1)))∧Y2 (Jg s ws q) w0=none
 |[],s,h=>by cases h
 |w::ws,s,h=>by
  rw [List.foldlM_cons] at h
  cases h1:Y2 s w with
  |none=>exact ⟨0,w,rfl,fun k _ hk=>absurd hk (by omega),by rw [JB2];exact h1⟩
  |some t=>
   rw [h1] at h
   obtain ⟨q,w0,g1,g2,g3⟩:=JOt ws t h
   refine ⟨q+1,w0,by simpa using g1,fun k v hk hv=>?_,by rw [JCo h1];exact g3⟩
   cases k with
   |zero=>
    have:w=v:=by simpa using hv
    subst this
    rw [JB2,JCo h1,JB2];exact h1
   |succ k=>rw [JCo h1,JCo h1];exact g2 k v (by omega) (by simpa using hv)
theorem JIj {line:Bs}{pg:Pg}(hl:line.length≤1000000000)(h:Yc line=some pg):Jf Tryz.prog 54 [.str line] (pgV pg) []:=by
 unfold Yc at h
 split at h
 ·cases h
 ·next x hc=>
  split at h
  ·next hf=>cases h;exact JQb line x hc hl hf
  ·cases h
 ·next x r ws hc=>
  split at h
  ·next hf=>
   obtain ⟨sf,h1,h2⟩:=Option.map_eq_some_iff.1 h
   cases h2
   exact JQd line x r ws hc hl hf.1 hf.2 sf h1
  ·cases h
theorem JS3 {line:Bs}(hl:line.length≤1000000000)(h:Yc line=none):YW Tryz.prog QW 54 [.str line] []:=by
 unfold Yc at h
 have hcl:=JC4 32 line
 split at h
 ·next hc=>exact absurd hc (JDt 32 line)
 ·next x hc=>
  have hx:=hcl x (by rw [hc];simp)
  cases hf:Ql x with
  |true=>rw [hf,if_pos rfl] at h;cases h
  |false=>exact JNf line x [] hc hl hf (by omega)
 ·next x r ws hc=>
  have hx:=hcl x (by rw [hc];simp)
  have hr:=hcl r (by rw [hc];simp)
  cases hf:Ql x with
  |false=>exact JNf line x (r::ws) hc hl hf (by omega)
  |true=>
   cases hg:Ql r with
   |false=>exact JS4 line x r ws hc hl hf hg (by omega)
   |true=>
    rw [hf,hg,if_pos ⟨rfl,rfl⟩,Option.map_eq_none_iff] at h
    obtain ⟨q,w0,g1,g2,g3⟩:=JOt ws _ h
    exact JS5 line x r ws hc hl hf hg q w0 g1 g2 g3
end Go.Mw
namespace Go.Mw
open Go.Proofs
open Go.Bk
attribute [local go_sem] decide_true beq_self_eq_true bne_self_eq_false
theorem JQU (l:List Pg)(most:Nat)(h:most<l.length)(hl:l.length≤1000000000000):Jf Tryz.prog 99 [.leaf (.d (JA7 l)),.int most,.leaf (.d (.fn 100 [])),.leaf (.d (.fn 101 []))] (.int 3) []:=by
 refine Jq Jj Tryz.func99 rfl (by simp only [List.length_cons,List.length_nil,Tryz.ntmps99];omega) JL rfl ?_
 refine JB.reg ?_
 iterate 2 (refine JA.o1 JEh ?_)
 refine JA.nil (JB.blk (JB.reg ?_))
 iterate 5 (refine JA.o1 JEh ?_)
 refine JA.nil ?_
 refine JB.cnd JEh (fun hb10=>?_) (fun hb10=>?_)
 ·skip
  refine JB.reg ?_
  refine JA.o1 JEh ?_
  refine JA.nil (JR.ret ?_)
  exact Ends.fin [] (rs:=[.tmp 8]) rfl JEh (by simp only [go_sem,gt_iff_lt]<;>first|rfl|exact QB)
 ·skip
  exact absurd (of_decide_eq_false hb10) (by omega)
theorem JQV (l:List Pg)(h:32<l.length)(hl:l.length≤1000000000000):Jf Tryz.prog 45 [.leaf (.d (JA7 l))] (.int 3) []:=by
 refine Jq Jj Tryz.func45 rfl (by simp only [List.length_cons,List.length_nil,Tryz.ntmps45];omega) JL rfl ?_
 refine JB.reg ?_
 refine JA.o ?_
 refine JA.nil (JB.reg ?_)
 refine JA.o ?_
 refine JA.c1 (JQU l 32 h hl) JF JF ?_
 refine JA.o ?_
 refine JA.nil ?_
 exact Ends.fin [] (rs:=[.tmp 2]) rfl JF Y3
end Go.Mw
namespace Go.Mw
open Go.Proofs
open Go.Bk
attribute [local go_sem] decide_true beq_self_eq_true bne_self_eq_false
theorem JL2 (l:List Pg)(hl:l.length≤1000000000000)(hz:∀x∈l,x.reads.length≤1000):Jf Tryz.prog 45 [.leaf (.d (JA7 l))] (.int (Yg l)) []:=by
 by_cases h:32<l.length
 ·have e:Yg l=3:=JMM _ _ h
  rw [e];exact JQV l h hl
 ·exact JL1 l (by omega) hz
theorem JJX {s:Bs}{ls:List Bs}(h:Zv s=some ls):ls.length≤s.length+1∧∀w∈ls,w.length≤s.length:=by
 unfold Zv at h
 split at h
 ·cases h;simp
 ·split at h
  ·cases h
   have h1:=JGn 10 s.dropLast
   rw [List.length_dropLast] at h1
   refine ⟨by omega,fun w hw=>?_⟩
   have:=JC4 10 s.dropLast w hw
   rw [List.length_dropLast] at this;omega
  ·cases h
theorem JQe (text:Bs)(ls:List Bs)(l:List Pg)(hl:text.length≤1000000000)(h:Zv text=some ls)(hm:ls.mapM Yc=some l)(hpe:Yg l=0):Qg Tryz.prog 52 [.leaf (.d (.pt [.raw (.string (bs text))]))] [] (.ret (.leaf (.d (JA7 l))) []):=by
 obtain ⟨hb1,hb2⟩:=JJX h
 obtain ⟨m1,m2⟩:=mapM_at ls l hm
 have hz:∀x∈l,x.reads.length≤1000:=fun x hx=>by
  obtain ⟨i,hi⟩:=List.mem_iff_getElem?.1 hx
  obtain ⟨line,hline⟩:∃line,ls[i]? = some line:=⟨_,List.getElem?_eq_getElem JGC⟩
  obtain ⟨pg,e1,e2⟩:=m2 i line hline
  rw [hi] at e2;cases e2
  have:=JNh e1;omega
 have h00:((0:Int)==0)=true:=rfl
 refine Jq Jj Tryz.func52 rfl JF6 JL rfl ?_
 refine JB.reg ?_
 refine JA.o ?_
 refine JA.nil (JB.assocS (JB.reg ?_))
 refine JA.o ?_
 refine JA.c1 (JIh hl h) JF JF ?_
 refine JA.o ?_
 refine JA.nilo 1 1000 31 2 JF JF (by omega) (by omega) JF ?_
 refine JA.o ?_
 refine JA.nil (JB.blk ?_)
 refine JB.forA [1,5,6,7] [1000] (ls.length) (fun k=>[.slot 7 (.int k),.slot 1 (.leaf (.own 1000 0 k k)),.obj 1000 (.arr 31 2 ((l.take k).map Zt))]) (fun _=>True) (fun k=>by simp only [go_sem]<;>rfl) JHw ?_ (fun k hk hX=>?_)
 ·trivial
 ·skip
  refine JB.reg ?_
  refine JA.o ?_
  refine JA.nil ?_
  refine JB.cndS JF (fun hb8=>?_) (fun hb8=>?_)
  ·skip
   have hlt:k<ls.length:=by simpa using hb8
   obtain ⟨line,hx⟩:∃line,ls[k]? = some line:=⟨_,List.getElem?_eq_getElem hlt⟩
   obtain ⟨pg,hpg,hpk⟩:=m2 k line hx
   have hwl:line.length≤1000000000:=Nat.le_trans (hb2 line (List.mem_of_getElem? hx)) hl
   have htl:(l.take k).length=k:=by rw [List.length_take];omega
   have hts:=JCp hpk
   refine JB.skipS (JB.blk (JB.reg ?_))
   have X:=(Fx.mk hx).a htl
   refine JA.o1 QG ?_
   iterate 2 (refine JA.o1 JC ?_)
   refine JA.nil (JB.reg1 ?_)
   iterate 2 (refine JA.o1 JC ?_)
   refine JA.c1 (JIj hwl hpg) JC JC ?_
   refine JA.o1 JC ?_
   refine JA.o1 V6 ?_
   refine JA.o1 JC ?_
   refine JA.nil (JR.nrm (JB.reg1 ?_))
   refine JA.o1 Jx ?_
   refine JA.o1 JC ?_
   refine JA.nil ?_
   refine JU.nxt ?_ ?_ ?_
   ·omega
   ·exact JN.kp [1,5,6,7] [1000] V19
   ·trivial
  ·skip
   have hke:ls.length≤k:=by simpa using hb8
   have hke2:k=l.length:=by omega
   subst hke2
   have htk:l.take l.length=l:=List.take_length
   have hta:List.take l.length (List.map Zt l)=List.map Zt l:=List.take_of_length_le (by simp)
   refine JB.exitS (JU.ext (JR.hit (JB.reg ?_)))
   have X:=(Fx.mk htk).a hta
   refine JA.frz 1000 JC ?_
   have X:=(X.a hpe).a h00
   refine JA.o1 JC ?_
   refine JA.c1 (JL2 l (by omega) hz) JC JC ?_
   refine JA.o1 JC ?_
   refine JA.c1 (ZF true rfl) JC JC ?_
   refine JA.nil (JB.reg ?_)
   iterate 2 (refine JA.o1 JC ?_)
   refine JA.nil ?_
   exact Ends.fin [] (rs:=[.tmp 1]) rfl JC Qk
theorem JS6 (text:Bs)(hl:text.length≤1000000000)(h:Zv text=none):YW Tryz.prog QW 52 [.leaf (.d (.pt [.raw (.string (bs text))]))] []:=by
 refine JAC Jj Tryz.func52 rfl JF6 JL rfl ?_
 refine JB.reg ?_
 refine JA.o ?_
 refine JA.nil (JB.assocS ?_)
 refine JB.pan (pv:=QW) 1 rfl ?_
 refine JA.o ?_
 exact JA.panc (JS1 hl h) Jr JF YQ rfl
theorem JS8 (text:Bs)(ls:List Bs)(l:List Pg)(hl:text.length≤1000000000)(h:Zv text=some ls)(hm:ls.mapM Yc=some l)(hpe:Yg l≠0):YW Tryz.prog QW 52 [.leaf (.d (.pt [.raw (.string (bs text))]))] []:=by
 obtain ⟨hb1,hb2⟩:=JJX h
 obtain ⟨m1,m2⟩:=mapM_at ls l hm
 have hz:∀x∈l,x.reads.length≤1000:=fun x hx=>by
  obtain ⟨i,hi⟩:=List.mem_iff_getElem?.1 hx
  obtain ⟨line,hline⟩:∃line,ls[i]? = some line:=⟨_,List.getElem?_eq_getElem JGC⟩
  obtain ⟨pg,e1,e2⟩:=m2 i line hline
  rw [hi] at e2;cases e2
  have:=JNh e1;omega
 have h00:(Yg l==0)=false:=by simpa using hpe
 refine JAC Jj Tryz.func52 rfl JF6 JL rfl ?_
 refine JB.reg ?_
 refine JA.o ?_
 refine JA.nil (JB.assocS (JB.reg ?_))
 refine JA.o ?_
 refine JA.c1 (JIh hl h) JF JF ?_
 refine JA.o ?_
 refine JA.nilo 1 1000 31 2 JF JF (by omega) (by omega) JF ?_
 refine JA.o ?_
 refine JA.nil (JB.blk ?_)
 refine JB.forA [1,5,6,7] [1000] (ls.length) (fun k=>[.slot 7 (.int k),.slot 1 (.leaf (.own 1000 0 k k)),.obj 1000 (.arr 31 2 ((l.take k).map Zt))]) (fun _=>True) (fun k=>by simp only [go_sem]<;>rfl) JHw ?_ (fun k hk hX=>?_)
 ·trivial
 ·skip
  refine JB.reg ?_
  refine JA.o ?_
  refine JA.nil ?_
  refine JB.cndS JF (fun hb8=>?_) (fun hb8=>?_)
  ·skip
   have hlt:k<ls.length:=by simpa using hb8
   obtain ⟨line,hx⟩:∃line,ls[k]? = some line:=⟨_,List.getElem?_eq_getElem hlt⟩
   obtain ⟨pg,hpg,hpk⟩:=m2 k line hx
   have hwl:line.length≤1000000000:=Nat.le_trans (hb2 line (List.mem_of_getElem? hx)) hl
   have htl:(l.take k).length=k:=by rw [List.length_take];omega
   have hts:=JCp hpk
   refine JB.skipS (JB.blk (JB.reg ?_))
   have X:=(Fx.mk hx).a htl
   refine JA.o1 QG ?_
   iterate 2 (refine JA.o1 JC ?_)
   refine JA.nil (JB.reg1 ?_)
   iterate 2 (refine JA.o1 JC ?_)
   refine JA.c1 (JIj hwl hpg) JC JC ?_
   refine JA.o1 JC ?_
   refine JA.o1 V6 ?_
   refine JA.o1 JC ?_
   refine JA.nil (JR.nrm (JB.reg1 ?_))
   refine JA.o1 Jx ?_
   refine JA.o1 JC ?_
   refine JA.nil ?_
   refine JU.nxt ?_ ?_ ?_
   ·omega
   ·exact JN.kp [1,5,6,7] [1000] V19
   ·trivial
  ·skip
   have hke:ls.length≤k:=by simpa using hb8
   have hke2:k=l.length:=by omega
   subst hke2
   have htk:l.take l.length=l:=List.take_length
   have hta:List.take l.length (List.map Zt l)=List.map Zt l:=List.take_of_length_le (by simp)
   refine JB.exitS (JU.ext (JR.hit ?_))
   refine JB.pan (pv:=QW) 3 rfl ?_
   have X:=(Fx.mk htk).a hta
   refine JA.frz 1000 JC ?_
   have X:=X.a h00
   refine JA.o1 JC ?_
   refine JA.c1 (JL2 l (by omega) hz) JC JC ?_
   refine JA.o1 JC ?_
   exact JA.panc (JBO false rfl) Jr JC YQ rfl
theorem JS7 (text:Bs)(ls:List Bs)(l:List Pg)(hl:text.length≤1000000000)(h:Zv text=some ls)(q:Nat)(line0:Bs)(hq:ls[q]? = some line0)(hp0:Yc line0=none)(hm:(ls.take q).mapM Yc=some l):YW Tryz.prog QW 52 [.leaf (.d (.pt [.raw (.string (bs text))]))] []:=by
 obtain ⟨hb1,hb2⟩:=JJX h
 obtain ⟨m1,m2⟩:=mapM_at _ l hm
 have hql:=(List.getElem?_eq_some_iff.1 hq).1
 rw [List.length_take,Nat.min_eq_left (by omega)] at m1
 refine JAC Jj Tryz.func52 rfl JF6 JL rfl ?_
 refine JB.reg ?_
 refine JA.o ?_
 refine JA.nil (JB.assocS (JB.reg ?_))
 refine JA.o ?_
 refine JA.c1 (JIh hl h) JF JF ?_
 refine JA.o ?_
 refine JA.nilo 1 1000 31 2 JF JF (by omega) (by omega) JF ?_
 refine JA.o ?_
 refine JA.nil (JB.blk ?_)
 refine JB.forA [1,5,6,7] [1000] (q) (fun k=>[.slot 7 (.int k),.slot 1 (.leaf (.own 1000 0 k k)),.obj 1000 (.arr 31 2 ((l.take k).map Zt))]) (fun _=>True) (fun k=>by simp only [go_sem]<;>rfl) JHw ?_ (fun k hk hX=>?_)
 ·trivial
 ·skip
  refine JB.reg ?_
  refine JA.o ?_
  refine JA.nil ?_
  refine JB.cndS JF (fun hb8=>?_) (fun hb8=>?_)
  ·skip
   refine JB.skipS (JB.blk ?_)
   by_cases hkq:k<q
   ·skip
    obtain ⟨line,hx⟩:∃line,ls[k]? = some line:=⟨_,List.getElem?_eq_getElem (by omega)⟩
    obtain ⟨pg,hpg,hpk⟩:=m2 k line (by rw [List.getElem?_take,if_pos hkq];exact hx)
    have hwl:line.length≤1000000000:=Nat.le_trans (hb2 line (List.mem_of_getElem? hx)) hl
    have htl:(l.take k).length=k:=by rw [List.length_take];omega
    have hts:=JCp hpk
    refine JB.reg ?_
    have X:=(Fx.mk hx).a htl
    refine JA.o1 QG ?_
    iterate 2 (refine JA.o1 JC ?_)
    refine JA.nil (JB.reg1 ?_)
    iterate 2 (refine JA.o1 JC ?_)
    refine JA.c1 (JIj hwl hpg) JC JC ?_
    refine JA.o1 JC ?_
    refine JA.o1 V6 ?_
    refine JA.o1 JC ?_
    refine JA.nil (JR.nrm (JB.reg1 ?_))
    refine JA.o1 Jx ?_
    refine JA.o1 JC ?_
    refine JA.nil ?_
    refine JU.nxt ?_ ?_ ?_
    ·omega
    ·exact JN.kp [1,5,6,7] [1000] V19
    ·trivial
   ·skip
    have hke:k=q:=by omega
    subst hke
    have hwl:line0.length≤1000000000:=Nat.le_trans (hb2 line0 (List.mem_of_getElem? hq)) hl
    refine JB.reg ?_
    have X:=Fx.mk hq
    refine JA.o1 QG ?_
    iterate 2 (refine JA.o1 JC ?_)
    refine JA.nil ?_
    refine JB.pan1 (pv:=QW) 2 rfl ?_
    iterate 2 (refine JA.o1 JC ?_)
    exact JA.panc (JS3 hwl hp0) Jr JC YQ rfl
  ·skip
   exact absurd hb8 YF
end Go.Mw
namespace Go.Mw
open Go.Proofs Go.Bk
theorem JTK {text:Bs}{l:List Pg}(h:JA6 text=some l):∃ls,Zv text=some ls∧ls.mapM Yc=some l∧Yg l=0:=by
 unfold JA6 JDU at h
 obtain ⟨l',h1,h2⟩:=Option.bind_eq_some_iff.1 h
 obtain ⟨ls,h3,h4⟩:=Option.bind_eq_some_iff.1 h1
 split at h2
 ·next hc=>cases h2;exact ⟨ls,h3,h4,hc⟩
 ·cases h2
theorem JQf {text:Bs}{l:List Pg}(hl:text.length≤1000000000)(h:JA6 text=some l):Qg Tryz.prog 52 [.leaf (.d (.pt [.raw (.string (bs text))]))] [] (.ret (.leaf (.d (JA7 l))) []):=by
 obtain ⟨ls,h1,h2,h3⟩:=JTK h
 exact JQe text ls l hl h1 h2 h3
theorem JS9 {text:Bs}(hl:text.length≤1000000000)(h:JA6 text=none):YW Tryz.prog QW 52 [.leaf (.d (.pt [.raw (.string (bs text))]))] []:=by
 cases h1:Zv text with
 |none=>exact JS6 text hl h1
 |some ls=>
  cases h2:ls.mapM Yc with
  |none=>
   obtain ⟨q,line,l,g1,g2,g3⟩:=JNR ls h2
   exact JS7 text ls l hl h1 q line g1 g2 g3
  |some l=>
   by_cases h3:Yg l=0
   ·unfold JA6 JDU at h
    rw [h1] at h
    simp only [Option.bind_some] at h
    rw [h2] at h
    simp only [Option.bind_some] at h
    rw [if_pos h3] at h;cases h
   ·exact JS8 text ls l hl h1 h2 h3
end Go.Mw
namespace Go.Mw
open Go.Proofs Go.RowKit
theorem JO0 (a b v:Value):#[a,b]++(((Array.replicate 16 undef).setIfInBounds 3 v).setIfInBounds 0 v)=#[a,b,v,undef,undef,v,undef,undef,undef,undef,undef,undef,undef,undef,undef,undef,undef,undef]:=by kernel_rfl
theorem JRo (p q:Addr)(w:World):CallsD Tryz.prog 105 #[.pointer (some p),.pointer (some q)] .returning w fun e u' w'=>e=.returned (.tuple #[])∧u'=.returning∧w'=w:=by
 refine callsD_of_wpS Tryz.func105 rfl fun c₀ cs hu=>?_
 apply wpS_seq
 apply wpS_region
 simp [wpOpsS,go_sem,recoverD,hu,Tryz.ntmps105,Exit.thenS]
 rw [JO0]
 refine wpS_of_wp ?_
 have hnil:∀w:World,(binOp BinOp.neq 20 .nilIface .nilIface).run Tryz.prog w=.ok (.bool false) w:=fun _=>by kernel_rfl
 have heg:∀w:World,(eqGuard BinOp.neq 20 (Operand.tmp 6) (Operand.const .nilIface) .nilIface .nilIface).run Tryz.prog w=.ok () w:=fun _=>by kernel_rfl
 go_wp2
 cases c₀
 simp_all [bodyPostS,results,Tryz.results105,Exit.thenS]
theorem JVn (p q:Nat)(w:World){cp cq:Value}{tp tq:TypeId}(hp:w.heap[p]? = some (.cells #[cp] tp (0,0)))(hq:w.heap[q]? = some (.cells #[cq] tq (0,0)))(hpq:p≠q) :
  CallsD Tryz.prog 105 #[.pointer (some ⟨p,0,none⟩),.pointer (some ⟨q,0,none⟩)] (.panicking [{ v:=QW,recovered:=false }]) w fun e u' w'=>e=.returned (.tuple #[])∧u'=.panicking [{ v:=QW,recovered:=true }] ∧
   w'=(((w.setCell ⟨p,0,none⟩ (.slice none 0 0)).setCell ⟨q,0,none⟩ (.int .i64 8)).alloc (.cells #[.int .i64 8] 172)).drew:=by
 have mixed:=JSe
 refine callsD_of_wpS Tryz.func105 rfl fun c₀ cs hu=>?_
 apply wpS_seq
 apply wpS_region
 simp [wpOpsS,go_sem,recoverD,hu,Tryz.ntmps105,Exit.thenS]
 rw [JO0]
 refine wpS_of_wp ?_
 have hnil:∀w:World,(binOp BinOp.neq 20 QW .nilIface).run Tryz.prog w=.ok (.bool true) w:=fun _=>by kernel_rfl
 have hta:∀w:World,(Instr.typeAssert QW 20 172 true).run Tryz.prog w=.ok (.tuple #[.agg #[.int .i64 8],.bool true]) w:=fun _=>by kernel_rfl
 have heg:∀w:World,(eqGuard BinOp.neq 20 (Operand.tmp 6) (Operand.const .nilIface) QW .nilIface).run Tryz.prog w=.ok () w:=fun _=>by kernel_rfl
 generalize hv:QW=v at hnil hta heg ⊢
 have hlp:=(Array.getElem?_eq_some_iff.1 hp).1
 have hlq:=(Array.getElem?_eq_some_iff.1 hq).1
 have hpa:∀o,(w.alloc o).drew.heap[p]? = some (.cells #[cp] tp (0,0)):=fun o=>(Below.heap_alloc w o p hlp).trans hp
 have hqa:∀o,(w.alloc o).drew.heap[q]? = some (.cells #[cq] tq (0,0)):=fun o=>(Below.heap_alloc w o q hlq).trans hq
 have hna:∀o,(w.alloc o).drew.heap[w.heap.size]? = some o:=fun o=>heap_alloc_new w o
 have cpa:∀o,(w.alloc o).drew.cell? ⟨p,0,none⟩=some cp:=fun o=>by rw [Lib.cell_of_heap (hpa o)];rfl
 have cqa:∀o,(w.alloc o).drew.cell? ⟨q,0,none⟩=some cq:=fun o=>by rw [Lib.cell_of_heap (hqa o)];rfl
 have cna:(w.alloc (.cells #[.int .i64 8] 172)).drew.cell? ⟨w.heap.size,0,none⟩=some (.int .i64 8):=by rw [Lib.cell_of_heap (hna _)];rfl
 have fpa:∀o,(w.alloc o).drew.frozen? ⟨p,0,none⟩=false:=fun o=>Lib.frozen_of_heap (hpa o) _
 have fqa:∀o,(w.alloc o).drew.frozen? ⟨q,0,none⟩=false:=fun o=>Lib.frozen_of_heap (hqa o) _
 have cp0:w.cell? ⟨p,0,none⟩=some cp:=by rw [Lib.cell_of_heap hp];rfl
 have cq0:w.cell? ⟨q,0,none⟩=some cq:=by rw [Lib.cell_of_heap hq];rfl
 have fp0:w.frozen? ⟨p,0,none⟩=false:=Lib.frozen_of_heap hp _
 have fq0:w.frozen? ⟨q,0,none⟩=false:=Lib.frozen_of_heap hq _
 have hqp:q≠p:=fun h=>hpq h.symm
 go_wp2
 go_region
 exact ⟨rfl,_,rfl,_,results_none rfl _ _ _,rfl,rfl,rfl⟩
theorem JTa (x:Value)(w:World)(G:Value→World→Prop)
  (hf:Calls Tryz.prog 52 #[x] ((w.alloc (.cells #[.slice none 0 0] 28)).alloc (.cells #[.int .i64 0] 35)) fun e w'=>∃p n c,e=.returned (.slice p n c)∧G (.slice p n c) w' ∧
   w'.heap[w.heap.size]? = some (.cells #[.slice none 0 0] 28 (0,0))∧w'.heap[w.heap.size+1]? = some (.cells #[.int .i64 0] 35 (0,0))) :
  Calls Tryz.prog 51 #[.func (.func 52) #[] #[x]] w fun e w'=>∃r w2,G r w2∧e=.returned (.tuple #[r,.int .i64 0])∧w'=(w2.setCell ⟨w.heap.size,0,none⟩ r).setCell ⟨w.heap.size+1,0,none⟩ (.int .i64 0):=by
 have hmf:∀(fn:Fn) (first cap:Array Value) (w:World),(Instr.makeFunc fn first cap).run Tryz.prog w=.ok (.func fn first cap) w:=fun _ _ _ _=>rfl
 go_enter_defers Tryz.func51,Tryz.ntmps51
 go_wp2_with (go_at_call 52;refine hf.mono ?_)
 rintro e w2 ⟨p,n,c,rfl,hG,h1,h2⟩
 have c1:w2.cell? ⟨w.heap.size,0,none⟩=some (.slice none 0 0):=by rw [Lib.cell_of_heap h1];rfl
 have c2:w2.cell? ⟨w.heap.size+1,0,none⟩=some (.int .i64 0):=by rw [Lib.cell_of_heap h2];rfl
 have f1:w2.frozen? ⟨w.heap.size,0,none⟩=false:=Lib.frozen_of_heap h1 _
 have f2:w2.frozen? ⟨w.heap.size+1,0,none⟩=false:=Lib.frozen_of_heap h2 _
 go_wp2
 have hne:w.heap.size≠w.heap.size+1:=by omega
 have g1:((w2.setCell ⟨w.heap.size,0,none⟩ (.slice p n c)).setCell ⟨w.heap.size+1,0,none⟩ (.int .i64 0)).heap[w.heap.size]? = some (.cells #[.slice p n c] 28 (0,0)):=
  (Below.heap_setCell _ ⟨w.heap.size+1,0,none⟩ _ _ hne).trans ((Lib.heap_setCell_same (i:=0) h1 (.slice p n c)).trans rfl)
 have g2:((w2.setCell ⟨w.heap.size,0,none⟩ (.slice p n c)).setCell ⟨w.heap.size+1,0,none⟩ (.int .i64 0)).heap[w.heap.size+1]? = some (.cells #[.int .i64 0] 35 (0,0)):=
  (Lib.heap_setCell_same (i:=0) ((Below.heap_setCell w2 ⟨w.heap.size,0,none⟩ _ _ (fun h=>hne h.symm)).trans h2) (.int .i64 0)).trans rfl
 have d1:((w2.setCell ⟨w.heap.size,0,none⟩ (.slice p n c)).setCell ⟨w.heap.size+1,0,none⟩ (.int .i64 0)).cell? ⟨w.heap.size,0,none⟩=some (.slice p n c):=by rw [Lib.cell_of_heap g1];rfl
 have d2:((w2.setCell ⟨w.heap.size,0,none⟩ (.slice p n c)).setCell ⟨w.heap.size+1,0,none⟩ (.int .i64 0)).cell? ⟨w.heap.size+1,0,none⟩=some (.int .i64 0):=by rw [Lib.cell_of_heap g2];rfl
 refine leaves_cons (f:=105) (args:=#[.pointer (some ⟨w.heap.size,0,none⟩),.pointer (some ⟨w.heap.size+1,0,none⟩)]) (by simp) (by simp [go_sem]) ?_
 refine (JRo ⟨w.heap.size,0,none⟩ ⟨w.heap.size+1,0,none⟩ _).mono ?_
 rintro e u' w'' ⟨rfl,rfl,rfl⟩
 generalize hW:(w2.setCell ⟨w.heap.size,0,none⟩ (.slice p n c)).setCell ⟨w.heap.size+1,0,none⟩ (.int .i64 0)=W at d1 d2 ⊢
 simp [Leaves,settle,results,Tryz.results51,go_sem,d1,d2]
 exact ⟨_,w2,hG,rfl,hW.symm⟩
theorem JTb (x:Value)(w:World)(G:World→Prop)
  (hf:Calls Tryz.prog 52 #[x] ((w.alloc (.cells #[.slice none 0 0] 28)).alloc (.cells #[.int .i64 0] 35)) fun e w'=>e=.panicked (JAJ QW)∧G w' ∧
   w'.heap[w.heap.size]? = some (.cells #[.slice none 0 0] 28 (0,0))∧w'.heap[w.heap.size+1]? = some (.cells #[.int .i64 0] 35 (0,0))) :
  Calls Tryz.prog 51 #[.func (.func 52) #[] #[x]] w fun e w'=>∃w2,G w2∧e=.returned (.tuple #[.slice none 0 0,.int .i64 8])∧w'=(((w2.setCell ⟨w.heap.size,0,none⟩ (.slice none 0 0)).setCell ⟨w.heap.size+1,0,none⟩ (.int .i64 8)).alloc (.cells #[.int .i64 8] 172)).drew:=by
 have hmf:∀(fn:Fn) (first cap:Array Value) (w:World),(Instr.makeFunc fn first cap).run Tryz.prog w=.ok (.func fn first cap) w:=fun _ _ _ _=>rfl
 go_enter_defers Tryz.func51,Tryz.ntmps51
 go_wp2_with (go_at_call 52;refine hf.mono ?_)
 rintro e w2 ⟨rfl,hG,h1,h2⟩
 go_wp2
 have hne:w.heap.size≠w.heap.size+1:=by omega
 have hl2:=(Array.getElem?_eq_some_iff.1 h2).1
 have g1:((w2.setCell ⟨w.heap.size,0,none⟩ (.slice none 0 0)).setCell ⟨w.heap.size+1,0,none⟩ (.int .i64 8)).heap[w.heap.size]? = some (.cells #[.slice none 0 0] 28 (0,0)):=
  (Below.heap_setCell _ ⟨w.heap.size+1,0,none⟩ _ _ hne).trans ((Lib.heap_setCell_same (i:=0) h1 (.slice none 0 0)).trans rfl)
 have g2:((w2.setCell ⟨w.heap.size,0,none⟩ (.slice none 0 0)).setCell ⟨w.heap.size+1,0,none⟩ (.int .i64 8)).heap[w.heap.size+1]? = some (.cells #[.int .i64 8] 35 (0,0)):=
  (Lib.heap_setCell_same (i:=0) ((Below.heap_setCell w2 ⟨w.heap.size,0,none⟩ _ _ (fun h=>hne h.symm)).trans h2) (.int .i64 8)).trans rfl
 have hs:((w2.setCell ⟨w.heap.size,0,none⟩ (.slice none 0 0)).setCell ⟨w.heap.size+1,0,none⟩ (.int .i64 8)).heap.size=w2.heap.size:=by rw [JOv,JOv]
 refine leaves_cons (f:=105) (args:=#[.pointer (some ⟨w.heap.size,0,none⟩),.pointer (some ⟨w.heap.size+1,0,none⟩)]) (by simp) (by simp [go_sem]) ?_
 refine (JVn w.heap.size (w.heap.size+1) w2 h1 h2 hne).mono ?_
 rintro e u' w'' ⟨rfl,rfl,rfl⟩
 generalize hW:(w2.setCell ⟨w.heap.size,0,none⟩ (.slice none 0 0)).setCell ⟨w.heap.size+1,0,none⟩ (.int .i64 8)=W at g1 g2 hs ⊢
 have k1:(W.alloc (.cells #[.int .i64 8] 172)).drew.heap[w.heap.size]? = some (.cells #[.slice none 0 0] 28 (0,0)):=(Below.heap_alloc W _ _ (by omega)).trans g1
 have k2:(W.alloc (.cells #[.int .i64 8] 172)).drew.heap[w.heap.size+1]? = some (.cells #[.int .i64 8] 35 (0,0)):=(Below.heap_alloc W _ _ (by omega)).trans g2
 have d1:(W.alloc (.cells #[.int .i64 8] 172)).drew.cell? ⟨w.heap.size,0,none⟩=some (.slice none 0 0):=by rw [Lib.cell_of_heap k1];rfl
 have d2:(W.alloc (.cells #[.int .i64 8] 172)).drew.cell? ⟨w.heap.size+1,0,none⟩=some (.int .i64 8):=by rw [Lib.cell_of_heap k2];rfl
 generalize hV:(W.alloc (.cells #[.int .i64 8] 172)).drew=V at d1 d2 ⊢
 simp [Leaves,settle,results,Tryz.results51,go_sem,d1,d2]
 trace_state
 exact ⟨w2,hG,by rw [hW,hV]⟩
end Go.Mw
namespace Go.Mw
open Go.Proofs
open Go.Bk
theorem JTc:JK1 Tryz.prog 51 52 28 35:=fun x w G h=>JTa x w G h
theorem JTd:JK2 Tryz.prog 51 52 QW 28 35 172:=fun x w G h=>JTb x w G h
def rgE (r:Option (List Pg)):AV:=match r with
 |some l=>.tup [(false,[.d (JA7 l)]),(false,[.d (.i 0)])]
 |none=>.tup [(false,[.d (JA7 [])]),(false,[.d (.i 8)])]
theorem JQg (b:Bs)(hb:b.length≤1000000000):Jf Tryz.prog 51 [.leaf (.d (.fn 52 [.pt [.raw (.string (bs b))]]))] (rgE (JA6 b)) []:=by
 cases h:JA6 b with
 |some l=>exact JQt JTc (fun _ _ _ h=>JUK h) (JQf hb h)
 |none=>exact JQu JTd (fun _ _=>RepD.nil _ _ _) (JS9 hb h)
theorem JP6 (b:Bs)(hb:b.length≤1000000000):Jf Tryz.prog 18 [.str b] (rgE (JA6 b)) []:=by
 have hcr:=JQg b hb
 generalize JA6 b=q at hcr ⊢
 rcases q with _|l
 ·skip
  dsimp only [rgE] at hcr ⊢
  refine Jq Jj Tryz.func18 rfl (by simp only [List.length_cons,List.length_nil,Tryz.ntmps18];omega) JL rfl ?_
  refine JB.reg ?_
  iterate 3 (refine JA.o ?_)
  refine JA.nil (JB.reg ?_)
  refine JA.frz 1 JF ?_
  refine JA.o ?_
  refine JA.frz 4 JF ?_
  refine JA.c1 (hcr) JF JF ?_
  iterate 4 (refine JA.o ?_)
  refine JA.nil ?_
  exact Ends.fin [] (rs:=[.tmp 2,.tmp 3]) rfl JF Y3
 ·skip
  dsimp only [rgE] at hcr ⊢
  refine Jq Jj Tryz.func18 rfl (by simp only [List.length_cons,List.length_nil,Tryz.ntmps18];omega) JL rfl ?_
  refine JB.reg ?_
  iterate 3 (refine JA.o ?_)
  refine JA.nil (JB.reg ?_)
  refine JA.frz 1 JF ?_
  refine JA.o ?_
  refine JA.frz 4 JF ?_
  refine JA.c1 (hcr) JF JF ?_
  iterate 4 (refine JA.o ?_)
  refine JA.nil ?_
  exact Ends.fin [] (rs:=[.tmp 2,.tmp 3]) rfl JF Y3
end Go.Mw
namespace Go.Mw
open Go.Proofs
open Go.Bk
attribute [local go_sem] decide_true beq_self_eq_true bne_self_eq_false
theorem JP8 (a b:List Pg)(ha:a.length≤1000000)(hb:b.length≤1000000)(hz:∀x∈a,x.reads.length≤1000000):Jf Tryz.prog 19 [.leaf (.d (JA7 a)),.leaf (.d (JA7 b))] (.bool (decide (a=b))) []:=by
 refine Jq Jj Tryz.func19 rfl (by simp only [List.length_cons,List.length_nil,Tryz.ntmps19];omega) JL rfl ?_
 refine JB.reg ?_
 refine JA.o ?_
 refine JA.nil (JB.assocS (JB.reg ?_))
 iterate 5 (refine JA.o ?_)
 refine JA.nil ?_
 refine JB.cndS JF (fun hb11=>?_) (fun hb11=>?_)
 ·skip
  have hne:¬a=b:=fun h=>by subst h;simp at hb11
  have hr:decide (a=b)=false:=decide_eq_false hne
  refine JB.assocS (JB.reg ?_)
  have X:=Fx.mk hr
  refine JA.o1 JC ?_
  refine JA.nil (JB.retS ?_)
  exact Ends.fin [] (rs:=[.tmp 4]) rfl JC Qk
 ·skip
  have hll:a.length=b.length:=by simp at hb11;omega
  refine JB.skipS (JB.assocS (JB.reg ?_))
  refine JA.o ?_
  refine JA.nil (JB.blk ?_)
  refine JB.forA [0,1,5] [] (a.length) (fun k=>[.slot 5 (.int k)]) (fun k=>a.take k=b.take k) (fun k=>by simp only [go_sem]<;>rfl) (by simp only [go_sem,Int.natCast_zero]<;>rfl) ?_ (fun k hk hX=>?_)
  ·rfl
  ·skip
   refine JB.assocS (JB.reg ?_)
   iterate 4 (refine JA.o ?_)
   refine JA.nil ?_
   refine JB.cndS JF (fun hb15=>?_) (fun hb15=>?_)
   ·skip
    have hlt:=Yo hb15
    obtain ⟨x,hx⟩:=JAh hb15
    obtain ⟨y,hy⟩:∃y,b[k]? = some y:=⟨_,List.getElem?_eq_getElem (by omega)⟩
    have hxz:=hz x (List.mem_of_getElem? hx)
    refine JB.skipS (JB.blk (JB.assocS ?_))
    by_cases hh:x.house=y.house
    ·skip
     have q1:(x.house != y.house)=false:=by simp [hh]
     refine JB.opk 28 ?_
     have X:=((Fx.mk hx).a hy).a q1
     iterate 2 (refine JG.o1 JC ?_)
     refine JG.o1 QG ?_
     iterate 4 (refine JG.o1 JC ?_)
     refine JG.o1 QG ?_
     iterate 4 (refine JG.o1 JC ?_)
     iterate 2 (refine JG.y1 JC ?_)
     refine JG.y1 QG ?_
     iterate 5 (refine JG.y1 JC ?_)
     refine JG.y1 QG ?_
     iterate 4 (refine JG.y1 JC ?_)
     refine JG.o1 JC ?_
     refine JG.nil (QK.finT JL JL JL ?_)
     refine JB.cndS JC (fun hb43=>?_) (fun hb43=>?_)
     ·skip
      have hne:¬a=b:=fun h=>by subst h;rw [hx] at hy;cases hy;simp at hb43
      have hr:decide (a=b)=false:=decide_eq_false hne
      refine JB.assocS (JB.reg ?_)
      have X:=X.a hr
      refine JA.o1 JC ?_
      refine JA.nil (JB.retS (JR.ret (JU.ret (JR.ret ?_))))
      exact Ends.fin [] (rs:=[.tmp 4]) rfl JC Qk
     ·skip
      have hrl:x.reads.length=y.reads.length:=by simp at hb43;omega
      refine JB.skipS (JB.reg ?_)
      refine JA.o1 JC ?_
      refine JA.nil (JB.blk1 ?_)
      refine JB.forA [0,1,5,6] [] (x.reads.length) (fun j=>[.slot 6 (.int j)]) (fun j=>x.reads.take j=y.reads.take j) (fun j=>by simp only [go_sem]<;>rfl) (by simp only [go_sem,X.h,Int.natCast_zero]<;>rfl) ?_ (fun j hj Xj=>?_)
      ·rfl
      ·skip
       refine JB.assocS (JB.reg ?_)
       iterate 3 (refine JA.o1 JC ?_)
       refine JA.o1 QG ?_
       iterate 4 (refine JA.o1 JC ?_)
       refine JA.nil ?_
       refine JB.cndS JC (fun hb51=>?_) (fun hb51=>?_)
       ·skip
        have hlt2:=Yo hb51
        obtain ⟨n,hn⟩:=JAh hb51
        obtain ⟨m,hm⟩:∃m,y.reads[j]? = some m:=⟨_,List.getElem?_eq_getElem (by omega)⟩
        refine JB.skipS (JB.blk ?_)
        refine JB.opk 19 ?_
        have X:=(X.a hn).a hm
        iterate 2 (refine JG.o1 JC ?_)
        refine JG.o1 QG ?_
        iterate 3 (refine JG.o1 JC ?_)
        refine JG.o1 QG ?_
        iterate 3 (refine JG.o1 JC ?_)
        refine JG.o1 QG ?_
        iterate 3 (refine JG.o1 JC ?_)
        refine JG.o1 QG ?_
        iterate 2 (refine JG.o1 JC ?_)
        refine JG.nil (QK.finT JL JL JL ?_)
        refine JB.cnd JC (fun hb70=>?_) (fun hb70=>?_)
        ·skip
         have hne:¬a=b:=fun h=>by subst h;rw [hx] at hy;cases hy;rw [hn] at hm;cases hm;simp at hb70
         have hr:decide (a=b)=false:=decide_eq_false hne
         refine JB.reg ?_
         have X:=X.a hr
         refine JA.o1 JC ?_
         refine JA.nil (JR.ret (JU.ret (QA.ret (JR.ret (JU.ret (JR.ret ?_))))))
         exact Ends.fin [] (rs:=[.tmp 4]) rfl JC Qk
        ·skip
         have hnm:n=m:=by simpa using hb70
         subst hnm
         refine JR.nrm (JB.reg1 ?_)
         refine JA.o1 JC ?_
         refine JA.o1 Jx ?_
         refine JA.o1 JC ?_
         refine JA.nil ?_
         refine JU.nxt ?_ ?_ ?_
         ·omega
         ·exact JN.kp [0,1,5,6] [] Yi
         ·exact JON hn hm Xj
       ·skip
        have hre:=JOM hrl (Ys hb51) Xj
        have hxy:x=y:=by
         obtain ⟨x1,x2⟩:=x
         obtain ⟨y1,y2⟩:=y
         simp only at hh hre
         subst hh hre;rfl
        subst hxy
        refine JB.exitS (JU.ext (QA.hit (JR.nrm (JB.reg1 ?_))))
        refine JA.o1 JC ?_
        refine JA.o1 Jx ?_
        refine JA.o1 JC ?_
        refine JA.nil ?_
        refine JU.nxt ?_ ?_ ?_
        ·omega
        ·exact JN.kp [0,1,5] [] Yi
        ·exact JON hx hy hX
    ·skip
     have q1:(x.house != y.house)=true:=by simp [hh]
     refine JB.opk 28 ?_
     have X:=((Fx.mk hx).a hy).a q1
     iterate 2 (refine JG.o1 JC ?_)
     refine JG.o1 QG ?_
     iterate 4 (refine JG.o1 JC ?_)
     refine JG.o1 QG ?_
     iterate 4 (refine JG.o1 JC ?_)
     iterate 13 (refine JG.s ?_)
     refine JG.o1 JC ?_
     refine JG.nil (QK.finT JL JL JL ?_)
     refine JB.cndS JC (fun hb43=>?_) (fun hb43=>?_)
     ·skip
      have hne:¬a=b:=fun h=>by subst h;rw [hx] at hy;cases hy;exact hh rfl
      have hr:decide (a=b)=false:=decide_eq_false hne
      refine JB.assocS (JB.reg ?_)
      have X:=X.a hr
      refine JA.o1 JC ?_
      refine JA.nil (JB.retS (JR.ret (JU.ret (JR.ret ?_))))
      exact Ends.fin [] (rs:=[.tmp 4]) rfl JC Qk
     ·exact absurd hb43 (by simp)
   ·skip
    have heq:=JOM hll (Ys hb15) hX
    have hr:decide (a=b)=true:=decide_eq_true heq
    refine JB.exitS (JU.ext (JR.hit (JB.reg ?_)))
    have X:=Fx.mk hr
    refine JA.o1 JC ?_
    refine JA.nil ?_
    exact Ends.fin [] (rs:=[.tmp 4]) rfl JC Qk
end Go.Mw

/- Contracts of the functions that the book reaches: figures. -/
import Derived.Test.YtpmdcdglfeicaaaGreatDoorD1
import Derived.Test.YtpmdcdglfeicaaaGreatDoorB4
import Derived.Test.YtpmdcdglfeicaaaGreatDoorB6
import Derived.Lib.Split
import Derived.Test.YtpmdcdglfeicaaaGreatDoorB8
import Derived.WalkKit
import Derived.Defers
import Derived.Recover
import Derived.Test.YtpmdcdglfeicaaaGreatDoorB9
set_option maxRecDepth 20000
set_option maxHeartbeats 16000000
set_option linter.unusedSimpArgs false
set_option linter.unusedVariables false
set_option linter.unusedSectionVars false
set_option linter.deprecated false
namespace Go.Mw
open Go.Proofs
open Go.Bk
attribute [local go_sem] decide_true beq_self_eq_true bne_self_eq_false
theorem JKP {s:Bs}{p:Nat}{c:UInt8}(h:s[p]? = some c):JW (s.take (p+1))=10*JW (s.take p)+(c.toNat-48):=by rw [Yf h,JH4]
theorem JGF:∀(n:Nat) (s:Bs),s.length≤n→s.all YU=true→JW s<10^n:=by
 intro n
 induction n with
 |zero=>intro s h _;have:s=[]:=List.eq_nil_of_length_eq_zero (by omega);subst this;decide
 |succ n ih=>
  intro s h hd
  rcases List.eq_nil_or_concat s with rfl|⟨t,c,rfl⟩
  ·exact Nat.pow_pos (by decide)
  ·rw [List.concat_eq_append] at h hd ⊢
   rw [List.all_append,Bool.and_eq_true] at hd
   have hc:YU c=true:=by simpa using hd.2
   unfold YU at hc
   simp only [Bool.and_eq_true,decide_eq_true_eq] at hc
   have:=ih t (by simp at h;omega) hd.1
   rw [JH4,Nat.pow_succ];omega
theorem JB6 {s t:Bs}(h:s≠t):(s==t)=false:=by simpa using h
theorem JAe (s:Bs)(h:YD s=true):Jb Tryz.prog 109 [.str s] (.int (JW s:Nat)) []:=by
 obtain ⟨h1,h2,h3,h4⟩:=JFZ.1 h
 have e1:=JB6 h1
 have hle:decide ((s.length:Int)≤12)=true:=decide_eq_true (by omega)
 have hpos:0<s.length:=List.length_pos_iff.2 h1
 have hv:=JGF 12 s h2 h4
 refine Js Jf Tryz.func109 rfl V99 JJ rfl ?_
 refine JB.reg ?_
 have X:=(Fx.mk e1).a hle
 refine JA.o1 Y2 ?_
 refine JA.nil ?_
 by_cases hz:s=[48]
 ·skip
  have e2:(s==[48])=true:=by rw [hz];rfl
  refine JB.reg ?_
  have X:=X.a e2
  iterate 3 (refine JA.o1 Y2 ?_)
  iterate 3 (refine JA.y1 Y2 ?_)
  iterate 2 (refine JA.o1 Y2 ?_)
  iterate 3 (refine JA.y1 Y2 ?_)
  iterate 3 (refine JA.s ?_)
  refine JA.y1 Y2 ?_
  refine JA.o1 Y2 ?_
  refine JA.c1 (YH true rfl) Y2 Y2 ?_
  refine JA.nil (JB.assocS (JB.reg ?_))
  iterate 2 (refine JA.o1 Y2 ?_)
  refine JA.nil (JB.blk ?_)
  refine JB.whl [2,23] [23] (fun (p:Nat)=>[.slot 2 (.int (JW (s.take p):Nat)),.slot 23 (.leaf (.obj 23)),.obj 23 (.sit (bs s) p)]) (fun p=>p≤s.length) (fun p=>s.length-p) (0) (fun p=>by simp only [go_sem]<;>rfl) (by simp only [go_sem,X.h,Bool.not_false,Bool.not_true,Int.natCast_zero]<;>rfl) ?_ (fun p hX=>?_)
  ·exact Nat.zero_le _
  ·skip
   by_cases hp:p<s.length
   ·skip
    obtain ⟨c,hx⟩:∃c,s[p]? = some c:=⟨_,List.getElem?_eq_getElem hp⟩
    have hcd:YU c=true:=List.all_eq_true.1 h4 c (List.mem_of_getElem? hx)
    unfold YU at hcd
    simp only [Bool.and_eq_true,decide_eq_true_eq] at hcd
    have hec:s[p]=c:=by rw [List.getElem?_eq_getElem hp] at hx;exact Option.some.inj hx
    have hdec:=JFB s p hp (by rw [hec];omega)
    rw [hec] at hdec
    have d1:decide ((48:Int)≤(c.toNat:Int))=true:=decide_eq_true (by omega)
    have d2:decide ((c.toNat:Int)≤57)=true:=decide_eq_true (by omega)
    have hvt:=JKP hx
    have hvb:=JGF 12 (s.take p) (by rw [List.length_take];omega) (List.all_eq_true.2 fun x hx=>List.all_eq_true.1 h4 x (List.mem_of_mem_take hx))
    refine JB.reg ?_
    have X:=(((X.a hp).a hdec).a d1).a d2
    iterate 2 (refine JA.o1 Y2 ?_)
    refine JA.nil ?_
    refine JB.cndS Y2 (fun hb25=>?_) (fun hb25=>?_)
    ·skip
     refine JB.skipS (JB.blk1 (JB.reg ?_))
     iterate 2 (refine JA.o1 Y2 ?_)
     refine JA.nil (JB.reg ?_)
     iterate 3 (refine JA.o1 Y2 ?_)
     iterate 2 (refine JA.y1 Y2 ?_)
     refine JA.o1 Y2 ?_
     refine JA.c1 (YH true rfl) Y2 Y2 ?_
     refine JA.nil (JB.reg1 ?_)
     refine JA.o1 Y2 ?_
     refine JA.o1 V48 ?_
     refine JA.o1 Y2 ?_
     iterate 3 (refine JA.o1 V48 ?_)
     refine JA.o1 Y2 ?_
     refine JA.nil (Qp.nrm ?_)
     refine Zm.nxt (p+1) ?_ ?_ ?_
     ·show s.length-(p+1)<s.length-p;omega
     ·show p+1≤s.length;omega
     ·exact JN.kp [2,23] [23] (by simp only [go_sem,X.h,Bool.not_false,Bool.not_true]<;>first|((repeat' (first|with_reducible_and_instances rfl|refine Q8 ?_ ?_ ?_|refine Q7 ?_|refine YL ?_|refine Q9 ?_ ?_|refine Q3 ?_|refine Q4 ?_|refine YN ?_|refine Q6 ?_ ?_|refine YI ?_ ?_|refine YK ?_|refine YF ?_|(refine Q5 ?_;omega)));all_goals (first|omega|(rw [hvt];omega)))|rfl)
    ·exact absurd hb25 (by simp)
   ·skip
    have hpe:p=s.length:=by omega
    subst hpe
    have htk:s.take s.length=s:=List.take_length
    refine JB.reg ?_
    have X:=(X.a hp).a htk
    iterate 2 (refine JA.o1 Y2 ?_)
    refine JA.nil ?_
    refine JB.cndS Y2 (fun hb25=>?_) (fun hb25=>?_)
    ·exact absurd hb25 (by simp)
    ·skip
     refine JB.exitS (Zm.ext (JR.hit (JB.reg ?_)))
     iterate 2 (refine JA.o1 Y2 ?_)
     refine JA.nil ?_
     exact Ends.fin [] (rs:=[.tmp 2]) rfl Y2 (by simp only [go_sem,X.h,Bool.not_false,Bool.not_true]<;>first|rfl|exact QP)
 ·skip
  have e2:=JB6 hz
  have hc0:s.head?≠some 48:=h3.resolve_left hz
  obtain ⟨c0,hx0⟩:∃c,s[0]? = some c:=⟨_,List.getElem?_eq_getElem hpos⟩
  have hn0:((c0.toNat:Int) != 48)=true:=by
   simp only [bne_iff_ne,ne_eq]
   intro e
   apply hc0
   rw [List.head?_eq_getElem?,hx0]
   congr 1
   have:c0.toNat=48:=by omega
   exact UInt8.toNat_inj.1 this
  refine JB.reg ?_
  have X:=((X.a e2).a hx0).a hn0
  iterate 3 (refine JA.o1 Qj ?_)
  iterate 3 (refine JA.y1 Qj ?_)
  iterate 2 (refine JA.o1 Qj ?_)
  iterate 7 (refine JA.y1 Qj ?_)
  refine JA.o1 Qj ?_
  refine JA.c1 (YH true rfl) Qj Qj ?_
  refine JA.nil (JB.assocS (JB.reg ?_))
  iterate 2 (refine JA.o1 Qj ?_)
  refine JA.nil (JB.blk ?_)
  refine JB.whl [2,23] [23] (fun (p:Nat)=>[.slot 2 (.int (JW (s.take p):Nat)),.slot 23 (.leaf (.obj 23)),.obj 23 (.sit (bs s) p)]) (fun p=>p≤s.length) (fun p=>s.length-p) (0) (fun p=>by simp only [go_sem]<;>rfl) (by simp only [go_sem,X.h,Bool.not_false,Bool.not_true,Int.toNat_zero,Int.natCast_zero]<;>rfl) ?_ (fun p hX=>?_)
  ·exact Nat.zero_le _
  ·skip
   by_cases hp:p<s.length
   ·skip
    obtain ⟨c,hx⟩:∃c,s[p]? = some c:=⟨_,List.getElem?_eq_getElem hp⟩
    have hcd:YU c=true:=List.all_eq_true.1 h4 c (List.mem_of_getElem? hx)
    unfold YU at hcd
    simp only [Bool.and_eq_true,decide_eq_true_eq] at hcd
    have hec:s[p]=c:=by rw [List.getElem?_eq_getElem hp] at hx;exact Option.some.inj hx
    have hdec:=JFB s p hp (by rw [hec];omega)
    rw [hec] at hdec
    have d1:decide ((48:Int)≤(c.toNat:Int))=true:=decide_eq_true (by omega)
    have d2:decide ((c.toNat:Int)≤57)=true:=decide_eq_true (by omega)
    have hvt:=JKP hx
    have hvb:=JGF 12 (s.take p) (by rw [List.length_take];omega) (List.all_eq_true.2 fun x hx=>List.all_eq_true.1 h4 x (List.mem_of_mem_take hx))
    refine JB.reg ?_
    have X:=(((X.a hp).a hdec).a d1).a d2
    iterate 2 (refine JA.o1 Qj ?_)
    refine JA.nil ?_
    refine JB.cndS Qj (fun hb25=>?_) (fun hb25=>?_)
    ·skip
     refine JB.skipS (JB.blk1 (JB.reg ?_))
     iterate 2 (refine JA.o1 Qj ?_)
     refine JA.nil (JB.reg ?_)
     iterate 3 (refine JA.o1 Qj ?_)
     iterate 2 (refine JA.y1 Qj ?_)
     refine JA.o1 Qj ?_
     refine JA.c1 (YH true rfl) Qj Qj ?_
     refine JA.nil (JB.reg1 ?_)
     refine JA.o1 Qj ?_
     refine JA.o1 V43 ?_
     refine JA.o1 Qj ?_
     iterate 3 (refine JA.o1 V43 ?_)
     refine JA.o1 Qj ?_
     refine JA.nil (Qp.nrm ?_)
     refine Zm.nxt (p+1) ?_ ?_ ?_
     ·show s.length-(p+1)<s.length-p;omega
     ·show p+1≤s.length;omega
     ·exact JN.kp [2,23] [23] V14
    ·exact absurd hb25 (by simp)
   ·skip
    have hpe:p=s.length:=by omega
    subst hpe
    have htk:s.take s.length=s:=List.take_length
    refine JB.reg ?_
    have X:=(X.a hp).a htk
    iterate 2 (refine JA.o1 Qj ?_)
    refine JA.nil ?_
    refine JB.cndS Qj (fun hb25=>?_) (fun hb25=>?_)
    ·exact absurd hb25 (by simp)
    ·skip
     refine JB.exitS (Zm.ext (JR.hit (JB.reg ?_)))
     iterate 2 (refine JA.o1 Qj ?_)
     refine JA.nil ?_
     exact Ends.fin [] (rs:=[.tmp 2]) rfl Qj (by simp only [go_sem,X.h,Bool.not_false,Bool.not_true,Int.toNat_zero]<;>first|rfl|exact QP)
theorem JSv:Qr Tryz.prog J0 109 [.str []] []:=by
 refine Yq Jf Tryz.func109 rfl V99 JJ rfl ?_
 refine JB.reg ?_
 refine JA.o1 Y3 ?_
 refine JA.nil ?_
 refine JB.pan (pv:=J0) 16 rfl ?_
 iterate 3 (refine JA.o1 Y3 ?_)
 iterate 3 (refine JA.s ?_)
 iterate 2 (refine JA.o1 Y3 ?_)
 iterate 7 (refine JA.s ?_)
 refine JA.o1 Y3 ?_
 exact JA.panc (Z4 false rfl) JY Y3 Qc rfl
theorem JSw (s:Bs)(h1:12<s.length)(hl:s.length≤1000000000):Qr Tryz.prog J0 109 [.str s] []:=by
 have hne:s≠[]:=fun e=>by rw [e] at h1;simp at h1
 have e1:=JB6 hne
 have hle:decide ((s.length:Int)≤12)=false:=decide_eq_false (by omega)
 refine Yq Jf Tryz.func109 rfl V99 JJ rfl ?_
 refine JB.reg ?_
 have X:=(Fx.mk e1).a hle
 refine JA.o1 JAK ?_
 refine JA.nil ?_
 refine JB.pan (pv:=J0) 16 rfl ?_
 iterate 3 (refine JA.o1 JAK ?_)
 iterate 3 (refine JA.y1 JAK ?_)
 iterate 2 (refine JA.o1 JAK ?_)
 iterate 7 (refine JA.s ?_)
 refine JA.o1 JAK ?_
 exact JA.panc (Z4 false rfl) JY JAK Qc rfl
theorem JSx (s:Bs)(h1:s.length≤12)(hz:s≠[48])(h0:s[0]? = some 48):Qr Tryz.prog J0 109 [.str s] []:=by
 have hne:s≠[]:=fun e=>by rw [e] at h0;simp at h0
 have e1:=JB6 hne
 have e2:=JB6 hz
 have hle:decide ((s.length:Int)≤12)=true:=decide_eq_true (by omega)
 have h48:(((48:UInt8).toNat:Int) != 48)=false:=rfl
 refine Yq Jf Tryz.func109 rfl V99 JJ rfl ?_
 refine JB.reg ?_
 have X:=((((Fx.mk e1).a e2).a hle).a h0).a h48
 refine JA.o1 JDA ?_
 refine JA.nil ?_
 refine JB.pan (pv:=J0) 16 rfl ?_
 iterate 3 (refine JA.o1 JDA ?_)
 iterate 3 (refine JA.y1 JDA ?_)
 iterate 2 (refine JA.o1 JDA ?_)
 iterate 7 (refine JA.y1 JDA ?_)
 refine JA.o1 JDA ?_
 exact JA.panc (Z4 false rfl) JY JDA Qc rfl
theorem JSy (s a r:Bs)(c0:UInt8)(hs:s=a++c0::r)(h1:s.length≤12)(h3:s=[48]∨s.head?≠some 48)(h4:a.all YU=true)(h5:YU c0=false):Qr Tryz.prog J0 109 [.str s] []:=by
 have hsl:s.length=a.length+(r.length+1):=by rw [hs];simp
 have hne:s≠[]:=fun e=>by rw [e] at hsl;simp at hsl
 have e1:=JB6 hne
 have hle:decide ((s.length:Int)≤12)=true:=decide_eq_true (by omega)
 have hpos:0<s.length:=by omega
 refine Yq Jf Tryz.func109 rfl V99 JJ rfl ?_
 refine JB.reg ?_
 have X:=(Fx.mk e1).a hle
 refine JA.o1 Y2 ?_
 refine JA.nil ?_
 by_cases hz:s=[48]
 ·skip
  exfalso
  rw [hz] at hs
  cases a with
  |nil=>simp at hs;rw [←hs.1] at h5;cases h5
  |cons y a=>simp at hs
 ·skip
  have e2:=JB6 hz
  have hc0:s.head?≠some 48:=h3.resolve_left hz
  obtain ⟨d0,hx0⟩:∃c,s[0]? = some c:=⟨_,List.getElem?_eq_getElem hpos⟩
  have hn0:((d0.toNat:Int) != 48)=true:=by
   simp only [bne_iff_ne,ne_eq]
   intro e
   apply hc0
   rw [List.head?_eq_getElem?,hx0]
   congr 1
   have:d0.toNat=48:=by omega
   exact UInt8.toNat_inj.1 this
  refine JB.reg ?_
  have X:=((X.a e2).a hx0).a hn0
  iterate 3 (refine JA.o1 Qj ?_)
  iterate 3 (refine JA.y1 Qj ?_)
  iterate 2 (refine JA.o1 Qj ?_)
  iterate 7 (refine JA.y1 Qj ?_)
  refine JA.o1 Qj ?_
  refine JA.c1 (YH true rfl) Qj Qj ?_
  refine JA.nil (JB.assocS (JB.reg ?_))
  iterate 2 (refine JA.o1 Qj ?_)
  refine JA.nil (JB.blk ?_)
  refine JB.whl [2,23] [23] (fun (p:Nat)=>[.slot 2 (.int (JW (s.take p):Nat)),.slot 23 (.leaf (.obj 23)),.obj 23 (.sit (bs s) p)]) (fun p=>p≤a.length) (fun p=>a.length-p) (0) (fun p=>by simp only [go_sem]<;>rfl) (by simp only [go_sem,X.h,Bool.not_false,Bool.not_true,Int.toNat_zero,Int.natCast_zero]<;>rfl) ?_ (fun p hX=>?_)
  ·exact Nat.zero_le _
  ·skip
   have hp:p<s.length:=by have:p≤a.length:=hX;omega
   refine JB.reg ?_
   have X:=X.a hp
   iterate 2 (refine JA.o1 Qj ?_)
   refine JA.nil ?_
   refine JB.cndS Qj (fun hb25=>?_) (fun hb25=>?_)
   ·skip
    refine JB.skipS (JB.blk1 (JB.reg ?_))
    iterate 2 (refine JA.o1 Qj ?_)
    refine JA.nil ?_
    by_cases hpa:p<a.length
    ·skip
     obtain ⟨c,hxa⟩:∃c,a[p]? = some c:=⟨_,List.getElem?_eq_getElem hpa⟩
     have hx:s[p]? = some c:=by rw [hs,List.getElem?_append_left hpa];exact hxa
     have hcd:YU c=true:=List.all_eq_true.1 h4 c (List.mem_of_getElem? hxa)
     unfold YU at hcd
     simp only [Bool.and_eq_true,decide_eq_true_eq] at hcd
     have hec:s[p]=c:=by rw [List.getElem?_eq_getElem hp] at hx;exact Option.some.inj hx
     have hdec:=JFB s p hp (by rw [hec];omega)
     rw [hec] at hdec
     have d1:decide ((48:Int)≤(c.toNat:Int))=true:=decide_eq_true (by omega)
     have d2:decide ((c.toNat:Int)≤57)=true:=decide_eq_true (by omega)
     have hvt:=JKP hx
     have htp:s.take p=a.take p:=by rw [hs,List.take_append_of_le_length (by omega)]
     have hvb:=JGF 12 (s.take p) (by rw [List.length_take];omega) (by rw [htp];exact List.all_eq_true.2 fun x hx=>List.all_eq_true.1 h4 x (List.mem_of_mem_take hx))
     refine JB.reg ?_
     have X:=((X.a hdec).a d1).a d2
     iterate 3 (refine JA.o1 Qj ?_)
     iterate 2 (refine JA.y1 Qj ?_)
     refine JA.o1 Qj ?_
     refine JA.c1 (YH true rfl) Qj Qj ?_
     refine JA.nil (JB.reg1 ?_)
     refine JA.o1 Qj ?_
     refine JA.o1 V43 ?_
     refine JA.o1 Qj ?_
     iterate 3 (refine JA.o1 V43 ?_)
     refine JA.o1 Qj ?_
     refine JA.nil (Qp.nrm ?_)
     refine Zm.nxt (p+1) ?_ ?_ ?_
     ·show a.length-(p+1)<a.length-p;omega
     ·show p+1≤a.length;omega
     ·exact JN.kp [2,23] [23] V14
    ·skip
     have hpe:p=a.length:=by omega
     have hsc:s[p]? = some c0:=by rw [hs,hpe,List.getElem?_append_right (Nat.le_refl _),Nat.sub_self];rfl
     have hec:s[p]=c0:=by rw [List.getElem?_eq_getElem hp] at hsc;exact Option.some.inj hsc
     have hnd:¬(48≤(Utf8.decode (bs s) p).1∧(Utf8.decode (bs s) p).1≤57):=fun ⟨g1,g2⟩=>by
      have:=(JN3 hp g1 g2).2.2
      rw [hec,h5] at this;cases this
     by_cases hv:48≤(Utf8.decode (bs s) p).1
     ·skip
      have d1:decide ((48:Int)≤(((Utf8.decode (bs s) p).1:Nat):Int))=true:=decide_eq_true (by omega)
      have d2:decide ((((Utf8.decode (bs s) p).1:Nat):Int)≤57)=false:=decide_eq_false (by omega)
      refine JB.pan (pv:=J0) 6 rfl ?_
      have X:=(X.a d1).a d2
      iterate 3 (refine JA.o1 Qj ?_)
      iterate 2 (refine JA.y1 Qj ?_)
      refine JA.o1 Qj ?_
      exact JA.panc (Z4 false rfl) JY Qj Qc rfl
     ·skip
      have d1:decide ((48:Int)≤(((Utf8.decode (bs s) p).1:Nat):Int))=false:=decide_eq_false (by omega)
      refine JB.pan (pv:=J0) 6 rfl ?_
      have X:=X.a d1
      iterate 3 (refine JA.o1 Qj ?_)
      iterate 2 (refine JA.s ?_)
      refine JA.o1 Qj ?_
      exact JA.panc (Z4 false rfl) JY Qj Qc rfl
   ·exact absurd hb25 (by simp)
end Go.Mw
namespace Go.Bk
open Go.Lib
theorem JHU (c:UInt8):∀(a r:Bs),c ∉ a→index (a++c::r) [c]=a.length
 |[],r,_=>by
  have h:[c].isPrefixOf (c::r)=true:=by simp
  show index (c::r) [c]=_
  unfold index
  rw [if_pos h];rfl
 |x::a,r,h=>by
  have hx:c≠x:=fun e=>h (by simp [e])
  have hp:¬ [c].isPrefixOf (x::(a++c::r))=true:=by simp [hx]
  have ih:=JHU c a r fun e=>h (by simp [e])
  show index (x::(a++c::r)) [c]=_
  unfold index
  rw [if_neg hp,ih]
  have:(((a.length:Nat):Int) == -1)=false:=by rw [beq_eq_false_iff_ne];omega
  simp [this]
theorem JI4 (c:UInt8):∀(a:Bs),c ∉ a→index a [c]=-1
 |[],_=>rfl
 |x::a,h=>by
  have hx:c≠x:=fun e=>h (by simp [e])
  have hp:¬ [c].isPrefixOf (x::a)=true:=by simp [hx]
  have ih:=JI4 c a fun e=>h (by simp [e])
  unfold index
  rw [if_neg hp,ih];rfl
theorem JRJ (c:UInt8)(a r:Bs)(h:c ∉ a):cut (a++c::r) [c]=(a,r,true):=by
 unfold cut
 rw [JHU c a r h,if_pos (by omega),Int.toNat_natCast]
 simp
theorem JRK (c:UInt8)(a:Bs)(h:c ∉ a):cut a [c]=(a,[],false):=by
 unfold cut
 rw [JI4 c a h,if_neg (by decide)]
theorem JHJ (c:UInt8)(s:Bs)(h:c∈s):∃a r,s=a++c::r∧c ∉ a:=by
 induction s with
 |nil=>cases h
 |cons x s ih=>
  by_cases e:x=c
  ·subst e;exact ⟨[],s,rfl,by simp⟩
  ·obtain ⟨a,r,e1,e2⟩:=ih (by rcases List.mem_cons.1 h with h|h;exact absurd h.symm e;exact h)
   exact ⟨x::a,r,by rw [e1];rfl,fun h=>by rcases List.mem_cons.1 h with h|h;exact e h.symm;exact e2 h⟩
theorem JLg (c:UInt8):∀(n:Nat) (s:Bs),s.length<n→countFrom [c] n s=s.count c
 |0,s,h=>by omega
 |n+1,s,h=>by
  unfold countFrom
  by_cases hc:c∈s
  ·obtain ⟨a,r,rfl,ha⟩:=JHJ c s hc
   rw [JHU c a r ha]
   have h1:(((a.length:Nat):Int) == -1)=false:=by rw [beq_eq_false_iff_ne];omega
   rw [h1]
   have hd:(a++c::r).drop (((a.length:Nat):Int).toNat+[c].length)=r:=by simp
   rw [hd,JLg c n r (by simp at h;omega)]
   simp [List.count_append,List.count_eq_zero_of_not_mem ha];omega
  ·rw [JI4 c s hc,List.count_eq_zero_of_not_mem hc];rfl
theorem JOC (c:UInt8):∀(n:Nat) (s:Bs),s.length≤n→splitK [c] 0 (s.count c) s=Jt c s
 |n,s,h=>by
  by_cases hc:c∈s
  ·obtain ⟨a,r,rfl,ha⟩:=JHJ c s hc
   have hn:(a++c::r).count c=r.count c+1:=by simp [List.count_append,List.count_eq_zero_of_not_mem ha]
   rw [hn,splitK,JHU c a r ha]
   have h1:(((a.length:Nat):Int) == -1)=false:=by rw [beq_eq_false_iff_ne];omega
   rw [h1]
   have hd:(a++c::r).drop (((a.length:Nat):Int).toNat+[c].length)=r:=by simp
   rw [hd,JCA c a r ha]
   have hl:r.length<n:=by simp at h;omega
   match n,hl with
   |n+1,hl=>rw [JOC c n r (by omega)];simp
  ·rw [List.count_eq_zero_of_not_mem hc,JBm c s hc];rfl
end Go.Bk
namespace Go.Mw
open Go.Proofs Go.Bk
theorem JMH:Tryz.prog.globalNamed "internal/bytealg.MaxLen" = some (Tryz.lays145_ren.g 1):=by kernel_rfl
theorem JRy:Tryz.prog.globalNamed "internal/bytealg.MaxLen" = some (Tryz.lays146_ren.g 1):=by kernel_rfl
theorem JTY (s:Bs)(c:UInt8):JCw s [c]=(Jt c s).map encStr:=by
 have hc:Lib.countB (bs s) (bs [c])=s.count c:=by
  show Lib.count (bs s).data.toList (bs [c]).data.toList=_
  rw [JAD,JAD]
  exact JLg c _ s (Nat.lt_succ_self _)
 have hd:=Lib.splitB_data (bs [c]) 0 (s.count c) (bs s)
 rw [JAD,JAD,JOC c _ s (Nat.le_refl _)] at hd
 unfold JCw
 rw [hc,←hd,List.map_map]
 refine List.map_congr_left fun x _=>?_
 show _=[D.raw (.string (bs x.data.toList))]
 rw [JK8]
theorem JDI (s:Bs)(c:UInt8)(hs:s.length≤1000000000):Jb Tryz.prog 107 [.str s,.str [c]] (.leaf (.own 900 0 (Jt c s).length (Jt c s).length)) [(900,.arr 9 1 ((Jt c s).map encStr))]:=by
 have h:=JP4 s [c] (by simp) (by omega) _ JRy rfl
 rw [JTY,List.length_map] at h
 exact h
theorem JGk (a r:Bs)(c:UInt8)(ha:c ∉ a)(hs:a.length+r.length≤1000000000):Jb Tryz.prog 150 [.str (a++c::r),.str [c]] (.tup [(false,[.d (.raw (.string (bs a)))]),(false,[.d (.raw (.string (bs r)))]),(false,[.d (.raw (.bool true))])]) []:=by
 have h:=JLH (a++c::r) [c] ZS _ JMH rfl
 rw [JRJ c a r ha] at h
 exact h
theorem JLI (a:Bs)(c:UInt8)(ha:c ∉ a)(hs:a.length≤1000000000):Jb Tryz.prog 150 [.str a,.str [c]] (.tup [(false,[.d (.raw (.string (bs a)))]),(false,[.d (.raw (.string (bs [])))]),(false,[.d (.raw (.bool false))])]) []:=by
 have h:=JLH a [c] (by omega) _ JMH rfl
 rw [JRK c a ha] at h
 exact h
end Go.Mw
namespace Go.Mw
open Go.Proofs
open Go.Bk
attribute [local go_sem] decide_true beq_self_eq_true bne_self_eq_false
theorem JLx:∀(s:Bs),s.all YU=false→∃a c r,s=a++c::r∧a.all YU=true∧YU c=false
 |[],h=>by cases h
 |x::s,h=>by
  by_cases hx:YU x=true
  ·rw [List.all_cons,hx,Bool.true_and] at h
   obtain ⟨a,c,r,e,h1,h2⟩:=JLx s h
   exact ⟨x::a,c,r,by rw [e];rfl,by rw [List.all_cons,hx,h1];rfl,h2⟩
  ·exact ⟨[],x,s,rfl,rfl,by simpa using hx⟩
theorem JFq {s:Bs}(h:YD s=false)(hl:s.length≤1000000000):Qr Tryz.prog J0 109 [.str s] []:=by
 by_cases h0:s=[]
 ·subst h0;exact JSv
 ·by_cases h1:s.length≤12
  ·by_cases h2:s=[48]∨s.head?≠some 48
   ·have h3:s.all YU=false:=by
     rw [←Bool.not_eq_true]
     intro h3
     rw [JFZ.2 ⟨h0,h1,h2,h3⟩] at h;cases h
    obtain ⟨a,c,r,e,h4,h5⟩:=JLx s h3
    exact JSy s a r c e h1 h2 h4 h5
   ·have hz:s≠[48]:=fun e=>h2 (.inl e)
    have hh:s.head? = some 48:=Decidable.byContradiction fun e=>h2 (.inr e)
    exact JSx s h1 hz (by rw [←List.head?_eq_getElem?];exact hh)
  ·exact JSw s (by omega) hl
theorem JCl {s:Bs}(h:YD s=true):JW s<1000000000000:=by
 obtain ⟨h1,h2,h3,h4⟩:=JFZ.1 h
 exact JGF 12 s h2 h4
theorem JQL (w:Bs)(hx:120 ∉ w)(hl:w.length≤1000000000)(h:YD w=true):Jb Tryz.prog 110 [.str w] (.val true [.d (.i 1),.d (.i (JW w:Nat))]) []:=by
 refine Js Jf Tryz.func110 rfl JDt JJ rfl ?_
 refine JB.reg ?_
 refine JA.o1 Za ?_
 refine JA.nil (JB.reg ?_)
 refine JA.o1 Za ?_
 refine JA.c1 (JLI w 120 hx hl) Za Za ?_
 iterate 7 (refine JA.o1 Za ?_)
 refine JA.nil (JB.assocS (JB.reg ?_))
 iterate 2 (refine JA.o1 Za ?_)
 refine JA.nil ?_
 refine JB.cndS Za (fun hb14=>?_) (fun hb14=>?_)
 ·skip
  refine JB.assocS (JB.reg ?_)
  refine JA.o1 Za ?_
  refine JA.c1 (JAe w h) Za Za ?_
  iterate 2 (refine JA.o1 Za ?_)
  refine JA.nil (JB.retS ?_)
  exact Ends.fin [] (rs:=[.cell 2 96]) rfl Za (by simp only [go_sem,Bool.not_false]<;>first|rfl|exact QP)
 ·exact absurd hb14 (by simp)
theorem JS4 (w:Bs)(hx:120 ∉ w)(hl:w.length≤1000000000)(h:YD w=false):Qr Tryz.prog J0 110 [.str w] []:=by
 refine Yq Jf Tryz.func110 rfl JDt JJ rfl ?_
 refine JB.reg ?_
 refine JA.o1 Za ?_
 refine JA.nil (JB.reg ?_)
 refine JA.o1 Za ?_
 refine JA.c1 (JLI w 120 hx hl) Za Za ?_
 iterate 7 (refine JA.o1 Za ?_)
 refine JA.nil (JB.assocS (JB.reg ?_))
 iterate 2 (refine JA.o1 Za ?_)
 refine JA.nil ?_
 refine JB.cndS Za (fun hb14=>?_) (fun hb14=>?_)
 ·skip
  refine JB.assocS ?_
  refine JB.pan (pv:=J0) 1 rfl ?_
  refine JA.o1 Za ?_
  exact JA.panc (JFq h hl) JY Za Qc rfl
 ·exact absurd hb14 (by simp)
theorem JQM (a r:Bs)(hx:120 ∉ a)(hl:a.length+r.length≤1000000000)(ha:YD a=true)(hr:YD r=true)(hin:Ys (JW a:Nat) 2 16=true):Jb Tryz.prog 110 [.str (a++120::r)] (.val true [.d (.i (JW a:Nat)),.d (.i (JW r:Nat))]) []:=by
 refine Js Jf Tryz.func110 rfl JDt JJ rfl ?_
 refine JB.reg ?_
 have X:=Fx.mk hin
 refine JA.o1 QW ?_
 refine JA.nil (JB.reg ?_)
 refine JA.o1 QW ?_
 refine JA.c1 (JGk a r 120 hx hl) QW QW ?_
 iterate 7 (refine JA.o1 QW ?_)
 refine JA.nil (JB.assocS (JB.reg ?_))
 iterate 2 (refine JA.o1 QW ?_)
 refine JA.nil ?_
 refine JB.cndS QW (fun hb14=>?_) (fun hb14=>?_)
 ·exact absurd hb14 (by simp)
 ·skip
  refine JB.skipS (JB.reg ?_)
  refine JA.o1 QW ?_
  refine JA.c1 (JAe a ha) QW QW ?_
  refine JA.o1 QW ?_
  refine JA.c1 (JAe r hr) QW QW ?_
  iterate 3 (refine JA.o1 QW ?_)
  refine JA.nil (JB.reg ?_)
  iterate 2 (refine JA.o1 QW ?_)
  refine JA.c1 (JBI (JW a:Nat) 2 16) QW QW ?_
  refine JA.c1 (YH true rfl) QW QW ?_
  refine JA.nil (JB.reg ?_)
  iterate 2 (refine JA.o1 QW ?_)
  refine JA.nil ?_
  exact Ends.fin [] (rs:=[.cell 2 96]) rfl QW (by simp only [go_sem,X.h,Bool.not_true]<;>first|rfl|exact QP)
theorem JS5 (a r:Bs)(hx:120 ∉ a)(hl:a.length+r.length≤1000000000)(ha:YD a=false):Qr Tryz.prog J0 110 [.str (a++120::r)] []:=by
 refine Yq Jf Tryz.func110 rfl JDt JJ rfl ?_
 refine JB.reg ?_
 refine JA.o1 Y3 ?_
 refine JA.nil (JB.reg ?_)
 refine JA.o1 Y3 ?_
 refine JA.c1 (JGk a r 120 hx hl) Y3 Y3 ?_
 iterate 7 (refine JA.o1 Y3 ?_)
 refine JA.nil (JB.assocS (JB.reg ?_))
 iterate 2 (refine JA.o1 Y3 ?_)
 refine JA.nil ?_
 refine JB.cndS Y3 (fun hb14=>?_) (fun hb14=>?_)
 ·exact absurd hb14 (by simp)
 ·skip
  refine JB.skipS ?_
  refine JB.pan (pv:=J0) 1 rfl ?_
  refine JA.o1 Y3 ?_
  exact JA.panc (JFq ha (by omega)) JY Y3 Qc rfl
theorem JS6 (a r:Bs)(hx:120 ∉ a)(hl:a.length+r.length≤1000000000)(ha:YD a=true)(hr:YD r=false):Qr Tryz.prog J0 110 [.str (a++120::r)] []:=by
 refine Yq Jf Tryz.func110 rfl JDt JJ rfl ?_
 refine JB.reg ?_
 refine JA.o1 Y3 ?_
 refine JA.nil (JB.reg ?_)
 refine JA.o1 Y3 ?_
 refine JA.c1 (JGk a r 120 hx hl) Y3 Y3 ?_
 iterate 7 (refine JA.o1 Y3 ?_)
 refine JA.nil (JB.assocS (JB.reg ?_))
 iterate 2 (refine JA.o1 Y3 ?_)
 refine JA.nil ?_
 refine JB.cndS Y3 (fun hb14=>?_) (fun hb14=>?_)
 ·exact absurd hb14 (by simp)
 ·skip
  refine JB.skipS ?_
  refine JB.pan (pv:=J0) 3 rfl ?_
  refine JA.o1 Y3 ?_
  refine JA.c1 (JAe a ha) Y3 Y3 ?_
  refine JA.o1 Y3 ?_
  exact JA.panc (JFq hr (by omega)) JY Y3 Qc rfl
theorem JS7 (a r:Bs)(hx:120 ∉ a)(hl:a.length+r.length≤1000000000)(ha:YD a=true)(hr:YD r=true)(hin:Ys (JW a:Nat) 2 16=false):Qr Tryz.prog J0 110 [.str (a++120::r)] []:=by
 refine Yq Jf Tryz.func110 rfl JDt JJ rfl ?_
 refine JB.reg ?_
 have X:=Fx.mk hin
 refine JA.o1 QW ?_
 refine JA.nil (JB.reg ?_)
 refine JA.o1 QW ?_
 refine JA.c1 (JGk a r 120 hx hl) QW QW ?_
 iterate 7 (refine JA.o1 QW ?_)
 refine JA.nil (JB.assocS (JB.reg ?_))
 iterate 2 (refine JA.o1 QW ?_)
 refine JA.nil ?_
 refine JB.cndS QW (fun hb14=>?_) (fun hb14=>?_)
 ·exact absurd hb14 (by simp)
 ·skip
  refine JB.skipS (JB.reg ?_)
  refine JA.o1 QW ?_
  refine JA.c1 (JAe a ha) QW QW ?_
  refine JA.o1 QW ?_
  refine JA.c1 (JAe r hr) QW QW ?_
  iterate 3 (refine JA.o1 QW ?_)
  refine JA.nil ?_
  refine JB.pan (pv:=J0) 3 rfl ?_
  iterate 2 (refine JA.o1 QW ?_)
  refine JA.c1 (JBI (JW a:Nat) 2 16) QW QW ?_
  exact JA.panc (Z4 false rfl) JY QW Qc rfl
theorem JGq {w:Bs}{g:Nat × Int}(hl:w.length≤1000000000)(h:JAo w=some g):Jb Tryz.prog 110 [.str w] (.val true [.d (.i g.1),.d (.i g.2)]) []:=by
 unfold JAo at h
 by_cases hx:(120:UInt8)∈w
 ·obtain ⟨a,r,rfl,ha⟩:=JHJ 120 w hx
  rw [JCA 120 a r ha] at h
  have hd:(a++120::r).drop (a.length+1)=r:=by simp
  have hne:=JCg 120 r
  cases hc:Jt 120 r with
  |nil=>exact absurd hc hne
  |cons y ys=>
   rw [hc] at h
   simp only [hd] at h
   split at h
   ·next hcond=>
    cases h
    exact JQM a r ha (by simp at hl;omega) hcond.1.1 hcond.1.2 (ZC.2 (by omega))
   ·cases h
 ·rw [JBm 120 w hx] at h
  simp only at h
  split at h
  ·next hf=>cases h;exact JQL w hx hl hf
  ·cases h
theorem JS8 {w:Bs}(hl:w.length≤1000000000)(h:JAo w=none):Qr Tryz.prog J0 110 [.str w] []:=by
 unfold JAo at h
 by_cases hx:(120:UInt8)∈w
 ·obtain ⟨a,r,rfl,ha⟩:=JHJ 120 w hx
  have hl2:a.length+r.length≤1000000000:=by simp at hl;omega
  rw [JCA 120 a r ha] at h
  have hd:(a++120::r).drop (a.length+1)=r:=by simp
  have hne:=JCg 120 r
  cases hc:Jt 120 r with
  |nil=>exact absurd hc hne
  |cons y ys=>
   rw [hc] at h
   simp only [hd] at h
   cases h1:YD a with
   |false=>exact JS5 a r ha hl2 h1
   |true=>
    cases h2:YD r with
    |false=>exact JS6 a r ha hl2 h1 h2
    |true=>
     refine JS7 a r ha hl2 h1 h2 ?_
     rw [←Bool.not_eq_true]
     intro h3
     have:=ZC.1 h3
     rw [h1,h2,if_pos ⟨⟨rfl,rfl⟩,by omega⟩] at h
     cases h
 ·rw [JBm 120 w hx] at h
  simp only at h
  cases hf:YD w with
  |false=>exact JS4 w hx hl hf
  |true=>rw [hf,if_pos rfl] at h;cases h
end Go.Mw
namespace Go.Mw
open Go.Proofs
open Go.Bk
attribute [local go_sem] decide_true beq_self_eq_true bne_self_eq_false
theorem JVI (s:Bs)(c:UInt8)(h:s.getLast? = some c):Lib.hasSuffix s [c]=true∧Lib.trimSuffix s [c]=s.dropLast:=by
 rcases List.eq_nil_or_concat s with rfl|⟨t,d,rfl⟩
 ·cases h
 ·rw [List.concat_eq_append] at h ⊢
  have:d=c:=by simpa using h
  subst this
  constructor
  ·simp [Lib.hasSuffix]
  ·simp [Lib.trimSuffix,Lib.hasSuffix]
theorem JVH (s:Bs)(c:UInt8)(h:s.getLast?≠some c):Lib.hasSuffix s [c]=false:=by
 rcases List.eq_nil_or_concat s with rfl|⟨t,d,rfl⟩
 ·simp [Lib.hasSuffix]
 ·rw [List.concat_eq_append] at h ⊢
  have:¬c=d:=fun e=>h (by rw [e];simp)
  simp [Lib.hasSuffix,List.isSuffixOf,List.isPrefixOf,this]
theorem JQV:Jb Tryz.prog 53 [.str []] (.leaf (.d (JEl []))) []:=by
 refine Js Jf Tryz.func53 rfl JIC JJ rfl ?_
 refine JB.reg ?_
 refine JA.o ?_
 refine JA.nil (JB.assocS (JB.reg ?_))
 iterate 2 (refine JA.o ?_)
 refine JA.nil ?_
 refine JB.cndS JD (fun hb4=>?_) (fun hb4=>?_)
 ·skip
  refine JB.assocS (JB.reg ?_)
  refine JA.o ?_
  refine JA.nild 2 1 JD JD ?_
  refine JA.nil (JB.retS ?_)
  exact Ends.fin [] (rs:=[.tmp 2]) rfl JD ZB
 ·exact absurd hb4 (by simp)
theorem JQW (s:Bs)(h:s.getLast? = some 10)(hl:s.length≤1000000000):Jb Tryz.prog 53 [.str s] (.leaf (.d (JEl (Jt 10 s.dropLast)))) []:=by
 obtain ⟨g1,g2⟩:=JVI s 10 h
 have hne:s≠[]:=fun e=>by rw [e] at h;cases h
 have e1:=JB6 hne
 have c1:=JLJ s [10] (by omega)
 have c2:=JP6 s [10] (by omega)
 rw [g1] at c1
 rw [g2] at c2
 have hdl:s.dropLast.length≤1000000000:=by rw [List.length_dropLast];omega
 have htk:((Jt 10 s.dropLast).map encStr).take (Jt 10 s.dropLast).length=(Jt 10 s.dropLast).map encStr:=List.take_of_length_le (by simp)
 refine Js Jf Tryz.func53 rfl JIC JJ rfl ?_
 refine JB.reg ?_
 have X:=Fx.mk e1
 refine JA.o1 JC ?_
 refine JA.nil (JB.assocS (JB.reg ?_))
 iterate 2 (refine JA.o1 JC ?_)
 refine JA.nil ?_
 refine JB.cndS JC (fun hb4=>?_) (fun hb4=>?_)
 ·exact absurd hb4 (by simp)
 ·skip
  refine JB.skipS (JB.reg ?_)
  refine JA.o1 JC ?_
  refine JA.c1 (c1) JC JC ?_
  refine JA.c1 (YH true rfl) JC JC ?_
  refine JA.nil (JB.reg ?_)
  refine JA.o1 JC ?_
  refine JA.c1 (c2) JC JC ?_
  refine JA.cal (JDI s.dropLast 10 hdl) JY JC V30 (fr1 JD) JC ?_
  refine JA.o1 JC ?_
  have X:=Fx.mk htk
  refine JA.frz 11900 (by simp only [go_sem,X.h,List.length_map]<;>rfl) ?_
  refine JA.nil ?_
  have X:=Fx.mk e1
  exact Ends.fin [] (rs:=[.tmp 2]) rfl JC Qs
theorem JTA (s:Bs)(h0:s≠[])(h:s.getLast?≠some 10)(hl:s.length≤1000000000):Qr Tryz.prog J0 53 [.str s] []:=by
 have g1:=JVH s 10 h
 have e1:=JB6 h0
 have c1:=JLJ s [10] (by omega)
 rw [g1] at c1
 refine Yq Jf Tryz.func53 rfl JIC JJ rfl ?_
 refine JB.reg ?_
 have X:=Fx.mk e1
 refine JA.o1 JC ?_
 refine JA.nil (JB.assocS (JB.reg ?_))
 iterate 2 (refine JA.o1 JC ?_)
 refine JA.nil ?_
 refine JB.cndS JC (fun hb4=>?_) (fun hb4=>?_)
 ·exact absurd hb4 (by simp)
 ·skip
  refine JB.skipS ?_
  refine JB.pan (pv:=J0) 2 rfl ?_
  refine JA.o1 JC ?_
  refine JA.c1 (c1) JC JC ?_
  exact JA.panc (Z4 false rfl) JY JC Qc rfl
theorem JGs {s:Bs}{ls:List Bs}(hl:s.length≤1000000000)(h:Zv s=some ls):Jb Tryz.prog 53 [.str s] (.leaf (.d (JEl ls))) []:=by
 unfold Zv at h
 split at h
 ·next e=>cases h;subst e;exact JQV
 ·split at h
  ·next e=>cases h;exact JQW s e hl
  ·cases h
theorem JS9 {s:Bs}(hl:s.length≤1000000000)(h:Zv s=none):Qr Tryz.prog J0 53 [.str s] []:=by
 unfold Zv at h
 split at h
 ·cases h
 ·next e0=>
  split at h
  ·cases h
  ·next e=>exact JTA s e0 e hl
end Go.Mw
namespace Go.Bk
def Je:St→List Bs→Nat→St
 |s,_,0=>s
 |s,[],_=>s
 |s,w::ws,k+1=>match ZP s w with
  |some t=>Je t ws k
  |none=>s
theorem JBw (s:St)(ws:List Bs):Je s ws 0=s:=by cases ws<;>rfl
theorem JC3 {s t:St}{w:Bs}(h:ZP s w=some t)(ws:List Bs)(k:Nat):Je s (w::ws) (k+1)=Je t ws k:=by rw [Je,h]
theorem JHu:∀(ws:List Bs) (s f:St),ws.foldlM ZP s=some f→Je s ws ws.length=f∧∀k w,ws[k]? = some w→ZP (Je s ws k) w=some (Je s ws (k+1))
 |[],s,f,h=>by
  have:s=f:=by simpa using h
  subst this
  exact ⟨rfl,fun k w hk=>by simp at hk⟩
 |w::ws,s,f,h=>by
  rw [List.foldlM_cons] at h
  obtain ⟨t,h1,h2⟩:=Option.bind_eq_some_iff.1 h
  obtain ⟨g1,g2⟩:=JHu ws t f h2
  refine ⟨by rw [List.length_cons,JC3 h1];exact g1,fun k v hk=>?_⟩
  cases k with
  |zero=>
   have:w=v:=by simpa using hk
   subst this
   rw [JBw,JC3 h1,JBw];exact h1
  |succ k=>rw [JC3 h1,JC3 h1];exact g2 k v (by simpa using hk)
theorem JDo {s t:St}{w:Bs}(h:ZP s w=some t):∃g,JAo w=some g∧(s.last.1=0∨s.last.2≠g.2)∧s.reads.length+g.1≤16∧t=⟨Jq g.2 g.1 s.reads,g⟩:=by
 unfold ZP at h
 obtain ⟨g,h1,h2⟩:=Option.bind_eq_some_iff.1 h
 split at h2
 ·next hc=>cases h2;exact ⟨g,h1,hc.1,hc.2,rfl⟩
 ·cases h2
def JE6 (r:List Int):Prop:=r≠[]∧r.length≤16∧0≤Y9 r∧Y9 r≤1000000000000*r.length
theorem JAy {r:List Int}{d:Int}(h:JE6 r)(hd:0≤d∧d≤1000000000000):∀(j:Nat),r.length+j≤16→JE6 (Jq d j r)
 |0,_=>h
 |j+1,hj=>by
  obtain ⟨h1,h2,h3,h4⟩:=JAy h hd j (by omega)
  rw [JAw]
  refine ⟨by simp,?_,?_,?_⟩
  ·rw [List.length_append,List.length_singleton,Y4];omega
  ·rw [JHV];omega
  ·rw [JHV,List.length_append,List.length_singleton,Y4]
   rw [Y4] at h4
   push_cast at h4 ⊢
   omega
end Go.Bk
namespace Go.Bk
theorem JRo {s f:St}{ws:List Bs}(hs:s.reads.length≤16)(h:ws.foldlM ZP s=some f):f.reads.length≤16:=by
 obtain ⟨g1,g2⟩:=JHu ws s f h
 cases hn:ws.length with
 |zero=>
  have:ws=[]:=List.eq_nil_of_length_eq_zero hn
  subst this
  rw [List.length_nil,JBw] at g1
  rw [←g1];exact hs
 |succ n=>
  obtain ⟨w,hw⟩:∃w,ws[n]? = some w:=⟨_,List.getElem?_eq_getElem (by omega)⟩
  obtain ⟨g,_,_,h3,h4⟩:=JDo (g2 n w hw)
  rw [hn,h4] at g1
  rw [←g1]
  show (Jq g.2 g.1 _).length≤16
  rw [Y4];exact h3
theorem JJh {line:Bs}{pg:Pg}(h:Yp line=some pg):pg.reads.length≤16:=by
 unfold Yp at h
 split at h
 ·cases h
 ·split at h
  ·cases h;simp
  ·cases h
 ·split at h
  ·obtain ⟨sf,h1,h2⟩:=Option.map_eq_some_iff.1 h
   cases h2
   exact JRo (by simp) h1
  ·cases h
theorem mapM_at:∀(ls:List Bs) (l:List Pg),ls.mapM Yp=some l→l.length=ls.length∧∀(k:Nat) (line:Bs),ls[k]? = some line→∃pg:Pg,Yp line=some pg∧l[k]? = some pg
 |[],l,h=>by
  have:l=[]:=by simpa using h.symm
  subst this
  exact ⟨rfl,fun k line hk=>by simp at hk⟩
 |x::ls,l,h=>by
  rw [List.mapM_cons] at h
  obtain ⟨p,h1,h2⟩:=Option.bind_eq_some_iff.1 h
  obtain ⟨ps,h3,h4⟩:=Option.bind_eq_some_iff.1 h2
  cases h4
  obtain ⟨g1,g2⟩:=mapM_at ls ps h3
  refine ⟨by simp [g1],fun k line hk=>?_⟩
  cases k with
  |zero=>
   have:x=line:=by simpa using hk
   subst this
   exact ⟨p,h1,rfl⟩
  |succ k=>
   obtain ⟨pg,e1,e2⟩:=g2 k line (by simpa using hk)
   exact ⟨pg,e1,by simpa using e2⟩
theorem JMo:∀(ls:List Bs),ls.mapM Yp=none→∃(q:Nat) (line:Bs) (l:List Pg),ls[q]? = some line∧Yp line=none∧(ls.take q).mapM Yp=some l
 |[],h=>by cases h
 |x::ls,h=>by
  rw [List.mapM_cons] at h
  cases h1:Yp x with
  |none=>exact ⟨0,x,[],rfl,h1,rfl⟩
  |some p=>
   rw [h1] at h
   cases h2:ls.mapM Yp with
   |some ps=>rw [h2] at h;cases h
   |none=>
    obtain ⟨q,line,l,e1,e2,e3⟩:=JMo ls h2
    refine ⟨q+1,line,p::l,by simpa using e1,e2,?_⟩
    rw [List.take_succ_cons,List.mapM_cons,h1,e3];rfl
end Go.Bk
namespace Go.Mw
open Go.Proofs
open Go.Bk
attribute [local go_sem] decide_true beq_self_eq_true bne_self_eq_false
theorem JA0 (c:UInt8):∀(s w:Bs),w∈Jt c s→w.length≤s.length
 |[],w,h=>by simp [Jt] at h;subst h;simp
 |x::s,w,h=>by
  unfold Jt at h
  split at h
  ·rcases List.mem_cons.1 h with h|h
   ·subst h;simp
   ·have:=JA0 c s w h;simp;omega
  ·split at h
   ·simp at h;subst h;simp
   ·next a r hc=>
    rcases List.mem_cons.1 h with h|h
    ·subst h
     have:=JA0 c s a (by rw [hc];simp)
     simp;omega
    ·have:=JA0 c s w (by rw [hc];simp [h])
     simp;omega
theorem JCh (c:UInt8):∀(s:Bs),(Jt c s).length≤s.length+1
 |[]=>by simp [Jt]
 |x::s=>by
  have ih:=JCh c s
  unfold Jt
  split
  ·simp;omega
  ·split
   ·simp
   ·next a r hc=>rw [hc] at ih;simp at ih ⊢;omega
theorem JCH {l:List Int}(h:l≠[]):l[l.length-1]? = some (Y9 l):=by
 rw [←List.getLast?_eq_getElem?]
 unfold Y9
 cases hl:l.getLast? with
 |none=>exact absurd (List.getLast?_eq_none_iff.1 hl) h
 |some x=>rfl
theorem JCm {w:Bs}{g:Nat × Int}(h:JAo w=some g):1≤g.1∧g.1≤16∧0≤g.2∧g.2<1000000000000:=by
 unfold JAo at h
 split at h
 ·split at h
  ·next hf=>cases h;have:=JCl hf;exact ⟨by simp,by simp,by simp,by show ((JW _:Nat):Int)<_;omega⟩
  ·cases h
 ·split at h
  ·next hf=>cases h;have:=JCl hf.1.2;exact ⟨by show 1≤JW _;omega,hf.2.2,by simp,by show ((JW _:Nat):Int)<_;omega⟩
  ·cases h
 ·cases h
theorem JQc (line h r:Bs)(ws:List Bs)(hc:Jt 32 line=h::r::ws)(hl:line.length≤1000000000)(fh:YD h=true)(fr:YD r=true)(sf:St)(hf:ws.foldlM ZP ⟨[(JW r:Int)],(0,0)⟩=some sf):Jb Tryz.prog 54 [.str line] (.val true [.d (.i (JW h:Nat)),.d (Qz sf.reads)]) []:=by
 have hwn:=JCh 32 line
 rw [hc] at hwn
 simp only [List.length_cons] at hwn
 have hsp:=JDI line 32 hl
 rw [hc] at hsp
 have hwl:=JA0 32 line
 rw [hc] at hwl
 obtain ⟨hsf,hstep⟩:=JHu ws _ sf hf
 have bh:=JCl fh
 have br:=JCl fr
 have hgt:decide (((ws.length:Int)+1+1)>1)=true:=decide_eq_true (by omega)
 have hgt2:decide ((((ws.length+1+1:Nat)):Int)>1)=true:=decide_eq_true (by omega)
 have htk:(((h::r::ws).map encStr)).take (h::r::ws).length=(h::r::ws).map encStr:=List.take_of_length_le (by simp)
 have hbs:∀k,k≤ws.length→JE6 (Je ⟨[(JW r:Int)],(0,0)⟩ ws k).reads:=fun k hk=>by
  induction k with
  |zero=>rw [JBw];exact ⟨by simp,by simp,by simp [Y9],by simp [Y9];omega⟩
  |succ k ih=>
   obtain ⟨w,hw⟩:∃w,ws[k]? = some w:=⟨_,List.getElem?_eq_getElem (by omega)⟩
   obtain ⟨g,g1,g2,g3,g4⟩:=JDo (hstep k w hw)
   rw [g4]
   have:=JCm g1
   exact JAy (ih (by omega)) ⟨by omega,by omega⟩ g.1 (by omega)
 have h2n:Int.toNat 2=2:=rfl
 have htw:List.take ws.length (List.map encStr ws)=List.map encStr ws:=List.take_of_length_le (by simp)
 refine Js Jf Tryz.func54 rfl JDv JJ rfl ?_
 refine JB.reg ?_
 have X:=(((Fx.mk hgt).a hgt2).a h2n).a htw
 refine JA.o1 JP ?_
 refine JA.nil (JB.reg ?_)
 refine JA.o1 JP ?_
 refine JA.cal (hsp) JY JP V30 (fr1 JD) JP ?_
 refine JA.o1 JP ?_
 have X:=Fx.mk htk
 refine JA.frz 11900 V90 ?_
 refine JA.nil (JB.reg ?_)
 have X:=(((Fx.mk hgt).a hgt2).a h2n).a htw
 refine JA.o1 JP ?_
 refine JA.o1 ZR ?_
 refine JA.o1 JP ?_
 refine JA.c1 (JAe h fh) JP JP ?_
 iterate 3 (refine JA.o1 JP ?_)
 refine JA.nil (JB.assocS (JB.reg ?_))
 iterate 3 (refine JA.o1 JP ?_)
 refine JA.nil ?_
 refine JB.cndS JP (fun hb18=>?_) (fun hb18=>?_)
 ·skip
  refine JB.assocS (JB.reg ?_)
  refine JA.o1 JP ?_
  refine JA.o1 ZR ?_
  refine JA.o1 JP ?_
  refine JA.c1 (JAe r fr) JP JP ?_
  iterate 3 (refine JA.o1 JP ?_)
  refine JA.nil (JB.assocS (JB.reg ?_))
  iterate 3 (refine JA.o1 JP ?_)
  refine JA.nil (JB.assocS (JB.reg ?_))
  refine JA.o1 JP ?_
  refine JA.o1 ZR ?_
  iterate 2 (refine JA.o1 JP ?_)
  refine JA.nil (JB.blk ?_)
  refine JB.forA [2,4,5,27,28,29] [2,4,5,23] (ws.length) (fun k=>[.slot 29 (.int k),.obj 4 (.cells [.d (.i (JW h:Nat)),.own 23 0 (Je ⟨[(JW r:Int)],(0,0)⟩ ws k).reads.length (Je ⟨[(JW r:Int)],(0,0)⟩ ws k).reads.length]),.obj 23 (.arr 3 1 ((Je ⟨[(JW r:Int)],(0,0)⟩ ws k).reads.map Qy)),.obj 5 (.cells [.d (.i ((Je ⟨[(JW r:Int)],(0,0)⟩ ws k).last.1:Nat)),.d (.i (Je ⟨[(JW r:Int)],(0,0)⟩ ws k).last.2)])]) (fun _=>True) (fun k=>by simp only [go_sem]<;>rfl) V28 ?_ (fun k hk hX=>?_)
  ·trivial
  ·skip
   refine JB.reg ?_
   refine JA.o1 JP ?_
   refine JA.nil ?_
   refine JB.cndS JP (fun hb30=>?_) (fun hb30=>?_)
   ·skip
    have hlt:k<ws.length:=by simpa using hb30
    obtain ⟨w,hw⟩:∃w,ws[k]? = some w:=⟨_,List.getElem?_eq_getElem hlt⟩
    obtain ⟨g,hg,hnb,hlen,hst⟩:=JDo (hstep k w hw)
    have hwk:w.length≤1000000000:=Nat.le_trans (hwl w (List.mem_cons_of_mem _ (List.mem_cons_of_mem _ (List.mem_of_getElem? hw)))) hl
    have hgb:=JCm hg
    have hbk:=hbs k (by omega)
    have hal:=Y4 g.2 g.1 (Je ⟨[(JW r:Int)],(0,0)⟩ ws k).reads
    refine JB.skipS (JB.blk (JB.reg ?_))
    have X:=(X.a hw).a hst
    refine JA.o1 ZR ?_
    iterate 2 (refine JA.o1 JP ?_)
    refine JA.nil (JB.reg ?_)
    refine JA.o1 JP ?_
    refine JA.c1 (JGq hwk hg) JP JP ?_
    iterate 2 (refine JA.o1 JP ?_)
    refine JA.nil ?_
    by_cases h0:(Je ⟨[(JW r:Int)],(0,0)⟩ ws k).last.1=0
    ·skip
     have e0:((((Je ⟨[(JW r:Int)],(0,0)⟩ ws k).last.1:Nat):Int)==0)=true:=by rw [h0];rfl
     refine JB.reg ?_
     have X:=X.a e0
     iterate 4 (refine JA.o1 JP ?_)
     iterate 5 (refine JA.s ?_)
     refine JA.o1 JP ?_
     refine JA.c1 (YH true rfl) JP JP ?_
     refine JA.nil (JB.assocS (JB.reg ?_))
     iterate 3 (refine JA.o1 JP ?_)
     refine JA.nil (JB.blk ?_)
     refine JB.forA [2,4,5,8,27,28,29,47,48] [2,4,5,8,23] (g.1) (fun j=>[.slot 48 (.int j),.obj 4 (.cells [.d (.i (JW h:Nat)),.own 23 0 (Jq g.2 j (Je ⟨[(JW r:Int)],(0,0)⟩ ws k).reads).length (Jq g.2 j (Je ⟨[(JW r:Int)],(0,0)⟩ ws k).reads).length]),.obj 23 (.arr 3 1 ((Jq g.2 j (Je ⟨[(JW r:Int)],(0,0)⟩ ws k).reads).map Qy))]) (fun _=>True) (fun j=>by simp only [go_sem]<;>rfl) V33 ?_ (fun j hj Xj=>?_)
     ·trivial
     ·skip
      refine JB.reg ?_
      refine JA.o1 JP ?_
      refine JA.nil ?_
      refine JB.cndS JP (fun hb49=>?_) (fun hb49=>?_)
      ·skip
       have hj:j<g.1:=by have:=of_decide_eq_true hb49;omega
       have hRl:=Y4 g.2 j (Je ⟨[(JW r:Int)],(0,0)⟩ ws k).reads
       have hbj:=JAy hbk ⟨hgb.2.2.1,by omega⟩ j (by omega)
       have hp1:1≤(Jq g.2 j (Je ⟨[(JW r:Int)],(0,0)⟩ ws k).reads).length:=List.length_pos_iff.2 hbj.1
       have hlg:=JCH hbj.1
       have hl16:decide (((Jq g.2 j (Je ⟨[(JW r:Int)],(0,0)⟩ ws k).reads).length:Int)<16)=true:=decide_eq_true (by omega)
       have h1n:(((Jq g.2 j (Je ⟨[(JW r:Int)],(0,0)⟩ ws k).reads).length:Int)-1).toNat=(Jq g.2 j (Je ⟨[(JW r:Int)],(0,0)⟩ ws k).reads).length-1:=by omega
       have hsu:=JAw g.2 j (Je ⟨[(JW r:Int)],(0,0)⟩ ws k).reads
       have hb3:=hbj.2.2.1
       have hb4:=hbj.2.2.2
       refine JB.skipS (JB.blk (JB.reg ?_))
       have X:=(((X.a hl16).a h1n).a hlg).a hsu
       iterate 4 (refine JA.o1 JP ?_)
       refine JA.c1 (YH true rfl) JP JP ?_
       refine JA.nil ?_
       refine JB.opk1 19 ?_
       iterate 7 (refine JF.o1 JP ?_)
       refine JF.o1 Yh ?_
       refine JF.o1 ZR ?_
       iterate 3 (refine JF.o1 JP ?_)
       refine JF.o1 Yh ?_
       refine JF.o1 JP ?_
       refine JF.o1 V1 ?_
       iterate 2 (refine JF.o1 JP ?_)
       refine JF.nil (QO.finT JJ JJ JJ ?_)
       refine JR.nrm (JB.reg1 ?_)
       refine JA.o1 Yh ?_
       refine JA.o1 JP ?_
       refine JA.nil ?_
       refine JU.nxt ?_ ?_ ?_
       ·omega
       ·exact JN.kp [2,4,5,8,27,28,29,47,48] [2,4,5,8,23] V9
       ·trivial
      ·skip
       have hje:j=g.1:=by have:=of_decide_eq_false hb49;omega
       subst hje
       refine JB.exitS (JU.ext (JR.hit (JB.reg1 ?_)))
       iterate 2 (refine JA.o1 JP ?_)
       refine JA.nil (JR.nrm (JB.reg1 ?_))
       refine JA.o1 Yh ?_
       refine JA.o1 JP ?_
       refine JA.nil ?_
       refine JU.nxt ?_ ?_ ?_
       ·omega
       ·exact JN.kp [2,4,5,27,28,29] [2,4,5,23] V34
       ·trivial
    ·skip
     have e0:((((Je ⟨[(JW r:Int)],(0,0)⟩ ws k).last.1:Nat):Int)==0)=false:=by simpa using h0
     have e5:((Je ⟨[(JW r:Int)],(0,0)⟩ ws k).last.2 != g.2)=true:=by simpa using hnb.resolve_left h0
     refine JB.reg ?_
     have X:=(X.a e0).a e5
     iterate 4 (refine JA.o1 JP ?_)
     iterate 5 (refine JA.y1 JP ?_)
     refine JA.o1 JP ?_
     refine JA.c1 (YH true rfl) JP JP ?_
     refine JA.nil (JB.assocS (JB.reg ?_))
     iterate 3 (refine JA.o1 JP ?_)
     refine JA.nil (JB.blk ?_)
     refine JB.forA [2,4,5,8,27,28,29,47,48] [2,4,5,8,23] (g.1) (fun j=>[.slot 48 (.int j),.obj 4 (.cells [.d (.i (JW h:Nat)),.own 23 0 (Jq g.2 j (Je ⟨[(JW r:Int)],(0,0)⟩ ws k).reads).length (Jq g.2 j (Je ⟨[(JW r:Int)],(0,0)⟩ ws k).reads).length]),.obj 23 (.arr 3 1 ((Jq g.2 j (Je ⟨[(JW r:Int)],(0,0)⟩ ws k).reads).map Qy))]) (fun _=>True) (fun j=>by simp only [go_sem]<;>rfl) V33 ?_ (fun j hj Xj=>?_)
     ·trivial
     ·skip
      refine JB.reg ?_
      refine JA.o1 JP ?_
      refine JA.nil ?_
      refine JB.cndS JP (fun hb49=>?_) (fun hb49=>?_)
      ·skip
       have hj:j<g.1:=by have:=of_decide_eq_true hb49;omega
       have hRl:=Y4 g.2 j (Je ⟨[(JW r:Int)],(0,0)⟩ ws k).reads
       have hbj:=JAy hbk ⟨hgb.2.2.1,by omega⟩ j (by omega)
       have hp1:1≤(Jq g.2 j (Je ⟨[(JW r:Int)],(0,0)⟩ ws k).reads).length:=List.length_pos_iff.2 hbj.1
       have hlg:=JCH hbj.1
       have hl16:decide (((Jq g.2 j (Je ⟨[(JW r:Int)],(0,0)⟩ ws k).reads).length:Int)<16)=true:=decide_eq_true (by omega)
       have h1n:(((Jq g.2 j (Je ⟨[(JW r:Int)],(0,0)⟩ ws k).reads).length:Int)-1).toNat=(Jq g.2 j (Je ⟨[(JW r:Int)],(0,0)⟩ ws k).reads).length-1:=by omega
       have hsu:=JAw g.2 j (Je ⟨[(JW r:Int)],(0,0)⟩ ws k).reads
       have hb3:=hbj.2.2.1
       have hb4:=hbj.2.2.2
       refine JB.skipS (JB.blk (JB.reg ?_))
       have X:=(((X.a hl16).a h1n).a hlg).a hsu
       iterate 4 (refine JA.o1 JP ?_)
       refine JA.c1 (YH true rfl) JP JP ?_
       refine JA.nil ?_
       refine JB.opk1 19 ?_
       iterate 7 (refine JF.o1 JP ?_)
       refine JF.o1 Yh ?_
       refine JF.o1 ZR ?_
       iterate 3 (refine JF.o1 JP ?_)
       refine JF.o1 Yh ?_
       refine JF.o1 JP ?_
       refine JF.o1 V1 ?_
       iterate 2 (refine JF.o1 JP ?_)
       refine JF.nil (QO.finT JJ JJ JJ ?_)
       refine JR.nrm (JB.reg1 ?_)
       refine JA.o1 Yh ?_
       refine JA.o1 JP ?_
       refine JA.nil ?_
       refine JU.nxt ?_ ?_ ?_
       ·omega
       ·exact JN.kp [2,4,5,8,27,28,29,47,48] [2,4,5,8,23] V9
       ·trivial
      ·skip
       have hje:j=g.1:=by have:=of_decide_eq_false hb49;omega
       subst hje
       refine JB.exitS (JU.ext (JR.hit (JB.reg1 ?_)))
       iterate 2 (refine JA.o1 JP ?_)
       refine JA.nil (JR.nrm (JB.reg1 ?_))
       refine JA.o1 Yh ?_
       refine JA.o1 JP ?_
       refine JA.nil ?_
       refine JU.nxt ?_ ?_ ?_
       ·omega
       ·exact JN.kp [2,4,5,27,28,29] [2,4,5,23] V34
       ·trivial
   ·skip
    have hke:k=ws.length:=by have h9:ws.length≤k:=(by simpa using hb30);omega
    subst hke
    have hta:List.take sf.reads.length (List.map Qy sf.reads)=List.map Qy sf.reads:=List.take_of_length_le (by simp)
    refine JB.exitS (JU.ext (JR.hit (JB.reg ?_)))
    have X:=Fx.mk hta
    refine JA.frz 23 JC ?_
    have X:=(((((Fx.mk hgt).a hgt2).a h2n).a htw).a hsf).a hta
    iterate 2 (refine JA.o1 JP ?_)
    refine JA.nil ?_
    exact Ends.fin [] (rs:=[.cell 2 31]) rfl JP V35
 ·exact absurd hb18 (by simp)
end Go.Mw
namespace Go.Mw
open Go.Proofs
open Go.Bk
attribute [local go_sem] decide_true beq_self_eq_true bne_self_eq_false
theorem JLb (line h:Bs)(hc:Jt 32 line=[h])(hl:line.length≤1000000000)(fh:YD h=true):Jb Tryz.prog 54 [.str line] (.val true [.d (.i (JW h:Nat)),.d (.raw (.slice none 0 0))]) []:=by
 have hsp:=JDI line 32 hl
 rw [hc] at hsp
 have h11:decide (((0:Int)+1)>1)=false:=rfl
 have h12:decide ((1:Int)>1)=false:=rfl
 have h13:decide (((0+1:Nat):Int)>1)=false:=rfl
 have h14:decide (((1:Nat):Int)>1)=false:=rfl
 refine Js Jf Tryz.func54 rfl JDv JJ rfl ?_
 refine JB.reg ?_
 have X:=(((Fx.mk h11).a h12).a h13).a h14
 refine JA.o1 ZU ?_
 refine JA.nil (JB.reg ?_)
 refine JA.o1 ZU ?_
 refine JA.cal (hsp) JY ZU V30 (fr1 JD) ZU ?_
 refine JA.o1 ZU ?_
 refine JA.frz 11900 (by simp only [go_sem,List.map_cons,List.map_nil,List.length_cons,List.length_nil]<;>rfl) ?_
 refine JA.nil (JB.reg ?_)
 refine JA.o1 ZU ?_
 refine JA.o1 V25 ?_
 refine JA.o1 ZU ?_
 refine JA.c1 (JAe h fh) ZU ZU ?_
 iterate 3 (refine JA.o1 ZU ?_)
 refine JA.nil (JB.assocS (JB.reg ?_))
 iterate 3 (refine JA.o1 ZU ?_)
 refine JA.nil ?_
 refine JB.cndS ZU (fun hb18=>?_) (fun hb18=>?_)
 ·exact absurd hb18 (by simp)
 ·skip
  refine JB.skipS (JB.reg ?_)
  iterate 2 (refine JA.o1 ZU ?_)
  refine JA.nil ?_
  exact Ends.fin [] (rs:=[.cell 2 31]) rfl ZU (by simp only [go_sem,X.h,List.map_cons,List.map_nil,List.length_cons,List.length_nil,List.getElem?_cons_zero,Int.toNat_zero]<;>first|rfl|exact QP)
theorem JM5 (line h:Bs)(t:List Bs)(hc:Jt 32 line=h::t)(hl:line.length≤1000000000)(fh:YD h=false)(hh:h.length≤1000000000):Qr Tryz.prog J0 54 [.str line] []:=by
 have hsp:=JDI line 32 hl
 rw [hc] at hsp
 have h11:decide (((0:Int)+1)>1)=false:=rfl
 have h12:decide ((1:Int)>1)=false:=rfl
 have h13:decide (((0+1:Nat):Int)>1)=false:=rfl
 have h14:decide (((1:Nat):Int)>1)=false:=rfl
 refine Yq Jf Tryz.func54 rfl JDv JJ rfl ?_
 refine JB.reg ?_
 have X:=(((Fx.mk h11).a h12).a h13).a h14
 refine JA.o1 ZU ?_
 refine JA.nil (JB.reg ?_)
 refine JA.o1 ZU ?_
 refine JA.cal (hsp) JY ZU V30 (fr1 JD) ZU ?_
 refine JA.o1 ZU ?_
 refine JA.frz 11900 (by simp only [go_sem,List.map_cons]<;>rfl) ?_
 refine JA.nil ?_
 refine JB.pan (pv:=J0) 3 rfl ?_
 refine JA.o1 ZU ?_
 refine JA.o1 V25 ?_
 refine JA.o1 ZU ?_
 exact JA.panc (JFq fh hh) JY ZU Qc rfl
theorem Wk.nilV (a:AL)(k:Nat):Wk (.val true [a,.d (.raw (.slice none 0 0))]) (.val true [a,.d (.sl k [])]):=by
 intro S ι H w v ⟨vs,hv,ha⟩
 refine ⟨vs,hv,?_⟩
 match vs,ha with
 |[x,y],⟨h1,h2,h3⟩=>
  have h2':RepD S w (.raw (.slice none 0 0)) y:=h2
  cases h2'
  exact ⟨h1,RepD.nil _ _ _,h3⟩
theorem JQb (line h:Bs)(hc:Jt 32 line=[h])(hl:line.length≤1000000000)(fh:YD h=true):Jb Tryz.prog 54 [.str line] (.val true [.d (.i (JW h:Nat)),.d (Qz [])]) []:=
 (JLb line h hc hl fh).weak (Wk.nilV _ 1)
theorem JTC (line h r:Bs)(t:List Bs)(hc:Jt 32 line=h::r::t)(hl:line.length≤1000000000)(fh:YD h=true)(fr:YD r=false)(hr:r.length≤1000000000):Qr Tryz.prog J0 54 [.str line] []:=by
 have hsp:=JDI line 32 hl
 rw [hc] at hsp
 have hgt:decide (((t.length:Int)+1+1)>1)=true:=decide_eq_true (by omega)
 have hgt2:decide ((((t.length+1+1:Nat)):Int)>1)=true:=decide_eq_true (by omega)
 refine Yq Jf Tryz.func54 rfl JDv JJ rfl ?_
 refine JB.reg ?_
 have X:=(Fx.mk hgt).a hgt2
 refine JA.o1 V59 ?_
 refine JA.nil (JB.reg ?_)
 refine JA.o1 V59 ?_
 refine JA.cal (hsp) JY V59 V30 (fr1 JD) V59 ?_
 refine JA.o1 V59 ?_
 refine JA.frz 11900 (by simp only [go_sem,List.map_cons]<;>rfl) ?_
 refine JA.nil (JB.reg ?_)
 refine JA.o1 V59 ?_
 refine JA.o1 V23 ?_
 refine JA.o1 V59 ?_
 refine JA.c1 (JAe h fh) V59 V59 ?_
 iterate 3 (refine JA.o1 V59 ?_)
 refine JA.nil (JB.assocS (JB.reg ?_))
 iterate 3 (refine JA.o1 V59 ?_)
 refine JA.nil ?_
 refine JB.cndS V59 (fun hb18=>?_) (fun hb18=>?_)
 ·skip
  refine JB.assocS ?_
  refine JB.pan (pv:=J0) 3 rfl ?_
  refine JA.o1 V59 ?_
  refine JA.o1 V23 ?_
  refine JA.o1 V59 ?_
  exact JA.panc (JFq fr hr) JY V59 Qc rfl
 ·skip
  exact absurd hb18 ZS
end Go.Mw
namespace Go.Mw
open Go.Proofs
open Go.Bk
attribute [local go_sem] decide_true beq_self_eq_true bne_self_eq_false
theorem JTD (line h r:Bs)(ws:List Bs)(hc:Jt 32 line=h::r::ws)(hl:line.length≤1000000000)(fh:YD h=true)(fr:YD r=true)(q:Nat)(w0:Bs)(hw0:ws[q]? = some w0)(hstep:∀k w,k<q→ws[k]? = some w→ZP (Je ⟨[(JW r:Int)],(0,0)⟩ ws k) w=some (Je ⟨[(JW r:Int)],(0,0)⟩ ws (k+1)))(hbad:ZP (Je ⟨[(JW r:Int)],(0,0)⟩ ws q) w0=none):Qr Tryz.prog J0 54 [.str line] []:=by
 have hqw:=(List.getElem?_eq_some_iff.1 hw0).1
 have hwn:=JCh 32 line
 rw [hc] at hwn
 simp only [List.length_cons] at hwn
 have hsp:=JDI line 32 hl
 rw [hc] at hsp
 have hwl:=JA0 32 line
 rw [hc] at hwl
 have bh:=JCl fh
 have br:=JCl fr
 have hgt:decide (((ws.length:Int)+1+1)>1)=true:=decide_eq_true (by omega)
 have hgt2:decide ((((ws.length+1+1:Nat)):Int)>1)=true:=decide_eq_true (by omega)
 have htk:(((h::r::ws).map encStr)).take (h::r::ws).length=(h::r::ws).map encStr:=List.take_of_length_le (by simp)
 have hbs:∀k,k≤q→JE6 (Je ⟨[(JW r:Int)],(0,0)⟩ ws k).reads:=fun k hk=>by
  induction k with
  |zero=>rw [JBw];exact ⟨by simp,by simp,by simp [Y9],by simp [Y9];omega⟩
  |succ k ih=>
   obtain ⟨w,hw⟩:∃w,ws[k]? = some w:=⟨_,List.getElem?_eq_getElem (by omega)⟩
   obtain ⟨g,g1,g2,g3,g4⟩:=JDo (hstep k w (by omega) hw)
   rw [g4]
   have:=JCm g1
   exact JAy (ih (by omega)) ⟨by omega,by omega⟩ g.1 (by omega)
 have h2n:Int.toNat 2=2:=rfl
 have htw:List.take ws.length (List.map encStr ws)=List.map encStr ws:=List.take_of_length_le (by simp)
 refine Yq Jf Tryz.func54 rfl JDv JJ rfl ?_
 refine JB.reg ?_
 have X:=(((Fx.mk hgt).a hgt2).a h2n).a htw
 refine JA.o1 JP ?_
 refine JA.nil (JB.reg ?_)
 refine JA.o1 JP ?_
 refine JA.cal (hsp) JY JP V30 (fr1 JD) JP ?_
 refine JA.o1 JP ?_
 have X:=Fx.mk htk
 refine JA.frz 11900 V90 ?_
 refine JA.nil (JB.reg ?_)
 have X:=(((Fx.mk hgt).a hgt2).a h2n).a htw
 refine JA.o1 JP ?_
 refine JA.o1 ZR ?_
 refine JA.o1 JP ?_
 refine JA.c1 (JAe h fh) JP JP ?_
 iterate 3 (refine JA.o1 JP ?_)
 refine JA.nil (JB.assocS (JB.reg ?_))
 iterate 3 (refine JA.o1 JP ?_)
 refine JA.nil ?_
 refine JB.cndS JP (fun hb18=>?_) (fun hb18=>?_)
 ·skip
  refine JB.assocS (JB.reg ?_)
  refine JA.o1 JP ?_
  refine JA.o1 ZR ?_
  refine JA.o1 JP ?_
  refine JA.c1 (JAe r fr) JP JP ?_
  iterate 3 (refine JA.o1 JP ?_)
  refine JA.nil (JB.assocS (JB.reg ?_))
  iterate 3 (refine JA.o1 JP ?_)
  refine JA.nil (JB.assocS (JB.reg ?_))
  refine JA.o1 JP ?_
  refine JA.o1 ZR ?_
  iterate 2 (refine JA.o1 JP ?_)
  refine JA.nil (JB.blk ?_)
  refine JB.forA [2,4,5,27,28,29] [2,4,5,23] (q) (fun k=>[.slot 29 (.int k),.obj 4 (.cells [.d (.i (JW h:Nat)),.own 23 0 (Je ⟨[(JW r:Int)],(0,0)⟩ ws k).reads.length (Je ⟨[(JW r:Int)],(0,0)⟩ ws k).reads.length]),.obj 23 (.arr 3 1 ((Je ⟨[(JW r:Int)],(0,0)⟩ ws k).reads.map Qy)),.obj 5 (.cells [.d (.i ((Je ⟨[(JW r:Int)],(0,0)⟩ ws k).last.1:Nat)),.d (.i (Je ⟨[(JW r:Int)],(0,0)⟩ ws k).last.2)])]) (fun _=>True) (fun k=>by simp only [go_sem]<;>rfl) V28 ?_ (fun k hk hX=>?_)
  ·trivial
  ·skip
   refine JB.reg ?_
   refine JA.o1 JP ?_
   refine JA.nil ?_
   refine JB.cndS JP (fun hb30=>?_) (fun hb30=>?_)
   ·skip
    have hlt:k<ws.length:=by omega
    refine JB.skipS (JB.blk ?_)
    by_cases hkq:k<q
    ·skip
     obtain ⟨w,hw⟩:∃w,ws[k]? = some w:=⟨_,List.getElem?_eq_getElem (by omega)⟩
     obtain ⟨g,hg,hnb,hlen,hst⟩:=JDo (hstep k w hkq hw)
     have hwk:w.length≤1000000000:=Nat.le_trans (hwl w (List.mem_cons_of_mem _ (List.mem_cons_of_mem _ (List.mem_of_getElem? hw)))) hl
     have hgb:=JCm hg
     have hbk:=hbs k (by omega)
     have hal:=Y4 g.2 g.1 (Je ⟨[(JW r:Int)],(0,0)⟩ ws k).reads
     refine JB.reg ?_
     have X:=(X.a hw).a hst
     refine JA.o1 ZR ?_
     iterate 2 (refine JA.o1 JP ?_)
     refine JA.nil (JB.reg ?_)
     refine JA.o1 JP ?_
     refine JA.c1 (JGq hwk hg) JP JP ?_
     iterate 2 (refine JA.o1 JP ?_)
     refine JA.nil ?_
     by_cases h0:(Je ⟨[(JW r:Int)],(0,0)⟩ ws k).last.1=0
     ·skip
      have e0:((((Je ⟨[(JW r:Int)],(0,0)⟩ ws k).last.1:Nat):Int)==0)=true:=by rw [h0];rfl
      refine JB.reg ?_
      have X:=X.a e0
      iterate 4 (refine JA.o1 JP ?_)
      iterate 5 (refine JA.s ?_)
      refine JA.o1 JP ?_
      refine JA.c1 (YH true rfl) JP JP ?_
      refine JA.nil (JB.assocS (JB.reg ?_))
      iterate 3 (refine JA.o1 JP ?_)
      refine JA.nil (JB.blk ?_)
      refine JB.forA [2,4,5,8,27,28,29,47,48] [2,4,5,8,23] (g.1) (fun j=>[.slot 48 (.int j),.obj 4 (.cells [.d (.i (JW h:Nat)),.own 23 0 (Jq g.2 j (Je ⟨[(JW r:Int)],(0,0)⟩ ws k).reads).length (Jq g.2 j (Je ⟨[(JW r:Int)],(0,0)⟩ ws k).reads).length]),.obj 23 (.arr 3 1 ((Jq g.2 j (Je ⟨[(JW r:Int)],(0,0)⟩ ws k).reads).map Qy))]) (fun _=>True) (fun j=>by simp only [go_sem]<;>rfl) V33 ?_ (fun j hj Xj=>?_)
      ·trivial
      ·skip
       refine JB.reg ?_
       refine JA.o1 JP ?_
       refine JA.nil ?_
       refine JB.cndS JP (fun hb49=>?_) (fun hb49=>?_)
       ·skip
        have hj:j<g.1:=by have:=of_decide_eq_true hb49;omega
        have hRl:=Y4 g.2 j (Je ⟨[(JW r:Int)],(0,0)⟩ ws k).reads
        have hbj:=JAy hbk ⟨hgb.2.2.1,by omega⟩ j (by omega)
        have hp1:1≤(Jq g.2 j (Je ⟨[(JW r:Int)],(0,0)⟩ ws k).reads).length:=List.length_pos_iff.2 hbj.1
        have hlg:=JCH hbj.1
        have hl16:decide (((Jq g.2 j (Je ⟨[(JW r:Int)],(0,0)⟩ ws k).reads).length:Int)<16)=true:=decide_eq_true (by omega)
        have h1n:(((Jq g.2 j (Je ⟨[(JW r:Int)],(0,0)⟩ ws k).reads).length:Int)-1).toNat=(Jq g.2 j (Je ⟨[(JW r:Int)],(0,0)⟩ ws k).reads).length-1:=by omega
        have hsu:=JAw g.2 j (Je ⟨[(JW r:Int)],(0,0)⟩ ws k).reads
        have hb3:=hbj.2.2.1
        have hb4:=hbj.2.2.2
        refine JB.skipS (JB.blk (JB.reg ?_))
        have X:=(((X.a hl16).a h1n).a hlg).a hsu
        iterate 4 (refine JA.o1 JP ?_)
        refine JA.c1 (YH true rfl) JP JP ?_
        refine JA.nil ?_
        refine JB.opk1 19 ?_
        iterate 7 (refine JF.o1 JP ?_)
        refine JF.o1 Yh ?_
        refine JF.o1 ZR ?_
        iterate 3 (refine JF.o1 JP ?_)
        refine JF.o1 Yh ?_
        refine JF.o1 JP ?_
        refine JF.o1 V1 ?_
        iterate 2 (refine JF.o1 JP ?_)
        refine JF.nil (QO.finT JJ JJ JJ ?_)
        refine JR.nrm (JB.reg1 ?_)
        refine JA.o1 Yh ?_
        refine JA.o1 JP ?_
        refine JA.nil ?_
        refine JU.nxt ?_ ?_ ?_
        ·omega
        ·exact JN.kp [2,4,5,8,27,28,29,47,48] [2,4,5,8,23] V9
        ·trivial
       ·skip
        have hje:j=g.1:=by have:=of_decide_eq_false hb49;omega
        subst hje
        refine JB.exitS (JU.ext (JR.hit (JB.reg1 ?_)))
        iterate 2 (refine JA.o1 JP ?_)
        refine JA.nil (JR.nrm (JB.reg1 ?_))
        refine JA.o1 Yh ?_
        refine JA.o1 JP ?_
        refine JA.nil ?_
        refine JU.nxt ?_ ?_ ?_
        ·omega
        ·exact JN.kp [2,4,5,27,28,29] [2,4,5,23] V34
        ·trivial
     ·skip
      have e0:((((Je ⟨[(JW r:Int)],(0,0)⟩ ws k).last.1:Nat):Int)==0)=false:=by simpa using h0
      have e5:((Je ⟨[(JW r:Int)],(0,0)⟩ ws k).last.2 != g.2)=true:=by simpa using hnb.resolve_left h0
      refine JB.reg ?_
      have X:=(X.a e0).a e5
      iterate 4 (refine JA.o1 JP ?_)
      iterate 5 (refine JA.y1 JP ?_)
      refine JA.o1 JP ?_
      refine JA.c1 (YH true rfl) JP JP ?_
      refine JA.nil (JB.assocS (JB.reg ?_))
      iterate 3 (refine JA.o1 JP ?_)
      refine JA.nil (JB.blk ?_)
      refine JB.forA [2,4,5,8,27,28,29,47,48] [2,4,5,8,23] (g.1) (fun j=>[.slot 48 (.int j),.obj 4 (.cells [.d (.i (JW h:Nat)),.own 23 0 (Jq g.2 j (Je ⟨[(JW r:Int)],(0,0)⟩ ws k).reads).length (Jq g.2 j (Je ⟨[(JW r:Int)],(0,0)⟩ ws k).reads).length]),.obj 23 (.arr 3 1 ((Jq g.2 j (Je ⟨[(JW r:Int)],(0,0)⟩ ws k).reads).map Qy))]) (fun _=>True) (fun j=>by simp only [go_sem]<;>rfl) V33 ?_ (fun j hj Xj=>?_)
      ·trivial
      ·skip
       refine JB.reg ?_
       refine JA.o1 JP ?_
       refine JA.nil ?_
       refine JB.cndS JP (fun hb49=>?_) (fun hb49=>?_)
       ·skip
        have hj:j<g.1:=by have:=of_decide_eq_true hb49;omega
        have hRl:=Y4 g.2 j (Je ⟨[(JW r:Int)],(0,0)⟩ ws k).reads
        have hbj:=JAy hbk ⟨hgb.2.2.1,by omega⟩ j (by omega)
        have hp1:1≤(Jq g.2 j (Je ⟨[(JW r:Int)],(0,0)⟩ ws k).reads).length:=List.length_pos_iff.2 hbj.1
        have hlg:=JCH hbj.1
        have hl16:decide (((Jq g.2 j (Je ⟨[(JW r:Int)],(0,0)⟩ ws k).reads).length:Int)<16)=true:=decide_eq_true (by omega)
        have h1n:(((Jq g.2 j (Je ⟨[(JW r:Int)],(0,0)⟩ ws k).reads).length:Int)-1).toNat=(Jq g.2 j (Je ⟨[(JW r:Int)],(0,0)⟩ ws k).reads).length-1:=by omega
        have hsu:=JAw g.2 j (Je ⟨[(JW r:Int)],(0,0)⟩ ws k).reads
        have hb3:=hbj.2.2.1
        have hb4:=hbj.2.2.2
        refine JB.skipS (JB.blk (JB.reg ?_))
        have X:=(((X.a hl16).a h1n).a hlg).a hsu
        iterate 4 (refine JA.o1 JP ?_)
        refine JA.c1 (YH true rfl) JP JP ?_
        refine JA.nil ?_
        refine JB.opk1 19 ?_
        iterate 7 (refine JF.o1 JP ?_)
        refine JF.o1 Yh ?_
        refine JF.o1 ZR ?_
        iterate 3 (refine JF.o1 JP ?_)
        refine JF.o1 Yh ?_
        refine JF.o1 JP ?_
        refine JF.o1 V1 ?_
        iterate 2 (refine JF.o1 JP ?_)
        refine JF.nil (QO.finT JJ JJ JJ ?_)
        refine JR.nrm (JB.reg1 ?_)
        refine JA.o1 Yh ?_
        refine JA.o1 JP ?_
        refine JA.nil ?_
        refine JU.nxt ?_ ?_ ?_
        ·omega
        ·exact JN.kp [2,4,5,8,27,28,29,47,48] [2,4,5,8,23] V9
        ·trivial
       ·skip
        have hje:j=g.1:=by have:=of_decide_eq_false hb49;omega
        subst hje
        refine JB.exitS (JU.ext (JR.hit (JB.reg1 ?_)))
        iterate 2 (refine JA.o1 JP ?_)
        refine JA.nil (JR.nrm (JB.reg1 ?_))
        refine JA.o1 Yh ?_
        refine JA.o1 JP ?_
        refine JA.nil ?_
        refine JU.nxt ?_ ?_ ?_
        ·omega
        ·exact JN.kp [2,4,5,27,28,29] [2,4,5,23] V34
        ·trivial
    ·skip
     have hkq2:k=q:=by omega
     subst hkq2
     have hwk:w0.length≤1000000000:=Nat.le_trans (hwl w0 (List.mem_cons_of_mem _ (List.mem_cons_of_mem _ (List.mem_of_getElem? hw0)))) hl
     have hbk:=hbs k (by omega)
     by_cases hgn:JAo w0=none
     ·skip
      skip
      refine JB.reg ?_
      have X:=X.a hw0
      refine JA.o1 ZR ?_
      iterate 2 (refine JA.o1 JP ?_)
      refine JA.nil ?_
      refine JB.pan (pv:=J0) 1 rfl ?_
      refine JA.o1 JP ?_
      exact JA.panc (JS8 hwk hgn) JY JP Qc rfl
     ·skip
      obtain ⟨g0,hg0⟩:=Option.ne_none_iff_exists'.1 hgn
      refine JB.reg ?_
      have X:=X.a hw0
      refine JA.o1 ZR ?_
      iterate 2 (refine JA.o1 JP ?_)
      refine JA.nil (JB.reg ?_)
      refine JA.o1 JP ?_
      refine JA.c1 (JGq hwk hg0) JP JP ?_
      iterate 2 (refine JA.o1 JP ?_)
      refine JA.nil ?_
      by_cases h0:(Je ⟨[(JW r:Int)],(0,0)⟩ ws k).last.1=0
      ·skip
       have hn3:16<(Je ⟨[(JW r:Int)],(0,0)⟩ ws k).reads.length+g0.1:=by
        rcases Nat.lt_or_ge 16 ((Je ⟨[(JW r:Int)],(0,0)⟩ ws k).reads.length+g0.1) with h|h
        ·exact h
        ·exfalso
         unfold ZP at hbad
         rw [hg0] at hbad
         simp only [Option.bind_some] at hbad
         rw [if_pos ⟨.inl h0,h⟩] at hbad
         cases hbad
       have e0:((((Je ⟨[(JW r:Int)],(0,0)⟩ ws k).last.1:Nat):Int)==0)=true:=by rw [h0];rfl
       refine JB.reg ?_
       have X:=X.a e0
       iterate 4 (refine JA.o1 JP ?_)
       iterate 5 (refine JA.s ?_)
       refine JA.o1 JP ?_
       refine JA.c1 (YH true rfl) JP JP ?_
       refine JA.nil (JB.assocS (JB.reg ?_))
       iterate 3 (refine JA.o1 JP ?_)
       refine JA.nil (JB.blk ?_)
       refine JB.forA [2,4,5,8,27,28,29,47,48] [2,4,5,8,23] ((16-(Je ⟨[(JW r:Int)],(0,0)⟩ ws k).reads.length)) (fun j=>[.slot 48 (.int j),.obj 4 (.cells [.d (.i (JW h:Nat)),.own 23 0 (Jq g0.2 j (Je ⟨[(JW r:Int)],(0,0)⟩ ws k).reads).length (Jq g0.2 j (Je ⟨[(JW r:Int)],(0,0)⟩ ws k).reads).length]),.obj 23 (.arr 3 1 ((Jq g0.2 j (Je ⟨[(JW r:Int)],(0,0)⟩ ws k).reads).map Qy))]) (fun _=>True) (fun j=>by simp only [go_sem]<;>rfl) V33 ?_ (fun j hj Xj=>?_)
       ·trivial
       ·skip
        refine JB.reg ?_
        refine JA.o1 JP ?_
        refine JA.nil ?_
        refine JB.cndS JP (fun hb49=>?_) (fun hb49=>?_)
        ·skip
         have hgb0:=JCm hg0
         have hal0:=Y4 g0.2 j (Je ⟨[(JW r:Int)],(0,0)⟩ ws k).reads
         refine JB.skipS (JB.blk ?_)
         by_cases hju:j<16-(Je ⟨[(JW r:Int)],(0,0)⟩ ws k).reads.length
         ·skip
          have hRl:=Y4 g0.2 j (Je ⟨[(JW r:Int)],(0,0)⟩ ws k).reads
          have hbj:=JAy hbk ⟨hgb0.2.2.1,by omega⟩ j (by omega)
          have hp1:1≤(Jq g0.2 j (Je ⟨[(JW r:Int)],(0,0)⟩ ws k).reads).length:=List.length_pos_iff.2 hbj.1
          have hlg:=JCH hbj.1
          have hl16:decide (((Jq g0.2 j (Je ⟨[(JW r:Int)],(0,0)⟩ ws k).reads).length:Int)<16)=true:=decide_eq_true (by omega)
          have h1n:(((Jq g0.2 j (Je ⟨[(JW r:Int)],(0,0)⟩ ws k).reads).length:Int)-1).toNat=(Jq g0.2 j (Je ⟨[(JW r:Int)],(0,0)⟩ ws k).reads).length-1:=by omega
          have hsu:=JAw g0.2 j (Je ⟨[(JW r:Int)],(0,0)⟩ ws k).reads
          have hb3:=hbj.2.2.1
          have hb4:=hbj.2.2.2
          refine JB.reg ?_
          have X:=(((X.a hl16).a h1n).a hlg).a hsu
          iterate 4 (refine JA.o1 JP ?_)
          refine JA.c1 (YH true rfl) JP JP ?_
          refine JA.nil ?_
          refine JB.opk1 19 ?_
          iterate 7 (refine JF.o1 JP ?_)
          refine JF.o1 Yh ?_
          refine JF.o1 ZR ?_
          iterate 3 (refine JF.o1 JP ?_)
          refine JF.o1 Yh ?_
          refine JF.o1 JP ?_
          refine JF.o1 V1 ?_
          iterate 2 (refine JF.o1 JP ?_)
          refine JF.nil (QO.finT JJ JJ JJ ?_)
          refine JR.nrm (JB.reg1 ?_)
          refine JA.o1 Yh ?_
          refine JA.o1 JP ?_
          refine JA.nil ?_
          refine JU.nxt ?_ ?_ ?_
          ·omega
          ·exact JN.kp [2,4,5,8,27,28,29,47,48] [2,4,5,8,23] V9
          ·trivial
         ·skip
          have hl16:decide (((Jq g0.2 j (Je ⟨[(JW r:Int)],(0,0)⟩ ws k).reads).length:Int)<16)=false:=decide_eq_false (by have:=hbk.2.1;omega)
          refine JB.pan (pv:=J0) 4 rfl ?_
          have X:=X.a hl16
          iterate 4 (refine JA.o1 JP ?_)
          exact JA.panc (Z4 false rfl) JY JP Qc rfl
        ·skip
         exact absurd (of_decide_eq_false hb49) (by have:=hbk.2.1;omega)
      ·skip
       have e0:((((Je ⟨[(JW r:Int)],(0,0)⟩ ws k).last.1:Nat):Int)==0)=false:=by simpa using h0
       by_cases h5:(Je ⟨[(JW r:Int)],(0,0)⟩ ws k).last.2=g0.2
       ·skip
        have e5:((Je ⟨[(JW r:Int)],(0,0)⟩ ws k).last.2 != g0.2)=false:=by simpa using h5
        refine JB.pan (pv:=J0) 10 rfl ?_
        have X:=(X.a e0).a e5
        iterate 4 (refine JA.o1 JP ?_)
        iterate 5 (refine JA.y1 JP ?_)
        refine JA.o1 JP ?_
        exact JA.panc (Z4 false rfl) JY JP Qc rfl
       ·skip
        have hn3:16<(Je ⟨[(JW r:Int)],(0,0)⟩ ws k).reads.length+g0.1:=by
         rcases Nat.lt_or_ge 16 ((Je ⟨[(JW r:Int)],(0,0)⟩ ws k).reads.length+g0.1) with h|h
         ·exact h
         ·exfalso
          unfold ZP at hbad
          rw [hg0] at hbad
          simp only [Option.bind_some] at hbad
          rw [if_pos ⟨.inr h5,h⟩] at hbad
          cases hbad
        have e5:((Je ⟨[(JW r:Int)],(0,0)⟩ ws k).last.2 != g0.2)=true:=by simpa using h5
        refine JB.reg ?_
        have X:=(X.a e0).a e5
        iterate 4 (refine JA.o1 JP ?_)
        iterate 5 (refine JA.y1 JP ?_)
        refine JA.o1 JP ?_
        refine JA.c1 (YH true rfl) JP JP ?_
        refine JA.nil (JB.assocS (JB.reg ?_))
        iterate 3 (refine JA.o1 JP ?_)
        refine JA.nil (JB.blk ?_)
        refine JB.forA [2,4,5,8,27,28,29,47,48] [2,4,5,8,23] ((16-(Je ⟨[(JW r:Int)],(0,0)⟩ ws k).reads.length)) (fun j=>[.slot 48 (.int j),.obj 4 (.cells [.d (.i (JW h:Nat)),.own 23 0 (Jq g0.2 j (Je ⟨[(JW r:Int)],(0,0)⟩ ws k).reads).length (Jq g0.2 j (Je ⟨[(JW r:Int)],(0,0)⟩ ws k).reads).length]),.obj 23 (.arr 3 1 ((Jq g0.2 j (Je ⟨[(JW r:Int)],(0,0)⟩ ws k).reads).map Qy))]) (fun _=>True) (fun j=>by simp only [go_sem]<;>rfl) V33 ?_ (fun j hj Xj=>?_)
        ·trivial
        ·skip
         refine JB.reg ?_
         refine JA.o1 JP ?_
         refine JA.nil ?_
         refine JB.cndS JP (fun hb49=>?_) (fun hb49=>?_)
         ·skip
          have hgb0:=JCm hg0
          have hal0:=Y4 g0.2 j (Je ⟨[(JW r:Int)],(0,0)⟩ ws k).reads
          refine JB.skipS (JB.blk ?_)
          by_cases hju:j<16-(Je ⟨[(JW r:Int)],(0,0)⟩ ws k).reads.length
          ·skip
           have hRl:=Y4 g0.2 j (Je ⟨[(JW r:Int)],(0,0)⟩ ws k).reads
           have hbj:=JAy hbk ⟨hgb0.2.2.1,by omega⟩ j (by omega)
           have hp1:1≤(Jq g0.2 j (Je ⟨[(JW r:Int)],(0,0)⟩ ws k).reads).length:=List.length_pos_iff.2 hbj.1
           have hlg:=JCH hbj.1
           have hl16:decide (((Jq g0.2 j (Je ⟨[(JW r:Int)],(0,0)⟩ ws k).reads).length:Int)<16)=true:=decide_eq_true (by omega)
           have h1n:(((Jq g0.2 j (Je ⟨[(JW r:Int)],(0,0)⟩ ws k).reads).length:Int)-1).toNat=(Jq g0.2 j (Je ⟨[(JW r:Int)],(0,0)⟩ ws k).reads).length-1:=by omega
           have hsu:=JAw g0.2 j (Je ⟨[(JW r:Int)],(0,0)⟩ ws k).reads
           have hb3:=hbj.2.2.1
           have hb4:=hbj.2.2.2
           refine JB.reg ?_
           have X:=(((X.a hl16).a h1n).a hlg).a hsu
           iterate 4 (refine JA.o1 JP ?_)
           refine JA.c1 (YH true rfl) JP JP ?_
           refine JA.nil ?_
           refine JB.opk1 19 ?_
           iterate 7 (refine JF.o1 JP ?_)
           refine JF.o1 Yh ?_
           refine JF.o1 ZR ?_
           iterate 3 (refine JF.o1 JP ?_)
           refine JF.o1 Yh ?_
           refine JF.o1 JP ?_
           refine JF.o1 V1 ?_
           iterate 2 (refine JF.o1 JP ?_)
           refine JF.nil (QO.finT JJ JJ JJ ?_)
           refine JR.nrm (JB.reg1 ?_)
           refine JA.o1 Yh ?_
           refine JA.o1 JP ?_
           refine JA.nil ?_
           refine JU.nxt ?_ ?_ ?_
           ·omega
           ·exact JN.kp [2,4,5,8,27,28,29,47,48] [2,4,5,8,23] V9
           ·trivial
          ·skip
           have hl16:decide (((Jq g0.2 j (Je ⟨[(JW r:Int)],(0,0)⟩ ws k).reads).length:Int)<16)=false:=decide_eq_false (by have:=hbk.2.1;omega)
           refine JB.pan (pv:=J0) 4 rfl ?_
           have X:=X.a hl16
           iterate 4 (refine JA.o1 JP ?_)
           exact JA.panc (Z4 false rfl) JY JP Qc rfl
         ·skip
          exact absurd (of_decide_eq_false hb49) (by have:=hbk.2.1;omega)
   ·skip
    exact absurd hb30 ZS
 ·exact absurd hb18 (by simp)
end Go.Mw
namespace Go.Mw
open Go.Proofs Go.Bk
theorem JOW:∀(ws:List Bs) (s:St),ws.foldlM ZP s=none→∃q w0,ws[q]? = some w0∧(∀k w,k<q→ws[k]? = some w→ZP (Je s ws k) w=some (Je s ws (k+1)))∧ZP (Je s ws q) w0=none
 |[],s,h=>by cases h
 |w::ws,s,h=>by
  rw [List.foldlM_cons] at h
  cases h1:ZP s w with
  |none=>exact ⟨0,w,rfl,fun k _ hk=>absurd hk (by omega),by rw [JBw];exact h1⟩
  |some t=>
   rw [h1] at h
   obtain ⟨q,w0,g1,g2,g3⟩:=JOW ws t h
   refine ⟨q+1,w0,by simpa using g1,fun k v hk hv=>?_,by rw [JC3 h1];exact g3⟩
   cases k with
   |zero=>
    have:w=v:=by simpa using hv
    subst this
    rw [JBw,JC3 h1,JBw];exact h1
   |succ k=>rw [JC3 h1,JC3 h1];exact g2 k v (by omega) (by simpa using hv)
theorem JIh {line:Bs}{pg:Pg}(hl:line.length≤1000000000)(h:Yp line=some pg):Jb Tryz.prog 54 [.str line] (pgV pg) []:=by
 unfold Yp at h
 split at h
 ·cases h
 ·next x hc=>
  split at h
  ·next hf=>cases h;exact JQb line x hc hl hf
  ·cases h
 ·next x r ws hc=>
  split at h
  ·next hf=>
   obtain ⟨sf,h1,h2⟩:=Option.map_eq_some_iff.1 h
   cases h2
   exact JQc line x r ws hc hl hf.1 hf.2 sf h1
  ·cases h
theorem JTB {line:Bs}(hl:line.length≤1000000000)(h:Yp line=none):Qr Tryz.prog J0 54 [.str line] []:=by
 unfold Yp at h
 have hcl:=JA0 32 line
 split at h
 ·next hc=>exact absurd hc (JCg 32 line)
 ·next x hc=>
  have hx:=hcl x (by rw [hc];simp)
  cases hf:YD x with
  |true=>rw [hf,if_pos rfl] at h;cases h
  |false=>exact JM5 line x [] hc hl hf (by omega)
 ·next x r ws hc=>
  have hx:=hcl x (by rw [hc];simp)
  have hr:=hcl r (by rw [hc];simp)
  cases hf:YD x with
  |false=>exact JM5 line x (r::ws) hc hl hf (by omega)
  |true=>
   cases hg:YD r with
   |false=>exact JTC line x r ws hc hl hf hg (by omega)
   |true=>
    rw [hf,hg,if_pos ⟨rfl,rfl⟩,Option.map_eq_none_iff] at h
    obtain ⟨q,w0,g1,g2,g3⟩:=JOW ws _ h
    exact JTD line x r ws hc hl hf hg q w0 g1 g2 g3
end Go.Mw
namespace Go.Mw
open Go.Proofs
open Go.Bk
attribute [local go_sem] decide_true beq_self_eq_true bne_self_eq_false
theorem JQY (l:List Pg)(most:Nat)(h:most<l.length)(hl:l.length≤1000000000000):Jb Tryz.prog 99 [.leaf (.d (Yt l)),.int most,.leaf (.d (.fn 100 [])),.leaf (.d (.fn 101 []))] (.int 3) []:=by
 refine Js Jf Tryz.func99 rfl (by simp only [List.length_cons,List.length_nil,Tryz.ntmps99];omega) JJ rfl ?_
 refine JB.reg ?_
 iterate 2 (refine JA.o1 JEu ?_)
 refine JA.nil (JB.blk (JB.reg ?_))
 iterate 5 (refine JA.o1 JEu ?_)
 refine JA.nil ?_
 refine JB.cnd JEu (fun hb10=>?_) (fun hb10=>?_)
 ·skip
  refine JB.reg ?_
  refine JA.o1 JEu ?_
  refine JA.nil (JR.ret ?_)
  exact Ends.fin [] (rs:=[.tmp 8]) rfl JEu (by simp only [go_sem,gt_iff_lt]<;>first|rfl|exact QP)
 ·skip
  exact absurd (of_decide_eq_false hb10) (by omega)
theorem JQZ (l:List Pg)(h:32<l.length)(hl:l.length≤1000000000000):Jb Tryz.prog 45 [.leaf (.d (Yt l))] (.int 3) []:=by
 refine Js Jf Tryz.func45 rfl (by simp only [List.length_cons,List.length_nil,Tryz.ntmps45];omega) JJ rfl ?_
 refine JB.reg ?_
 refine JA.o ?_
 refine JA.nil (JB.reg ?_)
 refine JA.o ?_
 refine JA.c1 (JQY l 32 h hl) JD JD ?_
 refine JA.o ?_
 refine JA.nil ?_
 exact Ends.fin [] (rs:=[.tmp 2]) rfl JD ZB
end Go.Mw
namespace Go.Mw
open Go.Proofs
open Go.Bk
attribute [local go_sem] decide_true beq_self_eq_true bne_self_eq_false
theorem JIi (l:List Pg)(hl:l.length≤1000000000000)(hz:∀x∈l,x.reads.length≤1000):Jb Tryz.prog 45 [.leaf (.d (Yt l))] (.int (Yl l)) []:=by
 by_cases h:32<l.length
 ·have e:Yl l=3:=JFE _ _ h
  rw [e];exact JQZ l h hl
 ·exact JLa l (by omega) hz
theorem JHX {s:Bs}{ls:List Bs}(h:Zv s=some ls):ls.length≤s.length+1∧∀w∈ls,w.length≤s.length:=by
 unfold Zv at h
 split at h
 ·cases h;simp
 ·split at h
  ·cases h
   have h1:=JCh 10 s.dropLast
   rw [List.length_dropLast] at h1
   refine ⟨by omega,fun w hw=>?_⟩
   have:=JA0 10 s.dropLast w hw
   rw [List.length_dropLast] at this;omega
  ·cases h
theorem JQf (text:Bs)(ls:List Bs)(l:List Pg)(hl:text.length≤1000000000)(h:Zv text=some ls)(hm:ls.mapM Yp=some l)(hpe:Yl l=0):Qq Tryz.prog 52 [.leaf (.d (.pt [.raw (.string (bs text))]))] [] (.ret (.leaf (.d (Yt l))) []):=by
 obtain ⟨hb1,hb2⟩:=JHX h
 obtain ⟨m1,m2⟩:=mapM_at ls l hm
 have hz:∀x∈l,x.reads.length≤1000:=fun x hx=>by
  obtain ⟨i,hi⟩:=List.mem_iff_getElem?.1 hx
  obtain ⟨line,hline⟩:∃line,ls[i]? = some line:=⟨_,List.getElem?_eq_getElem (by have:=(List.getElem?_eq_some_iff.1 hi).1;omega)⟩
  obtain ⟨pg,e1,e2⟩:=m2 i line hline
  rw [hi] at e2;cases e2
  have:=JJh e1;omega
 have h00:((0:Int)==0)=true:=rfl
 refine Js Jf Tryz.func52 rfl JEs JJ rfl ?_
 refine JB.reg ?_
 refine JA.o ?_
 refine JA.nil (JB.assocS (JB.reg ?_))
 refine JA.o ?_
 refine JA.c1 (JGs hl h) JD JD ?_
 refine JA.o ?_
 refine JA.nilo 1 1000 31 2 JD JD (by omega) (by omega) JD ?_
 refine JA.o ?_
 refine JA.nil (JB.blk ?_)
 refine JB.forA [1,5,6,7] [1000] (ls.length) (fun k=>[.slot 7 (.int k),.slot 1 (.leaf (.own 1000 0 k k)),.obj 1000 (.arr 31 2 ((l.take k).map Yx))]) (fun _=>True) (fun k=>by simp only [go_sem]<;>rfl) V94 ?_ (fun k hk hX=>?_)
 ·trivial
 ·skip
  refine JB.reg ?_
  refine JA.o ?_
  refine JA.nil ?_
  refine JB.cndS JD (fun hb8=>?_) (fun hb8=>?_)
  ·skip
   have hlt:k<ls.length:=by simpa using hb8
   obtain ⟨line,hx⟩:∃line,ls[k]? = some line:=⟨_,List.getElem?_eq_getElem hlt⟩
   obtain ⟨pg,hpg,hpk⟩:=m2 k line hx
   have hwl:line.length≤1000000000:=Nat.le_trans (hb2 line (List.mem_of_getElem? hx)) hl
   have htl:(l.take k).length=k:=by rw [List.length_take];omega
   have hts:=Yf hpk
   refine JB.skipS (JB.blk (JB.reg ?_))
   have X:=(Fx.mk hx).a htl
   refine JA.o1 QE ?_
   iterate 2 (refine JA.o1 JC ?_)
   refine JA.nil (JB.reg1 ?_)
   iterate 2 (refine JA.o1 JC ?_)
   refine JA.c1 (JIh hwl hpg) JC JC ?_
   refine JA.o1 JC ?_
   refine JA.o1 V4 ?_
   refine JA.o1 JC ?_
   refine JA.nil (JR.nrm (JB.reg1 ?_))
   refine JA.o1 Jv ?_
   refine JA.o1 JC ?_
   refine JA.nil ?_
   refine JU.nxt ?_ ?_ ?_
   ·omega
   ·exact JN.kp [1,5,6,7] [1000] V18
   ·trivial
  ·skip
   have hke:ls.length≤k:=by simpa using hb8
   have hke2:k=l.length:=by omega
   subst hke2
   have htk:l.take l.length=l:=List.take_length
   have hta:List.take l.length (List.map Yx l)=List.map Yx l:=List.take_of_length_le (by simp)
   refine JB.exitS (JU.ext (JR.hit (JB.reg ?_)))
   have X:=(Fx.mk htk).a hta
   refine JA.frz 1000 JC ?_
   have X:=(X.a hpe).a h00
   refine JA.o1 JC ?_
   refine JA.c1 (JIi l (by omega) hz) JC JC ?_
   refine JA.o1 JC ?_
   refine JA.c1 (YH true rfl) JC JC ?_
   refine JA.nil (JB.reg ?_)
   iterate 2 (refine JA.o1 JC ?_)
   refine JA.nil ?_
   exact Ends.fin [] (rs:=[.tmp 1]) rfl JC Qs
theorem JTH (text:Bs)(hl:text.length≤1000000000)(h:Zv text=none):Qr Tryz.prog J0 52 [.leaf (.d (.pt [.raw (.string (bs text))]))] []:=by
 refine Yq Jf Tryz.func52 rfl JEs JJ rfl ?_
 refine JB.reg ?_
 refine JA.o ?_
 refine JA.nil (JB.assocS ?_)
 refine JB.pan (pv:=J0) 1 rfl ?_
 refine JA.o ?_
 exact JA.panc (JS9 hl h) JY JD Qc rfl
theorem JTJ (text:Bs)(ls:List Bs)(l:List Pg)(hl:text.length≤1000000000)(h:Zv text=some ls)(hm:ls.mapM Yp=some l)(hpe:Yl l≠0):Qr Tryz.prog J0 52 [.leaf (.d (.pt [.raw (.string (bs text))]))] []:=by
 obtain ⟨hb1,hb2⟩:=JHX h
 obtain ⟨m1,m2⟩:=mapM_at ls l hm
 have hz:∀x∈l,x.reads.length≤1000:=fun x hx=>by
  obtain ⟨i,hi⟩:=List.mem_iff_getElem?.1 hx
  obtain ⟨line,hline⟩:∃line,ls[i]? = some line:=⟨_,List.getElem?_eq_getElem (by have:=(List.getElem?_eq_some_iff.1 hi).1;omega)⟩
  obtain ⟨pg,e1,e2⟩:=m2 i line hline
  rw [hi] at e2;cases e2
  have:=JJh e1;omega
 have h00:(Yl l==0)=false:=by simpa using hpe
 refine Yq Jf Tryz.func52 rfl JEs JJ rfl ?_
 refine JB.reg ?_
 refine JA.o ?_
 refine JA.nil (JB.assocS (JB.reg ?_))
 refine JA.o ?_
 refine JA.c1 (JGs hl h) JD JD ?_
 refine JA.o ?_
 refine JA.nilo 1 1000 31 2 JD JD (by omega) (by omega) JD ?_
 refine JA.o ?_
 refine JA.nil (JB.blk ?_)
 refine JB.forA [1,5,6,7] [1000] (ls.length) (fun k=>[.slot 7 (.int k),.slot 1 (.leaf (.own 1000 0 k k)),.obj 1000 (.arr 31 2 ((l.take k).map Yx))]) (fun _=>True) (fun k=>by simp only [go_sem]<;>rfl) V94 ?_ (fun k hk hX=>?_)
 ·trivial
 ·skip
  refine JB.reg ?_
  refine JA.o ?_
  refine JA.nil ?_
  refine JB.cndS JD (fun hb8=>?_) (fun hb8=>?_)
  ·skip
   have hlt:k<ls.length:=by simpa using hb8
   obtain ⟨line,hx⟩:∃line,ls[k]? = some line:=⟨_,List.getElem?_eq_getElem hlt⟩
   obtain ⟨pg,hpg,hpk⟩:=m2 k line hx
   have hwl:line.length≤1000000000:=Nat.le_trans (hb2 line (List.mem_of_getElem? hx)) hl
   have htl:(l.take k).length=k:=by rw [List.length_take];omega
   have hts:=Yf hpk
   refine JB.skipS (JB.blk (JB.reg ?_))
   have X:=(Fx.mk hx).a htl
   refine JA.o1 QE ?_
   iterate 2 (refine JA.o1 JC ?_)
   refine JA.nil (JB.reg1 ?_)
   iterate 2 (refine JA.o1 JC ?_)
   refine JA.c1 (JIh hwl hpg) JC JC ?_
   refine JA.o1 JC ?_
   refine JA.o1 V4 ?_
   refine JA.o1 JC ?_
   refine JA.nil (JR.nrm (JB.reg1 ?_))
   refine JA.o1 Jv ?_
   refine JA.o1 JC ?_
   refine JA.nil ?_
   refine JU.nxt ?_ ?_ ?_
   ·omega
   ·exact JN.kp [1,5,6,7] [1000] V18
   ·trivial
  ·skip
   have hke:ls.length≤k:=by simpa using hb8
   have hke2:k=l.length:=by omega
   subst hke2
   have htk:l.take l.length=l:=List.take_length
   have hta:List.take l.length (List.map Yx l)=List.map Yx l:=List.take_of_length_le (by simp)
   refine JB.exitS (JU.ext (JR.hit ?_))
   refine JB.pan (pv:=J0) 3 rfl ?_
   have X:=(Fx.mk htk).a hta
   refine JA.frz 1000 JC ?_
   have X:=X.a h00
   refine JA.o1 JC ?_
   refine JA.c1 (JIi l (by omega) hz) JC JC ?_
   refine JA.o1 JC ?_
   exact JA.panc (Z4 false rfl) JY JC Qc rfl
theorem JTI (text:Bs)(ls:List Bs)(l:List Pg)(hl:text.length≤1000000000)(h:Zv text=some ls)(q:Nat)(line0:Bs)(hq:ls[q]? = some line0)(hp0:Yp line0=none)(hm:(ls.take q).mapM Yp=some l):Qr Tryz.prog J0 52 [.leaf (.d (.pt [.raw (.string (bs text))]))] []:=by
 obtain ⟨hb1,hb2⟩:=JHX h
 obtain ⟨m1,m2⟩:=mapM_at _ l hm
 have hql:=(List.getElem?_eq_some_iff.1 hq).1
 rw [List.length_take,Nat.min_eq_left (by omega)] at m1
 refine Yq Jf Tryz.func52 rfl JEs JJ rfl ?_
 refine JB.reg ?_
 refine JA.o ?_
 refine JA.nil (JB.assocS (JB.reg ?_))
 refine JA.o ?_
 refine JA.c1 (JGs hl h) JD JD ?_
 refine JA.o ?_
 refine JA.nilo 1 1000 31 2 JD JD (by omega) (by omega) JD ?_
 refine JA.o ?_
 refine JA.nil (JB.blk ?_)
 refine JB.forA [1,5,6,7] [1000] (q) (fun k=>[.slot 7 (.int k),.slot 1 (.leaf (.own 1000 0 k k)),.obj 1000 (.arr 31 2 ((l.take k).map Yx))]) (fun _=>True) (fun k=>by simp only [go_sem]<;>rfl) V94 ?_ (fun k hk hX=>?_)
 ·trivial
 ·skip
  refine JB.reg ?_
  refine JA.o ?_
  refine JA.nil ?_
  refine JB.cndS JD (fun hb8=>?_) (fun hb8=>?_)
  ·skip
   refine JB.skipS (JB.blk ?_)
   by_cases hkq:k<q
   ·skip
    obtain ⟨line,hx⟩:∃line,ls[k]? = some line:=⟨_,List.getElem?_eq_getElem (by omega)⟩
    obtain ⟨pg,hpg,hpk⟩:=m2 k line (by rw [List.getElem?_take,if_pos hkq];exact hx)
    have hwl:line.length≤1000000000:=Nat.le_trans (hb2 line (List.mem_of_getElem? hx)) hl
    have htl:(l.take k).length=k:=by rw [List.length_take];omega
    have hts:=Yf hpk
    refine JB.reg ?_
    have X:=(Fx.mk hx).a htl
    refine JA.o1 QE ?_
    iterate 2 (refine JA.o1 JC ?_)
    refine JA.nil (JB.reg1 ?_)
    iterate 2 (refine JA.o1 JC ?_)
    refine JA.c1 (JIh hwl hpg) JC JC ?_
    refine JA.o1 JC ?_
    refine JA.o1 V4 ?_
    refine JA.o1 JC ?_
    refine JA.nil (JR.nrm (JB.reg1 ?_))
    refine JA.o1 Jv ?_
    refine JA.o1 JC ?_
    refine JA.nil ?_
    refine JU.nxt ?_ ?_ ?_
    ·omega
    ·exact JN.kp [1,5,6,7] [1000] V18
    ·trivial
   ·skip
    have hke:k=q:=by omega
    subst hke
    have hwl:line0.length≤1000000000:=Nat.le_trans (hb2 line0 (List.mem_of_getElem? hq)) hl
    refine JB.reg ?_
    have X:=Fx.mk hq
    refine JA.o1 QE ?_
    iterate 2 (refine JA.o1 JC ?_)
    refine JA.nil ?_
    refine JB.pan1 (pv:=J0) 2 rfl ?_
    iterate 2 (refine JA.o1 JC ?_)
    exact JA.panc (JTB hwl hp0) JY JC Qc rfl
  ·skip
   exact absurd hb8 ZS
end Go.Mw
namespace Go.Mw
open Go.Proofs Go.Bk
theorem JNE {text:Bs}{l:List Pg}(h:ZM text=some l):∃ls,Zv text=some ls∧ls.mapM Yp=some l∧Yl l=0:=by
 unfold ZM JDk at h
 obtain ⟨l',h1,h2⟩:=Option.bind_eq_some_iff.1 h
 obtain ⟨ls,h3,h4⟩:=Option.bind_eq_some_iff.1 h1
 split at h2
 ·next hc=>cases h2;exact ⟨ls,h3,h4,hc⟩
 ·cases h2
theorem JQl {text:Bs}{l:List Pg}(hl:text.length≤1000000000)(h:ZM text=some l):Qq Tryz.prog 52 [.leaf (.d (.pt [.raw (.string (bs text))]))] [] (.ret (.leaf (.d (Yt l))) []):=by
 obtain ⟨ls,h1,h2,h3⟩:=JNE h
 exact JQf text ls l hl h1 h2 h3
theorem JM7 {text:Bs}(hl:text.length≤1000000000)(h:ZM text=none):Qr Tryz.prog J0 52 [.leaf (.d (.pt [.raw (.string (bs text))]))] []:=by
 cases h1:Zv text with
 |none=>exact JTH text hl h1
 |some ls=>
  cases h2:ls.mapM Yp with
  |none=>
   obtain ⟨q,line,l,g1,g2,g3⟩:=JMo ls h2
   exact JTI text ls l hl h1 q line g1 g2 g3
  |some l=>
   by_cases h3:Yl l=0
   ·unfold ZM JDk at h
    rw [h1] at h
    simp only [Option.bind_some] at h
    rw [h2] at h
    simp only [Option.bind_some] at h
    rw [if_pos h3] at h;cases h
   ·exact JTJ text ls l hl h1 h2 h3
end Go.Mw
namespace Go.Mw
open Go.Proofs Go.RowKit
theorem JOd (a b v:Value):#[a,b]++(((Array.replicate 16 undef).setIfInBounds 3 v).setIfInBounds 0 v)=#[a,b,v,undef,undef,v,undef,undef,undef,undef,undef,undef,undef,undef,undef,undef,undef,undef]:=by kernel_rfl
theorem JSA (p q:Addr)(w:World):CallsD Tryz.prog 105 #[.pointer (some p),.pointer (some q)] .returning w fun e u' w'=>e=.returned (.tuple #[])∧u'=.returning∧w'=w:=by
 refine callsD_of_wpS Tryz.func105 rfl fun c₀ cs hu=>?_
 apply wpS_seq
 apply wpS_region
 simp [wpOpsS,go_sem,recoverD,hu,Tryz.ntmps105,Exit.thenS]
 rw [JOd]
 refine wpS_of_wp ?_
 have hnil:∀w:World,(binOp BinOp.neq 20 .nilIface .nilIface).run Tryz.prog w=.ok (.bool false) w:=fun _=>by kernel_rfl
 have heg:∀w:World,(eqGuard BinOp.neq 20 (Operand.tmp 6) (Operand.const .nilIface) .nilIface .nilIface).run Tryz.prog w=.ok () w:=fun _=>by kernel_rfl
 go_wp2
 cases c₀
 simp_all [bodyPostS,results,Tryz.results105,Exit.thenS]
theorem JVt (p q:Nat)(w:World){cp cq:Value}{tp tq:TypeId}(hp:w.heap[p]? = some (.cells #[cp] tp (0,0)))(hq:w.heap[q]? = some (.cells #[cq] tq (0,0)))(hpq:p≠q) :
  CallsD Tryz.prog 105 #[.pointer (some ⟨p,0,none⟩),.pointer (some ⟨q,0,none⟩)] (.panicking [{ v:=J0,recovered:=false }]) w fun e u' w'=>e=.returned (.tuple #[])∧u'=.panicking [{ v:=J0,recovered:=true }] ∧
   w'=(((w.setCell ⟨p,0,none⟩ (.slice none 0 0)).setCell ⟨q,0,none⟩ (.int .i64 8)).alloc (.cells #[.int .i64 8] 172)).drew:=by
 have mixed:=JJV
 refine callsD_of_wpS Tryz.func105 rfl fun c₀ cs hu=>?_
 apply wpS_seq
 apply wpS_region
 simp [wpOpsS,go_sem,recoverD,hu,Tryz.ntmps105,Exit.thenS]
 rw [JOd]
 refine wpS_of_wp ?_
 have hnil:∀w:World,(binOp BinOp.neq 20 J0 .nilIface).run Tryz.prog w=.ok (.bool true) w:=fun _=>by kernel_rfl
 have hta:∀w:World,(Instr.typeAssert J0 20 172 true).run Tryz.prog w=.ok (.tuple #[.agg #[.int .i64 8],.bool true]) w:=fun _=>by kernel_rfl
 have heg:∀w:World,(eqGuard BinOp.neq 20 (Operand.tmp 6) (Operand.const .nilIface) J0 .nilIface).run Tryz.prog w=.ok () w:=fun _=>by kernel_rfl
 generalize hv:J0=v at hnil hta heg ⊢
 have hlp:=(Array.getElem?_eq_some_iff.1 hp).1
 have hlq:=(Array.getElem?_eq_some_iff.1 hq).1
 have hpa:∀o,(w.alloc o).drew.heap[p]? = some (.cells #[cp] tp (0,0)):=fun o=>(Below.heap_alloc w o p hlp).trans hp
 have hqa:∀o,(w.alloc o).drew.heap[q]? = some (.cells #[cq] tq (0,0)):=fun o=>(Below.heap_alloc w o q hlq).trans hq
 have hna:∀o,(w.alloc o).drew.heap[w.heap.size]? = some o:=fun o=>heap_alloc_new w o
 have cpa:∀o,(w.alloc o).drew.cell? ⟨p,0,none⟩=some cp:=fun o=>by rw [Lib.cell_of_heap (hpa o)];rfl
 have cqa:∀o,(w.alloc o).drew.cell? ⟨q,0,none⟩=some cq:=fun o=>by rw [Lib.cell_of_heap (hqa o)];rfl
 have cna:(w.alloc (.cells #[.int .i64 8] 172)).drew.cell? ⟨w.heap.size,0,none⟩=some (.int .i64 8):=by rw [Lib.cell_of_heap (hna _)];rfl
 have fpa:∀o,(w.alloc o).drew.frozen? ⟨p,0,none⟩=false:=fun o=>Lib.frozen_of_heap (hpa o) _
 have fqa:∀o,(w.alloc o).drew.frozen? ⟨q,0,none⟩=false:=fun o=>Lib.frozen_of_heap (hqa o) _
 have cp0:w.cell? ⟨p,0,none⟩=some cp:=by rw [Lib.cell_of_heap hp];rfl
 have cq0:w.cell? ⟨q,0,none⟩=some cq:=by rw [Lib.cell_of_heap hq];rfl
 have fp0:w.frozen? ⟨p,0,none⟩=false:=Lib.frozen_of_heap hp _
 have fq0:w.frozen? ⟨q,0,none⟩=false:=Lib.frozen_of_heap hq _
 have hqp:q≠p:=fun h=>hpq h.symm
 go_wp2
 go_region
 exact ⟨rfl,_,rfl,_,results_none rfl _ _ _,rfl,rfl,rfl⟩
theorem JTq (x:Value)(w:World)(G:Value→World→Prop)
  (hf:Calls Tryz.prog 52 #[x] ((w.alloc (.cells #[.slice none 0 0] 28)).alloc (.cells #[.int .i64 0] 35)) fun e w'=>∃p n c,e=.returned (.slice p n c)∧G (.slice p n c) w' ∧
   w'.heap[w.heap.size]? = some (.cells #[.slice none 0 0] 28 (0,0))∧w'.heap[w.heap.size+1]? = some (.cells #[.int .i64 0] 35 (0,0))) :
  Calls Tryz.prog 51 #[.func (.func 52) #[] #[x]] w fun e w'=>∃r w2,G r w2∧e=.returned (.tuple #[r,.int .i64 0])∧w'=(w2.setCell ⟨w.heap.size,0,none⟩ r).setCell ⟨w.heap.size+1,0,none⟩ (.int .i64 0):=by
 have hmf:∀(fn:Fn) (first cap:Array Value) (w:World),(Instr.makeFunc fn first cap).run Tryz.prog w=.ok (.func fn first cap) w:=fun _ _ _ _=>rfl
 go_enter_defers Tryz.func51,Tryz.ntmps51
 go_wp2_with (go_at_call 52;refine hf.mono ?_)
 rintro e w2 ⟨p,n,c,rfl,hG,h1,h2⟩
 have c1:w2.cell? ⟨w.heap.size,0,none⟩=some (.slice none 0 0):=by rw [Lib.cell_of_heap h1];rfl
 have c2:w2.cell? ⟨w.heap.size+1,0,none⟩=some (.int .i64 0):=by rw [Lib.cell_of_heap h2];rfl
 have f1:w2.frozen? ⟨w.heap.size,0,none⟩=false:=Lib.frozen_of_heap h1 _
 have f2:w2.frozen? ⟨w.heap.size+1,0,none⟩=false:=Lib.frozen_of_heap h2 _
 go_wp2
 have hne:w.heap.size≠w.heap.size+1:=by omega
 have g1:((w2.setCell ⟨w.heap.size,0,none⟩ (.slice p n c)).setCell ⟨w.heap.size+1,0,none⟩ (.int .i64 0)).heap[w.heap.size]? = some (.cells #[.slice p n c] 28 (0,0)):=
  (Below.heap_setCell _ ⟨w.heap.size+1,0,none⟩ _ _ hne).trans ((Lib.heap_setCell_same (i:=0) h1 (.slice p n c)).trans rfl)
 have g2:((w2.setCell ⟨w.heap.size,0,none⟩ (.slice p n c)).setCell ⟨w.heap.size+1,0,none⟩ (.int .i64 0)).heap[w.heap.size+1]? = some (.cells #[.int .i64 0] 35 (0,0)):=
  (Lib.heap_setCell_same (i:=0) ((Below.heap_setCell w2 ⟨w.heap.size,0,none⟩ _ _ (fun h=>hne h.symm)).trans h2) (.int .i64 0)).trans rfl
 have d1:((w2.setCell ⟨w.heap.size,0,none⟩ (.slice p n c)).setCell ⟨w.heap.size+1,0,none⟩ (.int .i64 0)).cell? ⟨w.heap.size,0,none⟩=some (.slice p n c):=by rw [Lib.cell_of_heap g1];rfl
 have d2:((w2.setCell ⟨w.heap.size,0,none⟩ (.slice p n c)).setCell ⟨w.heap.size+1,0,none⟩ (.int .i64 0)).cell? ⟨w.heap.size+1,0,none⟩=some (.int .i64 0):=by rw [Lib.cell_of_heap g2];rfl
 refine leaves_cons (f:=105) (args:=#[.pointer (some ⟨w.heap.size,0,none⟩),.pointer (some ⟨w.heap.size+1,0,none⟩)]) (by simp) (by simp [go_sem]) ?_
 refine (JSA ⟨w.heap.size,0,none⟩ ⟨w.heap.size+1,0,none⟩ _).mono ?_
 rintro e u' w'' ⟨rfl,rfl,rfl⟩
 generalize hW:(w2.setCell ⟨w.heap.size,0,none⟩ (.slice p n c)).setCell ⟨w.heap.size+1,0,none⟩ (.int .i64 0)=W at d1 d2 ⊢
 simp [Leaves,settle,results,Tryz.results51,go_sem,d1,d2]
 exact ⟨_,w2,hG,rfl,hW.symm⟩
theorem JTr (x:Value)(w:World)(G:World→Prop)
  (hf:Calls Tryz.prog 52 #[x] ((w.alloc (.cells #[.slice none 0 0] 28)).alloc (.cells #[.int .i64 0] 35)) fun e w'=>e=.panicked (Z3 J0)∧G w' ∧
   w'.heap[w.heap.size]? = some (.cells #[.slice none 0 0] 28 (0,0))∧w'.heap[w.heap.size+1]? = some (.cells #[.int .i64 0] 35 (0,0))) :
  Calls Tryz.prog 51 #[.func (.func 52) #[] #[x]] w fun e w'=>∃w2,G w2∧e=.returned (.tuple #[.slice none 0 0,.int .i64 8])∧w'=(((w2.setCell ⟨w.heap.size,0,none⟩ (.slice none 0 0)).setCell ⟨w.heap.size+1,0,none⟩ (.int .i64 8)).alloc (.cells #[.int .i64 8] 172)).drew:=by
 have hmf:∀(fn:Fn) (first cap:Array Value) (w:World),(Instr.makeFunc fn first cap).run Tryz.prog w=.ok (.func fn first cap) w:=fun _ _ _ _=>rfl
 go_enter_defers Tryz.func51,Tryz.ntmps51
 go_wp2_with (go_at_call 52;refine hf.mono ?_)
 rintro e w2 ⟨rfl,hG,h1,h2⟩
 go_wp2
 have hne:w.heap.size≠w.heap.size+1:=by omega
 have hl2:=(Array.getElem?_eq_some_iff.1 h2).1
 have g1:((w2.setCell ⟨w.heap.size,0,none⟩ (.slice none 0 0)).setCell ⟨w.heap.size+1,0,none⟩ (.int .i64 8)).heap[w.heap.size]? = some (.cells #[.slice none 0 0] 28 (0,0)):=
  (Below.heap_setCell _ ⟨w.heap.size+1,0,none⟩ _ _ hne).trans ((Lib.heap_setCell_same (i:=0) h1 (.slice none 0 0)).trans rfl)
 have g2:((w2.setCell ⟨w.heap.size,0,none⟩ (.slice none 0 0)).setCell ⟨w.heap.size+1,0,none⟩ (.int .i64 8)).heap[w.heap.size+1]? = some (.cells #[.int .i64 8] 35 (0,0)):=
  (Lib.heap_setCell_same (i:=0) ((Below.heap_setCell w2 ⟨w.heap.size,0,none⟩ _ _ (fun h=>hne h.symm)).trans h2) (.int .i64 8)).trans rfl
 have hs:((w2.setCell ⟨w.heap.size,0,none⟩ (.slice none 0 0)).setCell ⟨w.heap.size+1,0,none⟩ (.int .i64 8)).heap.size=w2.heap.size:=by rw [ZZ,ZZ]
 refine leaves_cons (f:=105) (args:=#[.pointer (some ⟨w.heap.size,0,none⟩),.pointer (some ⟨w.heap.size+1,0,none⟩)]) (by simp) (by simp [go_sem]) ?_
 refine (JVt w.heap.size (w.heap.size+1) w2 h1 h2 hne).mono ?_
 rintro e u' w'' ⟨rfl,rfl,rfl⟩
 generalize hW:(w2.setCell ⟨w.heap.size,0,none⟩ (.slice none 0 0)).setCell ⟨w.heap.size+1,0,none⟩ (.int .i64 8)=W at g1 g2 hs ⊢
 have k1:(W.alloc (.cells #[.int .i64 8] 172)).drew.heap[w.heap.size]? = some (.cells #[.slice none 0 0] 28 (0,0)):=(Below.heap_alloc W _ _ (by omega)).trans g1
 have k2:(W.alloc (.cells #[.int .i64 8] 172)).drew.heap[w.heap.size+1]? = some (.cells #[.int .i64 8] 35 (0,0)):=(Below.heap_alloc W _ _ (by omega)).trans g2
 have d1:(W.alloc (.cells #[.int .i64 8] 172)).drew.cell? ⟨w.heap.size,0,none⟩=some (.slice none 0 0):=by rw [Lib.cell_of_heap k1];rfl
 have d2:(W.alloc (.cells #[.int .i64 8] 172)).drew.cell? ⟨w.heap.size+1,0,none⟩=some (.int .i64 8):=by rw [Lib.cell_of_heap k2];rfl
 generalize hV:(W.alloc (.cells #[.int .i64 8] 172)).drew=V at d1 d2 ⊢
 simp [Leaves,settle,results,Tryz.results51,go_sem,d1,d2]
 trace_state
 exact ⟨w2,hG,by rw [hW,hV]⟩
end Go.Mw
namespace Go.Mw
open Go.Proofs
open Go.Bk
theorem JNc:JEo Tryz.prog 51 52 28 35:=fun x w G h=>JTq x w G h
theorem JNe:JIA Tryz.prog 51 52 J0 28 35 172:=fun x w G h=>JTr x w G h
def rgE (r:Option (List Pg)):AV:=match r with
 |some l=>.tup [(false,[.d (Yt l)]),(false,[.d (.i 0)])]
 |none=>.tup [(false,[.d (Yt [])]),(false,[.d (.i 8)])]
theorem JQm (b:Bs)(hb:b.length≤1000000000):Jb Tryz.prog 51 [.leaf (.d (.fn 52 [.pt [.raw (.string (bs b))]]))] (rgE (ZM b)) []:=by
 cases h:ZM b with
 |some l=>exact JLk JNc (fun _ _ _ h=>JOD h) (JQl hb h)
 |none=>exact JGy JNe (fun _ _=>RepD.nil _ _ _) (JM7 hb h)
theorem JPy (b:Bs)(hb:b.length≤1000000000):Jb Tryz.prog 18 [.str b] (rgE (ZM b)) []:=by
 have hcr:=JQm b hb
 generalize ZM b=q at hcr ⊢
 rcases q with _|l
 ·skip
  dsimp only [rgE] at hcr ⊢
  refine Js Jf Tryz.func18 rfl JID JJ rfl ?_
  refine JB.reg ?_
  iterate 3 (refine JA.o ?_)
  refine JA.nil (JB.reg ?_)
  refine JA.frz 1 JD ?_
  refine JA.o ?_
  refine JA.frz 4 JD ?_
  refine JA.c1 (hcr) JD JD ?_
  iterate 4 (refine JA.o ?_)
  refine JA.nil ?_
  exact Ends.fin [] (rs:=[.tmp 2,.tmp 3]) rfl JD ZB
 ·skip
  dsimp only [rgE] at hcr ⊢
  refine Js Jf Tryz.func18 rfl JID JJ rfl ?_
  refine JB.reg ?_
  iterate 3 (refine JA.o ?_)
  refine JA.nil (JB.reg ?_)
  refine JA.frz 1 JD ?_
  refine JA.o ?_
  refine JA.frz 4 JD ?_
  refine JA.c1 (hcr) JD JD ?_
  iterate 4 (refine JA.o ?_)
  refine JA.nil ?_
  exact Ends.fin [] (rs:=[.tmp 2,.tmp 3]) rfl JD ZB
end Go.Mw
namespace Go.Mw
open Go.Proofs
open Go.Bk
attribute [local go_sem] decide_true beq_self_eq_true bne_self_eq_false
theorem JLM (a b:List Pg)(ha:a.length≤1000000)(hb:b.length≤1000000)(hz:∀x∈a,x.reads.length≤1000000):Jb Tryz.prog 19 [.leaf (.d (Yt a)),.leaf (.d (Yt b))] (.bool (decide (a=b))) []:=by
 refine Js Jf Tryz.func19 rfl (by simp only [List.length_cons,List.length_nil,Tryz.ntmps19];omega) JJ rfl ?_
 refine JB.reg ?_
 refine JA.o ?_
 refine JA.nil (JB.assocS (JB.reg ?_))
 iterate 5 (refine JA.o ?_)
 refine JA.nil ?_
 refine JB.cndS JD (fun hb11=>?_) (fun hb11=>?_)
 ·skip
  have hne:¬a=b:=fun h=>by subst h;simp at hb11
  have hr:decide (a=b)=false:=decide_eq_false hne
  refine JB.assocS (JB.reg ?_)
  have X:=Fx.mk hr
  refine JA.o1 JC ?_
  refine JA.nil (JB.retS ?_)
  exact Ends.fin [] (rs:=[.tmp 4]) rfl JC Qs
 ·skip
  have hll:a.length=b.length:=by simp at hb11;omega
  refine JB.skipS (JB.assocS (JB.reg ?_))
  refine JA.o ?_
  refine JA.nil (JB.blk ?_)
  refine JB.forA [0,1,5] [] (a.length) (fun k=>[.slot 5 (.int k)]) (fun k=>a.take k=b.take k) (fun k=>by simp only [go_sem]<;>rfl) JDy ?_ (fun k hk hX=>?_)
  ·rfl
  ·skip
   refine JB.assocS (JB.reg ?_)
   iterate 4 (refine JA.o ?_)
   refine JA.nil ?_
   refine JB.cndS JD (fun hb15=>?_) (fun hb15=>?_)
   ·skip
    have hlt:=Yk hb15
    obtain ⟨x,hx⟩:=Yj hb15
    obtain ⟨y,hy⟩:∃y,b[k]? = some y:=⟨_,List.getElem?_eq_getElem (by omega)⟩
    have hxz:=hz x (List.mem_of_getElem? hx)
    refine JB.skipS (JB.blk (JB.assocS ?_))
    by_cases hh:x.house=y.house
    ·skip
     have q1:(x.house != y.house)=false:=by simp [hh]
     refine JB.opk 28 ?_
     have X:=((Fx.mk hx).a hy).a q1
     iterate 2 (refine JF.o1 JC ?_)
     refine JF.o1 QE ?_
     iterate 4 (refine JF.o1 JC ?_)
     refine JF.o1 QE ?_
     iterate 4 (refine JF.o1 JC ?_)
     iterate 2 (refine JF.y1 JC ?_)
     refine JF.y1 QE ?_
     iterate 5 (refine JF.y1 JC ?_)
     refine JF.y1 QE ?_
     iterate 4 (refine JF.y1 JC ?_)
     refine JF.o1 JC ?_
     refine JF.nil (QO.finT JJ JJ JJ ?_)
     refine JB.cndS JC (fun hb43=>?_) (fun hb43=>?_)
     ·skip
      have hne:¬a=b:=fun h=>by subst h;rw [hx] at hy;cases hy;simp at hb43
      have hr:decide (a=b)=false:=decide_eq_false hne
      refine JB.assocS (JB.reg ?_)
      have X:=X.a hr
      refine JA.o1 JC ?_
      refine JA.nil (JB.retS (JR.ret (JU.ret (JR.ret ?_))))
      exact Ends.fin [] (rs:=[.tmp 4]) rfl JC Qs
     ·skip
      have hrl:x.reads.length=y.reads.length:=by simp at hb43;omega
      refine JB.skipS (JB.reg ?_)
      refine JA.o1 JC ?_
      refine JA.nil (JB.blk1 ?_)
      refine JB.forA [0,1,5,6] [] (x.reads.length) (fun j=>[.slot 6 (.int j)]) (fun j=>x.reads.take j=y.reads.take j) (fun j=>by simp only [go_sem]<;>rfl) JGN ?_ (fun j hj Xj=>?_)
      ·rfl
      ·skip
       refine JB.assocS (JB.reg ?_)
       iterate 3 (refine JA.o1 JC ?_)
       refine JA.o1 QE ?_
       iterate 4 (refine JA.o1 JC ?_)
       refine JA.nil ?_
       refine JB.cndS JC (fun hb51=>?_) (fun hb51=>?_)
       ·skip
        have hlt2:=Yk hb51
        obtain ⟨n,hn⟩:=Yj hb51
        obtain ⟨m,hm⟩:∃m,y.reads[j]? = some m:=⟨_,List.getElem?_eq_getElem (by omega)⟩
        refine JB.skipS (JB.blk ?_)
        refine JB.opk 19 ?_
        have X:=(X.a hn).a hm
        iterate 2 (refine JF.o1 JC ?_)
        refine JF.o1 QE ?_
        iterate 3 (refine JF.o1 JC ?_)
        refine JF.o1 QE ?_
        iterate 3 (refine JF.o1 JC ?_)
        refine JF.o1 QE ?_
        iterate 3 (refine JF.o1 JC ?_)
        refine JF.o1 QE ?_
        iterate 2 (refine JF.o1 JC ?_)
        refine JF.nil (QO.finT JJ JJ JJ ?_)
        refine JB.cnd JC (fun hb70=>?_) (fun hb70=>?_)
        ·skip
         have hne:¬a=b:=fun h=>by subst h;rw [hx] at hy;cases hy;rw [hn] at hm;cases hm;simp at hb70
         have hr:decide (a=b)=false:=decide_eq_false hne
         refine JB.reg ?_
         have X:=X.a hr
         refine JA.o1 JC ?_
         refine JA.nil (JR.ret (JU.ret (Qp.ret (JR.ret (JU.ret (JR.ret ?_))))))
         exact Ends.fin [] (rs:=[.tmp 4]) rfl JC Qs
        ·skip
         have hnm:n=m:=by simpa using hb70
         subst hnm
         refine JR.nrm (JB.reg1 ?_)
         refine JA.o1 JC ?_
         refine JA.o1 Jv ?_
         refine JA.o1 JC ?_
         refine JA.nil ?_
         refine JU.nxt ?_ ?_ ?_
         ·omega
         ·exact JN.kp [0,1,5,6] [] ZA
         ·exact JF5 hn hm Xj
       ·skip
        have hre:=JF4 hrl (Yo hb51) Xj
        have hxy:x=y:=by
         obtain ⟨x1,x2⟩:=x
         obtain ⟨y1,y2⟩:=y
         simp only at hh hre
         subst hh hre;rfl
        subst hxy
        refine JB.exitS (JU.ext (Qp.hit (JR.nrm (JB.reg1 ?_))))
        refine JA.o1 JC ?_
        refine JA.o1 Jv ?_
        refine JA.o1 JC ?_
        refine JA.nil ?_
        refine JU.nxt ?_ ?_ ?_
        ·omega
        ·exact JN.kp [0,1,5] [] ZA
        ·exact JF5 hx hy hX
    ·skip
     have q1:(x.house != y.house)=true:=by simp [hh]
     refine JB.opk 28 ?_
     have X:=((Fx.mk hx).a hy).a q1
     iterate 2 (refine JF.o1 JC ?_)
     refine JF.o1 QE ?_
     iterate 4 (refine JF.o1 JC ?_)
     refine JF.o1 QE ?_
     iterate 4 (refine JF.o1 JC ?_)
     iterate 13 (refine JF.s ?_)
     refine JF.o1 JC ?_
     refine JF.nil (QO.finT JJ JJ JJ ?_)
     refine JB.cndS JC (fun hb43=>?_) (fun hb43=>?_)
     ·skip
      have hne:¬a=b:=fun h=>by subst h;rw [hx] at hy;cases hy;exact hh rfl
      have hr:decide (a=b)=false:=decide_eq_false hne
      refine JB.assocS (JB.reg ?_)
      have X:=X.a hr
      refine JA.o1 JC ?_
      refine JA.nil (JB.retS (JR.ret (JU.ret (JR.ret ?_))))
      exact Ends.fin [] (rs:=[.tmp 4]) rfl JC Qs
     ·exact absurd hb43 (by simp)
   ·skip
    have heq:=JF4 hll (Yo hb15) hX
    have hr:decide (a=b)=true:=decide_eq_true heq
    refine JB.exitS (JU.ext (JR.hit (JB.reg ?_)))
    have X:=Fx.mk hr
    refine JA.o1 JC ?_
    refine JA.nil ?_
    exact Ends.fin [] (rs:=[.tmp 4]) rfl JC Qs
end Go.Mw

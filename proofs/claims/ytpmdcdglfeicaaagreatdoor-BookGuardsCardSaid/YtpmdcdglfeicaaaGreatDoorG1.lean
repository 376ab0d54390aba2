/- Six arguments, and a number of sixteen bits among them; no condition but those in each. -/
import Derived.Test.YtpmdcdglfeicaaaGreatDoorD1
import Derived.Test.YtpmdcdglfeicaaaGreatDoorB9
import Derived.Test.YtpmdcdglfeicaaaGreatDoorB4
import Derived.Test.YtpmdcdglfeicaaaGreatDoorB12
import Derived.Test.YtpmdcdglfeicaaaGreatDoorB11
import Derived.Test.YtpmdcdglfeicaaaGreatDoorB10
import Derived.Test.YtpmdcdglfeicaaaGreatDoorRows
import Derived.Test.YtpmdcdglfeicaaaGreatDoorCards
import Derived.Test.YtpmdcdglfeicaaaGreatDoorTie
import Derived.SevenTiedAt
import Derived.Stop.Joined
set_option maxRecDepth 100000
set_option maxHeartbeats 16000000
set_option linter.unusedSimpArgs false
set_option linter.unusedVariables false
set_option linter.unusedSectionVars false
set_option linter.deprecated false
namespace Go.Mw
open Go.Proofs Go.RowKit Go.ChangeShapes Go.WideShapes Go.Bk
section
variable {H:Type} {enc:TypeId × Value→H} {P:Program} {W:World} {base:Nat} {spare:Nat→Bool} {held:Bool} {v:Value} {d:DataW H} {ps:List MemPlace}
theorem JWA {t0 t1 t2 t3 t4 t5:TypeId}{args:Array Value}{ds:List (DataW H)}(h:DataW.TrodAll enc P W base spare held [t0,t1,t2,t3,t4,t5] args.toList ds ps) :
  ∃v0 v1 v2 v3 v4 v5 d0 d1 d2 d3 d4 d5 p0 p1 p2 p3 p4 p5,args=#[v0,v1,v2,v3,v4,v5]∧ds=[d0,d1,d2,d3,d4,d5]∧ps=p0++p1++p2++p3++p4++p5∧DataW.Trod enc P W base spare held t0 v0 d0 p0∧DataW.Trod enc P W base spare held t1 v1 d1 p1 ∧
   DataW.Trod enc P W base spare held t2 v2 d2 p2∧DataW.Trod enc P W base spare held t3 v3 d3 p3∧DataW.Trod enc P W base spare held t4 v4 d4 p4∧DataW.Trod enc P W base spare held t5 v5 d5 p5:=by
 obtain ⟨v0,vs0,d0,ds0,p0,q0,hargs,rfl,rfl,h0,h⟩:=trodAll_cons h
 obtain ⟨v1,vs1,d1,ds1,p1,q1,rfl,rfl,rfl,h1,h⟩:=trodAll_cons h
 obtain ⟨v2,vs2,d2,ds2,p2,q2,rfl,rfl,rfl,h2,h⟩:=trodAll_cons h
 obtain ⟨v3,vs3,d3,ds3,p3,q3,rfl,rfl,rfl,h3,h⟩:=trodAll_cons h
 obtain ⟨v4,vs4,d4,ds4,p4,q4,rfl,rfl,rfl,h4,h⟩:=trodAll_cons h
 obtain ⟨v5,vs5,d5,ds5,p5,q5,rfl,rfl,rfl,h5,h⟩:=trodAll_cons h
 obtain ⟨rfl,rfl,rfl⟩:=trodAll_nil h
 exact ⟨v0,v1,v2,v3,v4,v5,d0,d1,d2,d3,d4,d5,p0,p1,p2,p3,p4,p5,by cases args;simp_all,rfl,by simp,h0,h1,h2,h3,h4,h5⟩
theorem JWM {t:TypeId}{b0:Nat}{r:Reach}(ht:P.underlying t=some (.int .u16))(hv:Value.okWide P W r b0 t v)(h:DataW.Trod enc P W base spare held t v d ps) :
  ∃n:Nat,n≤65535∧Jk (fun b _=>b<W.heap.size) Yz (look []) W (.leaf (.d (.raw (.int .u16 (n:Int))))) v:=by
 obtain ⟨n,hw,hr⟩:=JMv ht hv h
 have h2:0≤n∧n≤65535:=by
  simp only [Lit.wf,Bool.and_eq_true,decide_eq_true_eq] at hw
  have e1:IntKind.u16.min=0:=by decide
  have e2:IntKind.u16.max=65535:=by decide
  omega
 refine ⟨n.toNat,by omega,?_⟩
 rw [show ((n.toNat:Nat):Int)=n by omega]
 exact hr
theorem JWN {b0:Nat}{r:Reach}(hv:Value.okWide Tryz.prog W r b0 80 v)(h:DataW.Trod enc Tryz.prog W 0 (fun _=>true) true 80 v d ps) :
  ∃n:Nat,n≤65535∧Jk (fun b _=>b<W.heap.size) Yz (look []) W (.leaf (.d (.raw (.int .u16 (n:Int))))) v:=JWM JI hv h
end
end Go.Mw
namespace Go.Mw
open Go.Proofs
open Go.Bk
attribute [-go_sem] Q1
attribute [local go_sem] JCC JCL JCI JCK JCD JCJ JCH JCG JCF JCE
attribute [local go_sem] decide_true beq_self_eq_true bne_self_eq_false
theorem JPd (k:IntKind)(a b:Int):Q1 .quo k a b=if b=0 then none else some (.int k (k.wrap (a.tdiv b))):=rfl
attribute [local go_sem] JPd
theorem JPZ {r:Nat}(h:r<8):Q1 .shr .u8 128 (r:Int)=some (.int .u8 ((128 >>> r:Nat):Int)):=by
 have:r=0∨r=1∨r=2∨r=3∨r=4∨r=5∨r=6∨r=7:=by omega
 rcases this with h|h|h|h|h|h|h|h<;>subst h<;>rfl
theorem JPg (c:UInt8){v:Nat}(h:v<256):Q1 .xor .u8 (c.toNat:Int) (v:Int)=some (.int .u8 (((c ^^^ UInt8.ofNat v).toNat:Nat):Int)):=by
 have e:(BitVec.ofInt 8 (c.toNat:Int) ^^^ BitVec.ofInt 8 (v:Int)).toNat=(c ^^^ UInt8.ofNat v).toNat:=by
  rw [BitVec.toNat_xor,UInt8.toNat_xor,JC2 h]
  have:=c.toNat_lt
  congr 1
  ·simp [BitVec.toNat_ofInt]<;>omega
  ·simp [BitVec.toNat_ofInt]<;>omega
 have hlt:=(c ^^^ UInt8.ofNat v).toNat_lt
 show some (Value.int .u8 (IntKind.u8.wrap ((BitVec.ofInt 8 (c.toNat:Int) ^^^ BitVec.ofInt 8 (v:Int)).toNat:Int)))=_
 rw [e,IntWalk.u8_in _ (by omega)]
theorem JP8 (b:Bs)(n:Nat):(Jr b).take n=Jr (b.take n):=List.map_take.symm
theorem JP3 {b:Bs}{n:Nat}{c:UInt8}(h:b[n]? = some c):(Jr b)[n]? = some [.raw (.int .u8 (c.toNat:Int))]:=by unfold Jr;rw [List.getElem?_map,h];rfl
theorem JP7 (b:Bs)(n:Nat)(z:UInt8):(Jr b).set n [.raw (.int .u8 (z.toNat:Int))]=Jr (b.set n z):=by unfold Jr;rw [List.map_set]
theorem JL1:∀(l:List Pl) (a:Int) (k:Nat),chain a l→chain a (l.take k)
 |[],a,k,_=>by simp [chain]
 |x::l,a,0,_=>trivial
 |x::l,a,k+1,h=>⟨h.1,JL1 l x.num k h.2⟩
theorem JT0 {p:List Pl}(hp:Yo p=0){j:Nat}{x:Pl}(hx:p[j]? = some x):(QX (p.take (j+1))).length=JBy p j x+22:=by
 have hf:=(JHV p 0 j x (JCO hp).1 hx).1
 unfold QX JBy
 rw [Zs hx,JFk,List.length_append,List.length_append,Qk]
 unfold Qc QJ
 simp only [List.length_append,Qk,List.length_singleton];omega
theorem JT1 {p:List Pl}(hp:Yo p=0){j:Nat}{x:Pl}(hx:p[j]? = some x):JBy p j x+22≤8*(JAm p).length:=by
 have hg:=(JHV p 0 j x (JCO hp).1 hx).2
 have:=congrArg List.length (JDk p)
 rw [JCh,hg] at this
 unfold Qc QJ at this
 simp only [List.length_append,Qk,List.length_singleton] at this
 unfold JBy;omega
theorem JNK {p:List Pl}(hp:Yo p=0):∀x∈p,x.num≤65535:=fun x hx=>by
 obtain ⟨_,h2,_⟩:=JCR hp
 have h:=List.all_eq_true.1 h2 x hx
 unfold JAV at h
 simp only [Bool.and_eq_true,ZD] at h
 omega
theorem JT6 {l:List Pl}(h:Yo l=0):(JAm l).length≤5000:=by
 obtain ⟨hch,h60⟩:=JCO h
 have hk:=(JG5 l 0 hch ⟨by omega,by omega⟩ (JNK h) l.length).1
 rw [List.take_length] at hk
 have:=congrArg List.length (JDk l)
 rw [JCh] at this
 simp only [List.length_append,Qk,List.length_replicate] at this
 omega
theorem JMD {α:Type}[DecidableEq α](l:List α):(((l.length:Nat):Int)==0)=decide (l.length=0):=by
 by_cases h:l.length=0
 ·rw [decide_eq_true h,h];rfl
 ·rw [decide_eq_false h];exact beq_eq_false_iff_ne.2 (by omega)
theorem JJL {s:List Sh}(h:Yp s=0):(Qq s).length=0↔s.length=0:=by
 rw [show Qq s=Qp s from if_pos h]
 exact ⟨fun e=>by rw [JOa (List.eq_nil_of_length_eq_zero e)];rfl,fun e=>by rw [List.eq_nil_of_length_eq_zero e];rfl⟩
theorem JJJ {s:List Pg}(h:Yf s=0):(ZL s).length=0↔s.length=0:=by
 rw [show ZL s=YZ s from if_pos h]
 exact ⟨fun e=>by rw [JNe (List.eq_nil_of_length_eq_zero e)];rfl,fun e=>by rw [List.eq_nil_of_length_eq_zero e];rfl⟩
theorem JLU {p q:Prop}[Decidable p][Decidable q](h:p↔q):(decide p != decide q)=false:=by
 by_cases hp:p
 ·rw [decide_eq_true hp,decide_eq_true (h.1 hp)];rfl
 ·rw [decide_eq_false hp,decide_eq_false (fun e=>hp (h.2 e))];rfl
attribute [local irreducible] JW Qb
theorem JQV (p:List Pl)(j:Nat)(x:Pl)(hp:Yo p=0)(hx:p[j]? = some x)(hb:JBy p j x≤1000000):Ja Tryz.prog 41 [.leaf (.d (JAK (p.take (j+1))))] (.int (JBy p j x)) []:=by
 obtain ⟨hch,h60⟩:=JCO hp
 have kb:=JQj (p.take (j+1)) (JL1 p 0 _ hch) JBH (fun y hy=>JNK hp y (List.mem_of_mem_take hy))
 have hL:=JAQ (QX (p.take (j+1)))
 rw [JT0 hp hx] at hL
 refine Js Jc Tryz.func41 rfl (by simp only [List.length_cons,List.length_nil,Tryz.ntmps41];omega) JI rfl ?_
 refine JB.reg ?_
 have X:=Fx.mk hL
 refine JA.o1 JC ?_
 refine JA.nil (JB.reg ?_)
 refine JA.o1 JC ?_
 refine JA.c1 (kb) JC JC ?_
 refine JA.o1 JC ?_
 iterate 3 (refine JA.o1 J4 ?_)
 refine JA.o1 JC ?_
 refine JA.nil ?_
 exact Ends.fin [] (rs:=[.tmp 2]) rfl JC (by simp only [go_sem,X.h]<;>first|rfl|((repeat' (first|with_reducible_and_instances rfl|refine Q8 ?_ ?_ ?_|refine Q7 ?_|refine YN ?_|refine Q9 ?_ ?_|refine Q2 ?_|refine Q3 ?_|refine YO ?_|refine Q6 ?_ ?_|refine YK ?_ ?_|refine YM ?_|refine YH ?_|(refine Q4 ?_;omega)));all_goals omega))
theorem JQB (s:List Sh)(p:List Pl)(g:List Pg)(mc:UInt8)(dr wh:Nat)(hs:s.length≤9223372036854775807)(hp:p.length≤9223372036854775807)(hg:g.length≤9223372036854775807)(hdr:dr≤255)(hwh:wh≤65535):Ja Tryz.prog 12 [.leaf (.d (JAY s)),.leaf (.d (JAK p)),.leaf (.d (JAU g)),.leaf (.d (.raw (.int .u8 (mc.toNat:Nat)))),.leaf (.d (.raw (.int .u8 dr))),.leaf (.d (.raw (.int .u16 wh)))] (.bool true) []:=by
 have k0:=JQ4 s p g hs hp hg
 have z0:((0:Int)==0)=true:=rfl
 have z8:((8:Int) != 8)=false:=rfl
 have z88:((8:Int)==8)=true:=rfl
 have hd0:Y9 (Qq s) 0=[]:=rfl
 refine Js Jc Tryz.func12 rfl (by simp only [List.length_cons,List.length_nil,Tryz.ntmps12];omega) JI rfl ?_
 refine JB.reg ?_
 refine JA.o ?_
 refine JA.nil (JB.assocS (JB.reg ?_))
 iterate 3 (refine JA.o ?_)
 refine JA.c1 (k0) JD JD ?_
 refine JA.nil ?_
 refine JB.cndS JD (fun hb38=>?_) (fun hb38=>?_)
 ·skip
  refine JB.assocS (JB.reg ?_)
  refine JA.c1 (JGv) JD JD ?_
  refine JA.o ?_
  refine JA.nil (JB.retS ?_)
  exact Ends.fin [] (rs:=[.tmp 12]) rfl JD Yj
 ·skip
  obtain ⟨⟨b1,b2⟩,b3,b4,b5⟩:=JSn hb38
  have k1:=JLk s (by omega) (fun x hx=>by have:=b2 x hx;omega)
  have k2:=JLi g (by omega) (fun x hx=>by have:=b5 x hx;omega)
  have k5:=JLj p (by omega)
  refine JB.skipS (JB.reg ?_)
  refine JA.o ?_
  refine JA.c1 (k1) JD JD ?_
  iterate 5 (refine JA.o ?_)
  refine JA.nil (JB.assocS ?_)
  refine JB.joinA [0,1,2,3,4,5,13,14,55] [] (fun (o:Unit)=>[.slot 55 (.bool false)]) (fun (o:Unit)=>True) (fun o=>by simp only [go_sem]<;>rfl) ?_ (fun o hj=>?_)
  ·skip
   by_cases a0:Yp s=0
   ·skip
    have e1:(Yp s==0)=true:=by rw [a0];rfl
    have e2:(!(decide ((Qq s).length=0)==decide (s.length=0)))=false:=JLU (JJL a0)
    have e3:=JMD (Qq s)
    have e4:(((s.length:Nat):Int)==0)=decide (s.length=0):=by
     by_cases h:s.length=0
     ·rw [decide_eq_true h,h];rfl
     ·rw [decide_eq_false h];exact beq_eq_false_iff_ne.2 (by omega)
    refine JB.reg1 ?_
    have X:=(((Fx.mk e1).a e2).a e3).a e4
    iterate 3 (refine JA.o1 JC ?_)
    iterate 7 (refine JA.y1 JC ?_)
    refine JA.o1 JC ?_
    refine JA.nil ?_
    refine ZM.nrm (()) ?_ ?_
    ·trivial
    ·exact JO.kp [0,1,2,3,4,5,13,14,55] [] ZI
   ·skip
    have e1:(Yp s==0)=false:=by simpa using a0
    refine JB.reg1 ?_
    have X:=Fx.mk e1
    iterate 3 (refine JA.o1 JC ?_)
    iterate 7 (refine JA.s ?_)
    refine JA.o1 JC ?_
    refine JA.nil ?_
    refine ZM.nrm (()) ?_ ?_
    ·trivial
    ·exact JO.kp [0,1,2,3,4,5,13,14,55] [] ZI
  refine JB.cndS JD (fun hb55=>?_) (fun hb55=>?_)
  ·exact absurd hb55 (by simp)
  ·skip
   refine JB.skipS (JB.assocS ?_)
   refine JB.joinA [0,1,2,3,4,5,13,14,62] [] (fun (o:Unit)=>[.slot 62 (.bool (decide (Yp s=0∧s.length≠0)))]) (fun (o:Unit)=>True) (fun o=>by simp only [go_sem]<;>rfl) ?_ (fun o hj=>?_)
   ·skip
    by_cases a1:Yp s=0
    ·skip
     have e1:(Yp s==0)=true:=by rw [a1];rfl
     have u:decide (Yp s=0∧s.length≠0)=decide ((((Qq s).length:Nat):Int)>0):=by
      have:=JJL a1
      by_cases h:s.length=0
      ·rw [decide_eq_false (fun q=>q.2 h),decide_eq_false (by omega)]
      ·rw [decide_eq_true ⟨a1,h⟩,decide_eq_true (by omega)]
     refine JB.reg1 ?_
     have X:=(Fx.mk e1).a u
     iterate 3 (refine JA.o1 JC ?_)
     iterate 3 (refine JA.y1 JC ?_)
     refine JA.o1 JC ?_
     refine JA.nil ?_
     refine ZM.nrm (()) ?_ ?_
     ·trivial
     ·exact JO.kp [0,1,2,3,4,5,13,14,62] [] ZI
    ·skip
     have e1:(Yp s==0)=false:=by simpa using a1
     have u:decide (Yp s=0∧s.length≠0)=false:=decide_eq_false (fun q=>a1 q.1)
     refine JB.reg1 ?_
     have X:=(Fx.mk e1).a u
     iterate 3 (refine JA.o1 JC ?_)
     iterate 3 (refine JA.s ?_)
     refine JA.o1 JC ?_
     refine JA.nil ?_
     refine ZM.nrm (()) ?_ ?_
     ·trivial
     ·exact JO.kp [0,1,2,3,4,5,13,14,62] [] ZI
   refine JB.joinA [1,2,3,4,5] [] (fun (o:Unit)=>[]) (fun (o:Unit)=>True) (fun o=>by simp only [go_sem]<;>rfl) ?_ (fun o hj=>?_)
   ·skip
    refine JB.cnd JD (fun hb62=>?_) (fun hb62=>?_)
    ·skip
     obtain ⟨ha,hs0⟩:=of_decide_eq_true hb62
     have hw:Qq s=Qp s:=if_pos ha
     have hs1:s≠[]:=fun e=>hs0 (by rw [e];rfl)
     have hlen:=JWV s
     have hpos:1≤(Qq s).length:=by have:=(JJL ha).1;omega
     have t1:(((Qq s).length:Int)-1).toNat=(Qq s).length-1:=by omega
     have t2:List.take ((Qq s).length-1) (Qq s)=(Qq s).dropLast:=List.dropLast_eq_take.symm
     have hge:(0≤((Qq s).length:Int)-1)=True:=eq_true (by omega)
     have k3:=JLh (Qq s).dropLast (by rw [List.length_dropLast];omega)
     rw [show JAl (Qq s).dropLast=none by rw [hw];exact JVA hs1] at k3
     refine JB.assocS (JB.reg ?_)
     have X:=(((Fx.mk t1).a t2).a hge).a z8
     iterate 3 (refine JA.o1 Jv ?_)
     refine JA.o1 V54 ?_
     refine JA.o1 V65 ?_
     refine JA.c1 (k3) Jv Jv ?_
     iterate 5 (refine JA.o1 Jv ?_)
     refine JA.nil (JB.assocS (JB.reg ?_))
     iterate 2 (refine JA.o1 Jv ?_)
     refine JA.nil ?_
     refine JB.cndS Jv (fun hb73=>?_) (fun hb73=>?_)
     ·exact absurd hb73 (by simp)
     ·skip
      refine JB.skipS (JB.reg ?_)
      refine JA.o1 Jv ?_
      refine JA.nil (JB.assocS (JB.reg ?_))
      refine JA.nilo 17 1000 3 1 JD JD (by omega) (by omega) JD ?_
      iterate 3 (refine JA.o1 Jv ?_)
      refine JA.nil (JB.blk ?_)
      have X:=X.a hd0
      refine JB.forA [1,2,3,4,5,13,17,75,76] [1000] ((Qq s).length) (fun k=>[.slot 76 (.int k),.slot 17 (.leaf (.own 1000 0 (Y9 (Qq s) k).length (Y9 (Qq s) k).length)),.obj 1000 (.arr 3 1 ((Y9 (Qq s) k).map fun n=>ZR (n:Nat)))]) (fun _=>True) (fun k=>by simp only [go_sem]<;>rfl) (by simp only [go_sem,X.h,if_true,List.drop_zero,Int.natCast_zero,List.map_nil,List.length_nil]<;>rfl) ?_ (fun k hk hX=>?_)
      ·trivial
      ·skip
       refine JB.reg ?_
       have X:=(((Fx.mk t1).a t2).a hge).a z8
       refine JA.o1 Jv ?_
       refine JA.nil ?_
       refine JB.cndS Jv (fun hb77=>?_) (fun hb77=>?_)
       ·skip
        have hlt:k<(Qq s).length:=by have:=of_decide_eq_true hb77;omega
        obtain ⟨c,hx⟩:∃c,(Qq s)[k]? = some c:=⟨_,List.getElem?_eq_getElem hlt⟩
        have hdl:=JIm (Qq s) k
        refine JB.skipS (JB.blk (JB.reg ?_))
        have X:=X.a hx
        iterate 2 (refine JA.o1 Jv ?_)
        refine JA.nil ?_
        by_cases hd:Qw c=true
        ·skip
         have n1:=JA8.1 hd
         have d1:decide ((c.toNat:Int)≥48)=true:=decide_eq_true (by omega)
         have d2:decide ((c.toNat:Int)≤57)=true:=decide_eq_true (by omega)
         have hst:=JMJ hx hd
         refine JB.reg ?_
         have X:=((X.a d1).a d2).a hst
         iterate 5 (refine JA.o1 V90 ?_)
         iterate 4 (refine JA.y1 V90 ?_)
         refine JA.o1 V90 ?_
         refine JA.nil ?_
         refine JB.cnd V90 (fun hb88=>?_) (fun hb88=>?_)
         ·skip
          refine JB.reg1 ?_
          iterate 3 (refine JA.o1 V90 ?_)
          refine JA.o1 (by simp only [go_sem,X.h,if_true,List.drop_zero,List.map_append,List.map_cons,List.map_nil];(try simp (disch:=omega) only [if_pos]);(try simp only [go_sem,X.h,if_true,List.drop_zero,List.map_append,List.map_cons,List.map_nil])<;>first|(refine JAJ ⟨by (try simp only [List.length_append,List.length_drop,List.length_take,List.length_map,List.length_cons,List.length_nil,List.length_replicate,List.length_set,List.length_range,Nat.zero_add]);omega,by (try simp only [List.length_append,List.length_drop,List.length_take,List.length_map,List.length_cons,List.length_nil,List.length_replicate,List.length_set,List.length_range,Nat.zero_add]);omega,by repeat (first|exact JAE|assumption|refine JAA ?_ ?_|refine JAC ?_|refine JAG ?_|exact JAD (fun _=>rfl)|exact JAF rfl|refine JAB rfl ?_)⟩ ?_;simp only [go_sem,X.h,if_true,List.drop_zero,List.map_append,List.map_cons,List.map_nil]<;>rfl)|(refine JAJ ⟨by (try simp only [List.length_append,List.length_drop,List.length_take,List.length_map,List.length_cons,List.length_nil,List.length_replicate,List.length_set,List.length_range,Nat.zero_add]);omega,by repeat (first|exact JAE|assumption|refine JAA ?_ ?_|refine JAC ?_|refine JAG ?_|exact JAD (fun _=>rfl)|exact JAF rfl|refine JAB rfl ?_)⟩ ?_;simp only [go_sem,X.h,if_true,List.drop_zero,List.map_append,List.map_cons,List.map_nil]<;>rfl)|rfl) ?_
          refine JA.o1 V90 ?_
          refine JA.nil (JY.nrm (JB.reg1 ?_))
          refine JA.o1 (by simp only [go_sem,X.h,if_true,List.drop_zero,List.map_append,List.map_cons,List.map_nil];(try simp (disch:=omega) only [IntWalk.i64_in,IntWalk.u64_in,IntWalk.i32_in,IntWalk.u8_in,if_neg,if_pos])<;> rfl) ?_
          refine JA.o1 V90 ?_
          refine JA.nil ?_
          refine Jb.nxt ?_ ?_ ?_
          ·omega
          ·exact JO.kp [1,2,3,4,5,13,17,75,76] [1000] (by simp only [go_sem,X.h,if_true,List.drop_zero,List.map_append,List.map_cons,List.map_nil]<;>first|((repeat' (first|with_reducible_and_instances rfl|refine Q8 ?_ ?_ ?_|refine Q7 ?_|refine YN ?_|refine Q9 ?_ ?_|refine Q2 ?_|refine Q3 ?_|refine YO ?_|refine Q6 ?_ ?_|refine YK ?_ ?_|refine YM ?_|refine YH ?_|(refine Q4 ?_;omega)));all_goals (first|omega|(rw [hst];simp;done)))|rfl)
          ·trivial
         ·exact absurd hb88 (by simp)
        ·skip
         have hst:=JRi hx (by simpa using hd)
         by_cases h48:48≤c.toNat
         ·skip
          have d1:decide ((c.toNat:Int)≥48)=true:=decide_eq_true (by omega)
          have d2:decide ((c.toNat:Int)≤57)=false:=decide_eq_false (fun h=>hd (JA8.2 ⟨h48,by omega⟩))
          refine JB.reg ?_
          have X:=((X.a hst).a d1).a d2
          iterate 5 (refine JA.o1 Jv ?_)
          iterate 4 (refine JA.y1 Jv ?_)
          refine JA.o1 Jv ?_
          refine JA.nil ?_
          refine JB.cnd Jv (fun hb88=>?_) (fun hb88=>?_)
          ·exact absurd hb88 (by simp)
          ·skip
           refine JY.nrm (JB.reg1 ?_)
           refine JA.o1 V54 ?_
           refine JA.o1 Jv ?_
           refine JA.nil ?_
           refine Jb.nxt ?_ ?_ ?_
           ·omega
           ·exact JO.kp [1,2,3,4,5,13,17,75,76] [1000] V98
           ·trivial
         ·skip
          have d1:decide ((c.toNat:Int)≥48)=false:=decide_eq_false (by omega)
          refine JB.reg ?_
          have X:=(X.a hst).a d1
          iterate 5 (refine JA.o1 Jv ?_)
          iterate 4 (refine JA.s ?_)
          refine JA.o1 Jv ?_
          refine JA.nil ?_
          refine JB.cnd Jv (fun hb88=>?_) (fun hb88=>?_)
          ·exact absurd hb88 (by simp)
          ·skip
           refine JY.nrm (JB.reg1 ?_)
           refine JA.o1 V54 ?_
           refine JA.o1 Jv ?_
           refine JA.nil ?_
           refine Jb.nxt ?_ ?_ ?_
           ·omega
           ·exact JO.kp [1,2,3,4,5,13,17,75,76] [1000] V98
           ·trivial
       ·skip
        have hke:k=(Qq s).length:=by have:=of_decide_eq_false hb77;omega
        subst hke
        have hdl:=JIm (Qq s) (Qq s).length
        have hdn:Y9 (Qq s) (Qq s).length≠[]:=by rw [hw];exact JU7 hs1
        have hmem:=JHD (Qq s) (Qq s).length
        obtain ⟨W,hW⟩:∃W,Y9 (Qq s) (Qq s).length=W:=⟨_,rfl⟩
        rw [hW] at hdl hdn hmem
        have hWl:=List.length_pos_iff.2 hdn
        have e96:(((W.length:Nat):Int)==0)=false:=beq_eq_false_iff_ne.2 (by omega)
        have htm:(wh:Int).tmod (W.length:Int)=((wh%W.length:Nat):Int):=rfl
        have hml:=Nat.mod_lt wh hWl
        obtain ⟨n,hn⟩:∃n,W[wh%W.length]? = some n:=⟨_,List.getElem?_eq_getElem hml⟩
        obtain ⟨x,hx,hdx⟩:=hmem n (List.mem_of_getElem? hn)
        have hnl:=(List.getElem?_eq_some_iff.1 hx).1
        obtain ⟨n1,n2⟩:=JA8.1 hdx
        obtain ⟨o1,o2,o3⟩:=JS4 (r:=dr) hdx
        have htb:(dr:Int).tmod 9=((dr%9:Nat):Int):=rfl
        have hm9:=Nat.mod_lt dr (show 0<9 by omega)
        have hm10:((x.toNat:Int)-48+1+((dr%9:Nat):Int)).tmod 10=(((x.toNat-48+1+dr%9)%10:Nat):Int):=by rw [Int.tmod_eq_emod_of_nonneg (by omega)];omega
        have hm10l:=Nat.mod_lt (x.toNat-48+1+dr%9) (show 0<10 by omega)
        have hz:(48:Int)+(((x.toNat-48+1+dr%9)%10:Nat):Int)=(((JCZ x dr).toNat:Nat):Int):=by rw [o3];omega
        have k4:=JLh ((Qq s).set n (JCZ x dr)) (by rw [List.length_set];exact hlen)
        rw [show JAl ((Qq s).set n (JCZ x dr))=none by rw [hw] at hx ⊢;exact JU8 hx hdx o1 o2] at k4
        refine JB.exitS (Jb.ext (JY.hit (JB.assocS (JB.reg ?_))))
        have X:=((((((X.a hW).a e96).a htm).a hn).a htb).a hm10).a hz
        iterate 3 (refine JA.o1 Jv ?_)
        refine JA.nil ?_
        refine JB.cndS Jv (fun hb96=>?_) (fun hb96=>?_)
        ·exact absurd hb96 (by simp)
        ·skip
         refine JB.skipS (JB.reg ?_)
         iterate 2 (refine JA.o1 Jv ?_)
         refine JA.o1 V54 ?_
         iterate 2 (refine JA.o1 Jv ?_)
         refine JA.o1 V54 ?_
         refine JA.o1 V65 ?_
         iterate 2 (refine JA.o1 Jv ?_)
         refine JA.nil (JB.reg ?_)
         refine JA.o1 Jv ?_
         refine JA.stob 6106 (Qq s) JD JD (by omega) Tryz.underlying9 Tryz.underlying53 Tryz.underlying5 (fun _ _=>by simp only [go_sem]<;>rfl) ?_
         intro b0 c0
         refine JA.o1 Jv ?_
         refine JA.nil (JB.reg ?_)
         iterate 4 (refine JA.o1 Jv ?_)
         refine JA.val (JOQ (e:=5) JI JI (n:=(Qq s).length) (k:=n) JD JD hnl) JD JD ?_
         refine JA.val (JU1 (o:=6106) JI JI JD JD hx) JD JD ?_
         iterate 2 (refine JA.o1 V54 ?_)
         refine JA.o1 Jv ?_
         iterate 4 (refine JA.o1 V54 ?_)
         refine JA.val (JOQ (e:=5) JI JI (n:=(Qq s).length) (k:=n) JD JD hnl) JD JD ?_
         refine JA.bst (o:=6106) (k:=n) (z:=JCZ x dr) JI JD JD JD hnl JD ?_
         refine JA.nil (JB.reg ?_)
         refine JA.o1 Jv ?_
         refine JA.val (JU3 (o:=6106) (l:=(Qq s).set n (JCZ x dr)) Tryz.underlying53 Tryz.underlying5 Tryz.underlying9 (by simp only [go_sem,List.length_set]<;>rfl) JD) JD JD ?_
         refine JA.c1 (k4) Jv Jv ?_
         iterate 5 (refine JA.o1 Jv ?_)
         refine JA.nil (JB.reg ?_)
         iterate 2 (refine JA.o1 Jv ?_)
         refine JA.nil ?_
         refine JB.cnd Jv (fun hb128=>?_) (fun hb128=>?_)
         ·exact absurd hb128 (by simp)
         ·skip
          refine ZM.nrm (()) ?_ ?_
          ·trivial
          ·exact JO.kp [1,2,3,4,5] [] V98
    ·skip
     refine ZM.nrm (()) ?_ ?_
     ·trivial
     ·exact JO.kp [1,2,3,4,5] [] (by simp only [go_sem]<;>first|exact Ql|rfl)
   ·skip
    refine JB.reg ?_
    refine JA.o ?_
    refine JA.c1 (k2) JD JD ?_
    iterate 5 (refine JA.o ?_)
    refine JA.nil (JB.assocS ?_)
    refine JB.joinA [1,2,3,4,5,23,14,144] [] (fun (o:Unit)=>[.slot 144 (.bool false)]) (fun (o:Unit)=>True) (fun o=>by simp only [go_sem]<;>rfl) ?_ (fun o hj=>?_)
    ·skip
     by_cases c0:Yf g=0
     ·skip
      have e1:(Yf g==0)=true:=by rw [c0];rfl
      have e2:(!(decide ((ZL g).length=0)==decide (g.length=0)))=false:=JLU (JJJ c0)
      have e3:=JMD (ZL g)
      have e4:(((g.length:Nat):Int)==0)=decide (g.length=0):=by
       by_cases h:g.length=0
       ·rw [decide_eq_true h,h];rfl
       ·rw [decide_eq_false h];exact beq_eq_false_iff_ne.2 (by omega)
      refine JB.reg1 ?_
      have X:=(((Fx.mk e1).a e2).a e3).a e4
      iterate 3 (refine JA.o1 JC ?_)
      iterate 7 (refine JA.y1 JC ?_)
      refine JA.o1 JC ?_
      refine JA.nil ?_
      refine ZM.nrm (()) ?_ ?_
      ·trivial
      ·exact JO.kp [1,2,3,4,5,23,14,144] [] ZI
     ·skip
      have e1:(Yf g==0)=false:=by simpa using c0
      refine JB.reg1 ?_
      have X:=Fx.mk e1
      iterate 3 (refine JA.o1 JC ?_)
      iterate 7 (refine JA.s ?_)
      refine JA.o1 JC ?_
      refine JA.nil ?_
      refine ZM.nrm (()) ?_ ?_
      ·trivial
      ·exact JO.kp [1,2,3,4,5,23,14,144] [] ZI
    refine JB.cndS JD (fun hb144=>?_) (fun hb144=>?_)
    ·exact absurd hb144 (by simp)
    ·skip
     refine JB.skipS (JB.assocS ?_)
     refine JB.joinA [1,3,4,5,23,14,151] [] (fun (o:Unit)=>[.slot 151 (.bool (decide (Yf g=0∧g.length≠0)))]) (fun (o:Unit)=>True) (fun o=>by simp only [go_sem]<;>rfl) ?_ (fun o hj=>?_)
     ·skip
      by_cases c1:Yf g=0
      ·skip
       have e1:(Yf g==0)=true:=by rw [c1];rfl
       have u:decide (Yf g=0∧g.length≠0)=decide ((((ZL g).length:Nat):Int)>0):=by
        have:=JJJ c1
        by_cases h:g.length=0
        ·rw [decide_eq_false (fun q=>q.2 h),decide_eq_false (by omega)]
        ·rw [decide_eq_true ⟨c1,h⟩,decide_eq_true (by omega)]
       refine JB.reg1 ?_
       have X:=(Fx.mk e1).a u
       iterate 3 (refine JA.o1 JC ?_)
       iterate 3 (refine JA.y1 JC ?_)
       refine JA.o1 JC ?_
       refine JA.nil ?_
       refine ZM.nrm (()) ?_ ?_
       ·trivial
       ·exact JO.kp [1,3,4,5,23,14,151] [] ZI
      ·skip
       have e1:(Yf g==0)=false:=by simpa using c1
       have u:decide (Yf g=0∧g.length≠0)=false:=decide_eq_false (fun q=>c1 q.1)
       refine JB.reg1 ?_
       have X:=(Fx.mk e1).a u
       iterate 3 (refine JA.o1 JC ?_)
       iterate 3 (refine JA.s ?_)
       refine JA.o1 JC ?_
       refine JA.nil ?_
       refine ZM.nrm (()) ?_ ?_
       ·trivial
       ·exact JO.kp [1,3,4,5,23,14,151] [] ZI
     refine JB.joinA [1,3,4,5] [] (fun (o:Unit)=>[]) (fun (o:Unit)=>True) (fun o=>by simp only [go_sem]<;>rfl) ?_ (fun o hj=>?_)
     ·skip
      refine JB.cnd JD (fun hb151=>?_) (fun hb151=>?_)
      ·skip
       obtain ⟨ha,hs0⟩:=of_decide_eq_true hb151
       have hw:ZL g=YZ g:=if_pos ha
       have hs1:g≠[]:=fun e=>hs0 (by rw [e];rfl)
       have hlen:=JWU g
       have hpos:1≤(ZL g).length:=by have:=(JJJ ha).1;omega
       have t1:(((ZL g).length:Int)-1).toNat=(ZL g).length-1:=by omega
       have t2:List.take ((ZL g).length-1) (ZL g)=(ZL g).dropLast:=List.dropLast_eq_take.symm
       have hge:(0≤((ZL g).length:Int)-1)=True:=eq_true (by omega)
       have m3:=JQW (ZL g).dropLast (by rw [List.length_dropLast];omega)
       rw [show JAv (ZL g).dropLast=none by rw [hw];exact JTs hs1] at m3
       refine JB.reg ?_
       have X:=(((Fx.mk t1).a t2).a hge).a z8
       iterate 3 (refine JA.o1 Jv ?_)
       refine JA.o1 V54 ?_
       refine JA.o1 V65 ?_
       refine JA.c1 (m3) Jv Jv ?_
       iterate 5 (refine JA.o1 Jv ?_)
       refine JA.nil (JB.reg ?_)
       iterate 2 (refine JA.o1 Jv ?_)
       refine JA.nil ?_
       refine JB.cnd Jv (fun hb162=>?_) (fun hb162=>?_)
       ·exact absurd hb162 (by simp)
       ·skip
        refine ZM.nrm (()) ?_ ?_
        ·trivial
        ·exact JO.kp [1,3,4,5] [] V98
      ·skip
       refine ZM.nrm (()) ?_ ?_
       ·trivial
       ·exact JO.kp [1,3,4,5] [] (by simp only [go_sem]<;>first|exact Ql|rfl)
     ·skip
      refine JB.reg ?_
      refine JA.o ?_
      refine JA.c1 (k5) JD JD ?_
      iterate 5 (refine JA.o ?_)
      refine JA.nil (JB.assocS (JB.reg ?_))
      iterate 2 (refine JA.o ?_)
      refine JA.nil ?_
      refine JB.cndS JD (fun hb169=>?_) (fun hb169=>?_)
      ·skip
       have hne:Yo p≠0:=by simpa using hb169
       have hr:YA p=[]:=if_neg hne
       have h00:((((Jr ([]:Bs)).length:Nat):Int)==0)=true:=rfl
       refine JB.assocS (JB.reg ?_)
       have X:=(Fx.mk hr).a h00
       iterate 4 (refine JA.o1 JC ?_)
       refine JA.calw JD (JGv) JV JC JC (by exact trivial) (Qm) JC ?_
       iterate 2 (refine JA.o1 JC ?_)
       refine JA.nil (JB.retS ?_)
       exact Ends.fin [] (rs:=[.tmp 12]) rfl JC YV
      ·skip
       have he:Yo p=0:=by simpa using hb169
       have hw:YA p=JAm p:=if_pos he
       have hlen:(YA p).length≤5000:=by rw [hw];exact JT6 he
       have hpos:1≤(YA p).length:=List.length_pos_iff.2 (by rw [hw];exact JNs p)
       have hbl:=Y2 (YA p)
       have e178:(((YA p).length:Int)==0)=false:=beq_eq_false_iff_ne.2 (by omega)
       have t1:(((YA p).length:Int)-1).toNat=(YA p).length-1:=by omega
       have t2:List.take ((YA p).length-1) (Jr (YA p))=Jr (YA p).dropLast:=by rw [JP8,List.dropLast_eq_take]
       have hge:(0≤((YA p).length:Int)-1)=True:=eq_true (by omega)
       have q1:=JGu (YA p).dropLast (by rw [List.length_dropLast];omega)
       rw [show Zg (YA p).dropLast=none by rw [hw];exact JT4 he] at q1
       have q2:=JGu (YA p++[mc]) (by rw [List.length_append,List.length_singleton];omega)
       rw [show Zg (YA p++[mc])=none by rw [hw];exact JT7 he mc] at q2
       have hap:Jr (YA p)++[[.raw (.int .u8 (mc.toNat:Int))]]=Jr (YA p++[mc]):=(JLZ _ [mc]).symm
       have hbl2:(Jr (YA p++[mc])).length=(YA p).length+1:=by rw [Y2,List.length_append];rfl
       have hta:List.take ((YA p).length+1) (Jr (YA p++[mc]))=Jr (YA p++[mc]):=List.take_of_length_le (by rw [Y2,List.length_append,List.length_singleton];omega)
       refine JB.skipS (JB.assocS (JB.reg ?_))
       have X:=(((((((Fx.mk hbl).a e178).a t1).a t2).a hge).a z8).a hap).a hta
       iterate 3 (refine JA.o1 Jv ?_)
       refine JA.nil ?_
       refine JB.cndS Jv (fun hb178=>?_) (fun hb178=>?_)
       ·exact absurd hb178 (by simp)
       ·skip
        refine JB.skipS (JB.reg ?_)
        iterate 3 (refine JA.o1 Jv ?_)
        refine JA.o1 V54 ?_
        refine JA.o1 V65 ?_
        refine JA.c1 (q1) Jv Jv ?_
        iterate 5 (refine JA.o1 Jv ?_)
        refine JA.nil (JB.reg ?_)
        iterate 2 (refine JA.o1 Jv ?_)
        refine JA.o1 V5 ?_
        iterate 2 (refine JA.o1 Jv ?_)
        refine JA.o1 V5 ?_
        have X:=((Fx.mk hap).a hbl2).a hta
        refine JA.frz 189 (by simp only [go_sem,X.h,eq_self,if_true]<;>rfl) ?_
        have X:=(((((((Fx.mk hbl).a e178).a t1).a t2).a hge).a z8).a hap).a hta
        refine JA.c1 (q2) Jv Jv ?_
        iterate 5 (refine JA.o1 Jv ?_)
        refine JA.nil (JB.assocS (JB.reg ?_))
        iterate 3 (refine JA.o1 Jv ?_)
        iterate 2 (refine JA.y1 Jv ?_)
        refine JA.o1 Jv ?_
        refine JA.nil ?_
        refine JB.cndS Jv (fun hb203=>?_) (fun hb203=>?_)
        ·exact absurd hb203 (by simp)
        ·skip
         refine JB.skipS (JB.assocS (JB.reg ?_))
         iterate 3 (refine JA.o1 Jv ?_)
         refine JA.nil ?_
         refine JB.cndS Jv (fun hb206=>?_) (fun hb206=>?_)
         ·skip
          refine JB.assocS (JB.reg ?_)
          refine JA.c1 (JGv) Jv Jv ?_
          refine JA.o1 Jv ?_
          refine JA.nil (JB.retS ?_)
          exact Ends.fin [] (rs:=[.tmp 12]) rfl Jv (by simp only [go_sem,X.h,if_true,List.drop_zero]<;>first|rfl|exact Ql)
         ·skip
          have hp1:1≤p.length:=Nat.pos_of_ne_zero (fun h=>by have h2:(((p.length:Nat):Int)==0)=false:=hb206;rw [h] at h2;exact absurd h2 (by decide))
          have htw:(wh:Int).tmod (p.length:Int)=((wh%p.length:Nat):Int):=rfl
          obtain ⟨j,hj⟩:∃j,wh%p.length=j:=⟨_,rfl⟩
          rw [hj] at htw
          have hjl:j<p.length:=by have:=Nat.mod_lt wh (show 0<p.length by omega);omega
          obtain ⟨x,hx⟩:∃x,p[j]? = some x:=⟨_,List.getElem?_eq_getElem hjl⟩
          have tn:((1:Int)+(j:Int)).toNat=j+1:=by omega
          have m1:List.take (j+1) (List.map JAR p)=List.map JAR (p.take (j+1)):=List.map_take.symm
          have hge2:(0≤(1:Int)+(j:Int))=True:=eq_true (by omega)
          have hpl:=JT1 he hx
          rw [←hw] at hpl
          have kp:=JQV p j x he hx (by omega)
          have htd:(dr:Int).tmod 21=((dr%21:Nat):Int):=rfl
          have hm21:=Nat.mod_lt dr (show 0<21 by omega)
          obtain ⟨K,hK⟩:∃K,JBy p j x+dr%21=K:=⟨_,rfl⟩
          have hsum:((JBy p j x:Nat):Int)+((dr%21:Nat):Int)=(K:Int):=by omega
          have htq:(K:Int).tdiv 8=((K / 8:Nat):Int):=rfl
          have htr:(K:Int).tmod 8=((K%8:Nat):Int):=rfl
          have hK8:K / 8<(YA p).length:=by omega
          have d225:decide (((K / 8:Nat):Int)≥((YA p).length:Int))=false:=decide_eq_false (by omega)
          obtain ⟨c,hc⟩:∃c,(YA p)[K / 8]? = some c:=⟨_,List.getElem?_eq_getElem hK8⟩
          have hld:=JP3 hc
          have hsh:=JPZ (r:=K%8) (by omega)
          have hle:128 >>> (K%8)≤128:=by rw [Nat.shiftRight_eq_div_pow];exact Nat.div_le_self _ _
          have hxr:=JPg c (v:=128 >>> (K%8)) (by omega)
          obtain ⟨z,hz⟩:∃z,c ^^^ UInt8.ofNat (128 >>> (K%8))=z:=⟨_,rfl⟩
          have hset:(Jr (YA p)).set (K / 8) [.raw (.int .u8 (z.toNat:Int))]=Jr ((YA p).set (K / 8) z):=JP7 _ _ _
          have hbl3:(Jr ((YA p).set (K / 8) z)).length=(YA p).length:=by rw [Y2,List.length_set]
          have hta2:List.take (YA p).length (Jr ((YA p).set (K / 8) z))=Jr ((YA p).set (K / 8) z):=List.take_of_length_le (by rw [Y2,List.length_set];omega)
          have q3:=JGu ((YA p).set (K / 8) z) (by rw [List.length_set];omega)
          have hun:=JPF (YA p) K c hc
          rw [hz,hw,←hK] at hun
          rw [show Zg ((YA p).set (K / 8) z)=none by rw [←hK,hw];exact JT5 he hx hm21 hun] at q3
          rw [hz] at hxr
          refine JB.skipS (JB.reg ?_)
          have X:=((((((((((((((X.a htw).a tn).a m1).a hge2).a htd).a hsum).a htq).a htr).a d225).a hld).a hsh).a hxr).a hset).a hta2).a z88
          iterate 2 (refine JA.o1 Jv ?_)
          refine JA.o1 V54 ?_
          iterate 2 (refine JA.o1 Jv ?_)
          iterate 2 (refine JA.o1 V54 ?_)
          refine JA.o1 V65 ?_
          refine JA.c1 (kp) Jv Jv ?_
          refine JA.o1 Jv ?_
          iterate 3 (refine JA.o1 V54 ?_)
          refine JA.o1 Jv ?_
          refine JA.nil (JB.assocS (JB.reg ?_))
          refine JA.o1 Jv ?_
          refine JA.o1 V54 ?_
          iterate 3 (refine JA.o1 Jv ?_)
          refine JA.nil ?_
          refine JB.cndS Jv (fun hb225=>?_) (fun hb225=>?_)
          ·exact absurd hb225 (by simp)
          ·skip
           refine JB.skipS (JB.reg ?_)
           iterate 2 (refine JA.o1 Jv ?_)
           refine JA.o1 V5 ?_
           refine JA.o1 Jv ?_
           refine JA.nil ?_
           refine JB.opk 13 ?_
           iterate 2 (refine JF.o1 Jv ?_)
           refine JF.o1 V54 ?_
           refine JF.o1 V65 ?_
           iterate 2 (refine JF.o1 Jv ?_)
           refine JF.o1 V54 ?_
           iterate 2 (refine JF.o1 Jv ?_)
           refine JF.o1 V65 ?_
           refine JF.o1 Jv ?_
           refine JF.nil (Qs.fin QB QB ?_)
           refine JB.reg ?_
           refine JA.o1 Jv ?_
           have X:=((Fx.mk hset).a hbl3).a hta2
           refine JA.frz 226 (by simp only [go_sem,X.h,eq_self,if_true]<;>rfl) ?_
           have X:=((((((((((((((((((((((Fx.mk hbl).a e178).a t1).a t2).a hge).a z8).a hap).a hta).a htw).a tn).a m1).a hge2).a htd).a hsum).a htq).a htr).a d225).a hld).a hsh).a hxr).a hset).a hta2).a z88
           refine JA.c1 (q3) Jv Jv ?_
           iterate 5 (refine JA.o1 Jv ?_)
           refine JA.nil (JB.reg ?_)
           iterate 3 (refine JA.o1 Jv ?_)
           refine JA.calw JD (JGv) JV Jv Jv (by exact trivial) (Qm) Jv ?_
           iterate 2 (refine JA.o1 Jv ?_)
           refine JA.nil ?_
           exact Ends.fin [] (rs:=[.tmp 12]) rfl Jv (by simp only [go_sem,X.h,if_true,List.drop_zero]<;>first|rfl|exact Ql)
theorem JQC (s:List Sh)(p:List Pl)(g:List Pg)(m dr wh:Nat)(hs:s.length≤9223372036854775807)(hp:p.length≤9223372036854775807)(hg:g.length≤9223372036854775807)(hm:m≤255)(hdr:dr≤255)(hwh:wh≤65535) :
  Ja Tryz.prog 12 [.leaf (.d (JAY s)),.leaf (.d (JAK p)),.leaf (.d (JAU g)),.leaf (.d (.raw (.int .u8 m))),.leaf (.d (.raw (.int .u8 dr))),.leaf (.d (.raw (.int .u16 wh)))] (.bool true) []:=by
 obtain ⟨mc,rfl⟩:∃mc:UInt8,m=mc.toNat:=⟨UInt8.ofNat m,(JC2 (by omega)).symm⟩
 exact JQB s p g mc dr wh hs hp hg hdr hwh
end Go.Mw
namespace Go.Proofs.YtpmdcdglfeicaaaGreatDoor
open Go.Mw Go.ChangeShapes Go.WideShapes Go.ChangeAt Go.RowKit
theorem own:ownKnob Tryz.prog.godebug=none:=by kernel_rfl
theorem laidOut:laidOutB Tryz.prog=true:=by kernel_rfl
theorem JNl:(Rows.bookGuardsRow.laid.all fun x=>x.2.handleName?.isNone)=true:=by kernel_rfl
theorem gok {W:World}(hs:W.ShapedOpen Tryz.prog)(hL:laidMetH Tryz.prog Rows.bookGuardsRow.laid W):ZW Tryz.prog (fun b _=>b<W.heap.size) W:=
 ZW.of hL JNl rfl (g:=1) (t:=272) (e:=245) (n:=20) JI JI JI JI JI JI
  (m:=2) (tm:=3) (zero:=#[.int .i64 0]) JI hs QB JI JI JI JI JI
theorem lifted (os:Os)(started:os.Started)(H:Type)(enc:TypeId × Value→H) :
  ReturnsInHanded {} Tryz.checked os 12 .any (fun w args=>(Rows.bookGuardsSpec.pre enc Tryz.prog Tryz.f12 Rows.bookGuardsRow.domain false w args∧laidMetH Tryz.prog Rows.bookGuardsRow.laid w)∧sizedMet enc Tryz.prog Tryz.f12 (OpenSpec.ofChange Rows.bookGuardsSpec) false w args) (Rows.bookGuardsSpec.post enc Tryz.prog Tryz.f12 false true false false):=by
 refine JUc (C:=Tryz.checked) (X:=fun w _=>laidMetH Tryz.prog Rows.bookGuardsRow.laid w) (fun _ _ _ hh h=>h.of_heap hh) own started JI Tryz.func12
  (ChangeSpec.witness_shaped (enc:=enc) (C:=Tryz.checked) (os:=os) (X:=fun w _=>laidMetH Tryz.prog Rows.bookGuardsRow.laid w) false (World.laidAll Tryz.prog os Rows.bookGuardsRow.laid) #[.slice none 0 0,.slice none 0 0,.slice none 0 0,.int .u8 0,.int .u8 0,.int .u16 0] 8 (World.laidAll_os _ _ _)
   (World.shaped_of_ZipB JI JI) JI JI JI
   (by rw [MakeChecks.laidMetH_plain _ _ _ JNl];exact laidMet_laidAll _ JI JI)) ?_
 intro W base args ds gs before hval0 hW hsh hL
 have hval:∀(j:Nat) t v,Tryz.f12.params[j]? = some t→args[j]? = some v→Value.okWide Tryz.prog W .any base t v:=hval0
 have hW':=hW
 obtain ⟨p,q,hA0,hV,rfl,hfz,hnd⟩:=hW'
 have hA:DataW.TrodAll enc Tryz.prog W 0 (fun _=>true) true Tryz.f12.params.toList args.toList ds p:=hA0
 rw [Tryz.params12] at hA hval
 have hG:=gok hsh hL
 obtain ⟨v0,v1,v2,v3,v4,v5,d0,d1,d2,d3,d4,d5,p0,p1,p2,p3,p4,p5,rfl,rfl,rfl,h0,h1,h2,h3,h4,h5⟩:=JWA hA
 obtain ⟨rfl,rfl⟩:=trodVars_none hV
 obtain ⟨x0,l0,hx0⟩:=JU9 (hval 0 61 v0 rfl rfl) h0
 obtain ⟨x1,l1,hx1⟩:=JT8 (hval 1 52 v1 rfl rfl) h1
 obtain ⟨x2,l2,hx2⟩:=JTr (hval 2 28 v2 rfl rfl) h2
 obtain ⟨x3,l3,hx3⟩:=JPD (hval 3 5 v3 rfl rfl) h3
 obtain ⟨x4,l4,hx4⟩:=JPD (hval 4 5 v4 rfl rfl) h4
 obtain ⟨x5,l5,hx5⟩:=JWN (hval 5 80 v5 rfl rfl) h5
 refine (JUg (JQC x0 x1 x2 x3 x4 x5 l0 l1 l2 l3 l4 l5) W [v0,v1,v2,v3,v4,v5] ⟨hx0,hx1,hx2,hx3,hx4,hx5,trivial⟩ hG).mono fun e W' ⟨he,hb⟩=>?_
 exact ⟨_,he,JUA (tb:=4) hW hb rfl rfl rfl JI laidOut QB⟩
theorem z1:Tryz.pinned.checked.prog.inPlace 12=Rows.bookGuardsRow.inPlace:=by kernel_rfl
theorem z2:Tryz.pinned.checked.prog.unfollowed 12=Rows.bookGuardsRow.unfollowed:=by kernel_rfl
theorem z3:Tryz.pinned.checked.prog.recurses 12=Rows.bookGuardsRow.recurses:=by kernel_rfl
theorem z4:Tryz.pinned.checked.prog.varsNamed 12=Rows.bookGuardsRow.named:=by kernel_rfl
theorem closed:joinedFacts Tryz.pinned.checked.prog 12 Tryz.f12 Rows.bookGuardsSpec Rows.bookGuardsRow=true:=by
 unfold joinedFacts
 rw [z1,z2,z3,z4]
 kernel_rfl
theorem bare:Rows.BookGuardsSaid:=
 OpenClaim.holds_of_wide 12 Tryz.f12 rfl rfl rfl rfl rfl rfl rfl ⟨rfl,rfl,rfl,rfl,rfl⟩ rfl rfl rfl rfl rfl JI Tryz.func12 closed
  (of_decide_eq_true JI) (by unfold Func.isWrapper;first|(rw [if_pos QB];kernel_rfl)|(rw [if_neg QB];exact ⟨rfl,rfl⟩))
  (fun os started H enc _=>lifted os started H enc)
theorem holds:Rows.BookGuardsCardSaid:=
 Claim7.holds_tied_plain_at .later [] [.data,.data,.data,.data,.sentinel,.pinned] true (true, "a4c23813cb1a935b72d1bc74a8a412aa7df29762ec0388838dd8623dbac8462d") true
  bare (fun _ h=>by cases h) JI (fun _ h=>by cases h) bookGuards_row_tie rfl ⟨rfl,rfl⟩ JI rfl
  (fun f fn hf hfn=>by
   obtain rfl:f=12:=Option.some.inj ((show Tryz.prog.funcNamed "meterworks/meterworkslaw14.BookGuards" = some 12 by kernel_rfl).symm.trans hf) |>.symm
   obtain rfl:fn=Tryz.f12:=(Option.some.inj (Tryz.func12.symm.trans hfn)).symm
   exact ⟨by kernel_rfl,fun j t ht=>by
    rw [Tryz.params12] at ht
    have ht2:t∈Tryz.f12.params.toList:=by rw [Tryz.params12];exact List.mem_of_getElem? (by simpa using ht)
    exact (show ∀t∈Tryz.f12.params.toList,Tryz.prog.wantsStandIn t=false by decide +kernel) t ht2⟩)
  JI
end Go.Proofs.YtpmdcdglfeicaaaGreatDoor
#print axioms Go.Proofs.YtpmdcdglfeicaaaGreatDoor.holds

/- The statement BookBack, as a contract. -/
import Derived.Test.YtpmdcdglfeicaaaGreatDoorD1
import Derived.Test.YtpmdcdglfeicaaaGreatDoorB4
import Derived.Test.YtpmdcdglfeicaaaGreatDoorB11
import Derived.Test.YtpmdcdglfeicaaaGreatDoorB9
import Derived.Test.YtpmdcdglfeicaaaGreatDoorB10
import Derived.Test.YtpmdcdglfeicaaaGreatDoorB12
import Derived.Test.YtpmdcdglfeicaaaGreatDoorRows
import Derived.Test.YtpmdcdglfeicaaaGreatDoorCards
import Derived.Test.YtpmdcdglfeicaaaGreatDoorTie
import Derived.SevenTiedAt
import Derived.Stop.Joined
set_option maxRecDepth 100000
set_option maxHeartbeats 8000000
set_option linter.unusedSimpArgs false
set_option linter.unusedVariables false
set_option linter.unusedSectionVars false
set_option linter.deprecated false
namespace Go.Mw
open Go.Proofs
open Go.Bk
attribute [local go_sem] decide_true beq_self_eq_true bne_self_eq_false
theorem JVY (l:List Sh):(JB0 l).length≤3000:=by
 unfold JB0
 split
 ·next h=>
  obtain ⟨h1,h2,_⟩:=JCB h
  have:=JJ2 l h2;omega
 ·simp
theorem JVW (l:List Pg):(JBy l).length≤1000000:=by
 unfold JBy
 split
 ·next h=>
  obtain ⟨h1,h2,_⟩:=JCB h
  have:=JJc l h2;omega
 ·simp
theorem JVX (l:List Pl):(JBz l).length≤1000000:=by
 unfold JBz
 split
 ·next h=>
  obtain ⟨hch,h60⟩:=JIa h
  obtain ⟨h1,h2,_⟩:=JCB h
  have hx65:∀x∈l,x.num≤65535:=fun x hx=>by
   have h:=List.all_eq_true.1 h2 x hx
   unfold YR at h
   simp only [Bool.and_eq_true,ZI] at h
   omega
  have hk:=(JIZ l 0 hch ⟨by omega,by omega⟩ hx65 l.length).1
  rw [List.take_length] at hk
  unfold JEV
  rw [JES]
  unfold Yk Qe
  rw [List.length_append,List.length_append,List.length_replicate,Yf]
  omega
 ·simp
theorem JO3 {l:List Sh}(h:Y9 l=0):JBQ (JB0 l)=some l:=by
 rw [show JB0 l=YZ l from if_pos h];exact JTC.2 ⟨h,rfl⟩
theorem JO2 {l:List Pl}(h:ZL l=0):JAf (JBz l)=some l:=by
 rw [show JBz l=JEV l from if_pos h];exact JTB.2 ⟨h,rfl⟩
theorem JO1 {l:List Pg}(h:Y1 l=0):JA3 (JBy l)=some l:=by
 rw [show JBy l=Yw l from if_pos h];exact JS9.2 ⟨h,rfl⟩
theorem JPT (s:List Sh)(p:List Pl)(g:List Pg)(hs:s.length≤9223372036854775807)(hp:p.length≤9223372036854775807)(hg:g.length≤9223372036854775807):Jb Tryz.prog 10 [.leaf (.d (Z7 s)),.leaf (.d (JAU p)),.leaf (.d (Z6 g))] (.bool true) []:=by
 have k0:=JQJ s p g hs hp hg
 refine Jq Jd Tryz.func10 rfl (by simp only [List.length_cons,List.length_nil,Tryz.ntmps10];omega) JH rfl ?_
 refine JB.reg ?_
 refine JA.o ?_
 refine JA.nil (JB.assocS (JB.reg ?_))
 iterate 3 (refine JA.o ?_)
 refine JA.c1 (k0) JD JD ?_
 refine JA.nil ?_
 refine JB.cndS JD (fun hb20=>?_) (fun hb20=>?_)
 ·skip
  refine JB.assocS (JB.reg ?_)
  refine JA.c1 (JLU) JD JD ?_
  refine JA.o ?_
  refine JA.nil (JB.retS ?_)
  exact Ends.fin [] (rs:=[.tmp 6]) rfl JD Yn
 ·skip
  obtain ⟨⟨b1,b2⟩,b3,b4,b5⟩:=JR5 hb20
  have k1:=JLT s (by omega) (fun x hx=>by have:=b2 x hx;omega)
  have k2:=JQf s (by omega) (fun x hx=>by have:=b2 x hx;omega)
  have m1:=JLS p (by omega)
  have m2:=JQe p (by omega)
  have n1:=JLR g (by omega) (fun x hx=>by have:=b5 x hx;omega)
  have n2:=JQd g (by omega) (fun x hx=>by have:=b5 x hx;omega)
  have k4:=JPq s s (by omega) (by omega) (fun x hx=>by have:=b2 x hx;omega)
  rw [decide_eq_true (rfl:s=s)] at k4
  have m4:=JLQ p p (by omega) (by omega)
  rw [decide_eq_true (rfl:p=p)] at m4
  have n4:=JPp g g (by omega) (by omega) (fun x hx=>by have:=b5 x hx;omega)
  rw [decide_eq_true (rfl:g=g)] at n4
  have z0:((0:Int) != 0)=false:=rfl
  refine JB.skipS (JB.reg ?_)
  have X:=Fx.mk z0
  refine JA.o1 JX ?_
  refine JA.c1 (k1) JX JX ?_
  iterate 5 (refine JA.o1 JX ?_)
  refine JA.nil (JB.assocS ?_)
  refine JB.joinA [0,1,2,6,7,8,38] [] (fun (o:Unit)=>[.slot 38 (.bool false)]) (fun (o:Unit)=>True) (fun o=>by simp only [go_sem]<;>rfl) ?_ (fun o hj=>?_)
  ·skip
   by_cases a0:Y9 s=0
   ·skip
    have e1:(Y9 s != 0)=false:=by rw [a0];rfl
    refine JB.reg1 ?_
    have X:=X.a e1
    iterate 2 (refine JA.o1 JX ?_)
    refine JA.c1 (k2) JX JX ?_
    iterate 2 (refine JA.o1 JX ?_)
    iterate 3 (refine JA.y1 JX ?_)
    iterate 2 (refine JA.s ?_)
    refine JA.y1 JX ?_
    refine JA.o1 JX ?_
    refine JA.nil ?_
    refine ZR.nrm (()) ?_ ?_
    ·trivial
    ·exact JO.kp [0,1,2,6,7,8,38] [] JAK
   ·skip
    have e1:(Y9 s != 0)=true:=by simpa using a0
    have e2:JB0 s=[]:=if_neg a0
    have n0:(([]:Bs) != [])=false:=rfl
    refine JB.reg1 ?_
    have X:=((X.a e1).a e2).a n0
    iterate 2 (refine JA.o1 JX ?_)
    refine JA.c1 (k2) JX JX ?_
    iterate 2 (refine JA.o1 JX ?_)
    iterate 6 (refine JA.y1 JX ?_)
    refine JA.o1 JX ?_
    refine JA.nil ?_
    refine ZR.nrm (()) ?_ ?_
    ·trivial
    ·exact JO.kp [0,1,2,6,7,8,38] [] JAK
  refine JB.cndS JX (fun hb38=>?_) (fun hb38=>?_)
  ·exact absurd hb38 (by simp)
  ·skip
   refine JB.skipS (JB.assocS (JB.reg ?_))
   iterate 2 (refine JA.o1 JX ?_)
   refine JA.nil ?_
   refine JB.joinA [0,1,2,6] [] (fun (o:Unit)=>[]) (fun (o:Unit)=>True) (fun o=>by simp only [go_sem]<;>rfl) ?_ (fun o hj=>?_)
   ·skip
    refine JB.cnd JX (fun hb40=>?_) (fun hb40=>?_)
    ·skip
     have es:Y9 s=0:=by simpa using hb40
     have k3:=JPm (JB0 s) (JVY s)
     rw [JO3 es] at k3
     refine JB.reg ?_
     refine JA.o1 JX ?_
     refine JA.c1 (k3) JX JX ?_
     iterate 5 (refine JA.o1 JX ?_)
     refine JA.nil (JB.reg ?_)
     iterate 2 (refine JA.o1 JX ?_)
     refine JA.c1 (k4) JX JX ?_
     iterate 2 (refine JA.o1 JX ?_)
     iterate 2 (refine JA.y1 JX ?_)
     refine JA.o1 JX ?_
     refine JA.nil ?_
     refine JB.cnd JX (fun hb53=>?_) (fun hb53=>?_)
     ·exact absurd hb53 (by simp)
     ·skip
      refine ZR.nrm (()) ?_ ?_
      ·trivial
      ·exact JO.kp [0,1,2,6] [] JAK
    ·skip
     refine ZR.nrm (()) ?_ ?_
     ·trivial
     ·exact JO.kp [0,1,2,6] [] JAK
   ·skip
    refine JB.reg ?_
    refine JA.o1 JX ?_
    refine JA.c1 (m1) JX JX ?_
    iterate 5 (refine JA.o1 JX ?_)
    refine JA.nil (JB.assocS ?_)
    refine JB.joinA [0,1,2,6,8,11,71] [] (fun (o:Unit)=>[.slot 71 (.bool false)]) (fun (o:Unit)=>True) (fun o=>by simp only [go_sem]<;>rfl) ?_ (fun o hj=>?_)
    ·skip
     by_cases b0:ZL p=0
     ·skip
      have e1:(ZL p != 0)=false:=by rw [b0];rfl
      refine JB.reg1 ?_
      have X:=X.a e1
      iterate 2 (refine JA.o1 JX ?_)
      refine JA.c1 (m2) JX JX ?_
      iterate 2 (refine JA.o1 JX ?_)
      iterate 3 (refine JA.y1 JX ?_)
      iterate 3 (refine JA.s ?_)
      refine JA.y1 JX ?_
      refine JA.o1 JX ?_
      refine JA.nil ?_
      refine ZR.nrm (()) ?_ ?_
      ·trivial
      ·exact JO.kp [0,1,2,6,8,11,71] [] JAK
     ·skip
      have e1:(ZL p != 0)=true:=by simpa using b0
      have e2:JBz p=[]:=if_neg b0
      have n0:(((0:Nat):Int) != 0)=false:=rfl
      have n1:(Jy ([]:Bs)).length=0:=rfl
      refine JB.reg1 ?_
      have X:=(((X.a e1).a e2).a n0).a n1
      iterate 2 (refine JA.o1 JX ?_)
      refine JA.c1 (m2) JX JX ?_
      iterate 2 (refine JA.o1 JX ?_)
      iterate 7 (refine JA.y1 JX ?_)
      refine JA.o1 JX ?_
      refine JA.nil ?_
      refine ZR.nrm (()) ?_ ?_
      ·trivial
      ·exact JO.kp [0,1,2,6,8,11,71] [] JAK
    refine JB.cndS JX (fun hb71=>?_) (fun hb71=>?_)
    ·exact absurd hb71 (by simp)
    ·skip
     refine JB.skipS (JB.assocS (JB.reg ?_))
     iterate 2 (refine JA.o1 JX ?_)
     refine JA.nil ?_
     refine JB.joinA [0,1,2,6] [] (fun (o:Unit)=>[]) (fun (o:Unit)=>True) (fun o=>by simp only [go_sem]<;>rfl) ?_ (fun o hj=>?_)
     ·skip
      refine JB.cnd JX (fun hb73=>?_) (fun hb73=>?_)
      ·skip
       have es:ZL p=0:=by simpa using hb73
       have m3:=JLP (JBz p) (JVX p)
       rw [JO2 es] at m3
       refine JB.reg ?_
       refine JA.o1 JX ?_
       refine JA.c1 (m3) JX JX ?_
       iterate 5 (refine JA.o1 JX ?_)
       refine JA.nil (JB.reg ?_)
       iterate 2 (refine JA.o1 JX ?_)
       refine JA.c1 (m4) JX JX ?_
       iterate 2 (refine JA.o1 JX ?_)
       iterate 2 (refine JA.y1 JX ?_)
       refine JA.o1 JX ?_
       refine JA.nil ?_
       refine JB.cnd JX (fun hb86=>?_) (fun hb86=>?_)
       ·exact absurd hb86 (by simp)
       ·skip
        refine ZR.nrm (()) ?_ ?_
        ·trivial
        ·exact JO.kp [0,1,2,6] [] JAK
      ·skip
       refine ZR.nrm (()) ?_ ?_
       ·trivial
       ·exact JO.kp [0,1,2,6] [] JAK
     ·skip
      refine JB.reg ?_
      refine JA.o1 JX ?_
      refine JA.c1 (n1) JX JX ?_
      iterate 5 (refine JA.o1 JX ?_)
      refine JA.nil (JB.assocS ?_)
      refine JB.joinA [0,1,2,6,8,14,103] [] (fun (o:Unit)=>[.slot 103 (.bool false)]) (fun (o:Unit)=>True) (fun o=>by simp only [go_sem]<;>rfl) ?_ (fun o hj=>?_)
      ·skip
       by_cases c0:Y1 g=0
       ·skip
        have e1:(Y1 g != 0)=false:=by rw [c0];rfl
        refine JB.reg1 ?_
        have X:=X.a e1
        iterate 2 (refine JA.o1 JX ?_)
        refine JA.c1 (n2) JX JX ?_
        iterate 2 (refine JA.o1 JX ?_)
        iterate 3 (refine JA.y1 JX ?_)
        iterate 2 (refine JA.s ?_)
        refine JA.y1 JX ?_
        refine JA.o1 JX ?_
        refine JA.nil ?_
        refine ZR.nrm (()) ?_ ?_
        ·trivial
        ·exact JO.kp [0,1,2,6,8,14,103] [] JAK
       ·skip
        have e1:(Y1 g != 0)=true:=by simpa using c0
        have e2:JBy g=[]:=if_neg c0
        have n0:(([]:Bs) != [])=false:=rfl
        refine JB.reg1 ?_
        have X:=((X.a e1).a e2).a n0
        iterate 2 (refine JA.o1 JX ?_)
        refine JA.c1 (n2) JX JX ?_
        iterate 2 (refine JA.o1 JX ?_)
        iterate 6 (refine JA.y1 JX ?_)
        refine JA.o1 JX ?_
        refine JA.nil ?_
        refine ZR.nrm (()) ?_ ?_
        ·trivial
        ·exact JO.kp [0,1,2,6,8,14,103] [] JAK
      refine JB.cndS JX (fun hb103=>?_) (fun hb103=>?_)
      ·exact absurd hb103 (by simp)
      ·skip
       refine JB.skipS (JB.assocS (JB.reg ?_))
       iterate 2 (refine JA.o1 JX ?_)
       refine JA.nil ?_
       refine JB.joinA [0,1,2,6] [] (fun (o:Unit)=>[]) (fun (o:Unit)=>True) (fun o=>by simp only [go_sem]<;>rfl) ?_ (fun o hj=>?_)
       ·skip
        refine JB.cnd JX (fun hb105=>?_) (fun hb105=>?_)
        ·skip
         have es:Y1 g=0:=by simpa using hb105
         have n3:=JPl (JBy g) (Nat.le_trans (JVW g) (by decide))
         rw [JO1 es] at n3
         refine JB.reg ?_
         refine JA.o1 JX ?_
         refine JA.c1 (n3) JX JX ?_
         iterate 5 (refine JA.o1 JX ?_)
         refine JA.nil (JB.reg ?_)
         iterate 2 (refine JA.o1 JX ?_)
         refine JA.c1 (n4) JX JX ?_
         iterate 2 (refine JA.o1 JX ?_)
         iterate 2 (refine JA.y1 JX ?_)
         refine JA.o1 JX ?_
         refine JA.nil ?_
         refine JB.cnd JX (fun hb118=>?_) (fun hb118=>?_)
         ·exact absurd hb118 (by simp)
         ·skip
          refine ZR.nrm (()) ?_ ?_
          ·trivial
          ·exact JO.kp [0,1,2,6] [] JAK
        ·skip
         refine ZR.nrm (()) ?_ ?_
         ·trivial
         ·exact JO.kp [0,1,2,6] [] JAK
       ·skip
        refine JB.reg ?_
        refine JA.c1 (JLU) JX JX ?_
        refine JA.o1 JX ?_
        refine JA.nil ?_
        exact Ends.fin [] (rs:=[.tmp 6]) rfl JX JGR
end Go.Mw
namespace Go.Proofs.YtpmdcdglfeicaaaGreatDoor
open Go.Mw Go.ChangeShapes Go.WideShapes Go.ChangeAt Go.RowKit
theorem own:ownKnob Tryz.prog.godebug=none:=by kernel_rfl
theorem laidOut:laidOutB Tryz.prog=true:=by kernel_rfl
theorem JNH:(Rows.bookBackRow.laid.all fun x=>x.2.handleName?.isNone)=true:=by kernel_rfl
theorem gok {W:World}(hs:W.ShapedOpen Tryz.prog)(hL:laidMetH Tryz.prog Rows.bookBackRow.laid W):ZY Tryz.prog (fun b _=>b<W.heap.size) W:=
 ZY.of hL JNH rfl (g:=1) (t:=272) (e:=245) (n:=20) JH JH JH JH JH JH
  (m:=2) (tm:=3) (zero:=#[.int .i64 0]) JH hs J4 JH JH JH JH JH
theorem lifted (os:Os)(started:os.Started)(H:Type)(enc:TypeId × Value→H) :
  ReturnsInHanded {} Tryz.checked os 10 .any (fun w args=>(Rows.bookBackSpec.pre enc Tryz.prog Tryz.f10 Rows.bookBackRow.domain false w args∧laidMetH Tryz.prog Rows.bookBackRow.laid w)∧sizedMet enc Tryz.prog Tryz.f10 (OpenSpec.ofChange Rows.bookBackSpec) false w args) (Rows.bookBackSpec.post enc Tryz.prog Tryz.f10 false true false false):=by
 refine JTp (C:=Tryz.checked) (X:=fun w _=>laidMetH Tryz.prog Rows.bookBackRow.laid w) (fun _ _ _ hh h=>h.of_heap hh) own started JH Tryz.func10
  (ChangeSpec.witness_shaped (enc:=enc) (C:=Tryz.checked) (os:=os) (X:=fun w _=>laidMetH Tryz.prog Rows.bookBackRow.laid w) false (World.laidAll Tryz.prog os Rows.bookBackRow.laid) #[.slice none 0 0,.slice none 0 0,.slice none 0 0] 8 (World.laidAll_os _ _ _)
   (World.shaped_of_ZipB JH JH) JH JH JH
   (by rw [MakeChecks.laidMetH_plain _ _ _ JNH];exact laidMet_laidAll _ JH JH)) ?_
 intro W base args ds gs before hval0 hW hsh hL
 have hval:∀(j:Nat) t v,Tryz.f10.params[j]? = some t→args[j]? = some v→Value.okWide Tryz.prog W .any base t v:=hval0
 have hW':=hW
 obtain ⟨p,q,hA0,hV,rfl,hfz,hnd⟩:=hW'
 have hA:DataW.TrodAll enc Tryz.prog W 0 (fun _=>true) true Tryz.f10.params.toList args.toList ds p:=hA0
 rw [Tryz.params10] at hA hval
 have hG:=gok hsh hL
 obtain ⟨v0,v1,v2,d0,d1,d2,p0,p1,p2,rfl,rfl,rfl,h0,h1,h2⟩:=trodAll_three hA
 obtain ⟨rfl,rfl⟩:=trodVars_none hV
 obtain ⟨x0,l0,hx0⟩:=JUG (hval 0 61 v0 rfl rfl) h0
 obtain ⟨x1,l1,hx1⟩:=JTL (hval 1 52 v1 rfl rfl) h1
 obtain ⟨x2,l2,hx2⟩:=JS8 (hval 2 28 v2 rfl rfl) h2
 refine (JTt (JPT x0 x1 x2 l0 l1 l2) W [v0,v1,v2] ⟨hx0,hx1,hx2,trivial⟩ hG).mono fun e W' ⟨he,hb⟩=>?_
 exact ⟨_,he,JTN (tb:=4) hW hb rfl rfl rfl JH laidOut J4⟩
theorem z1:Tryz.pinned.checked.prog.inPlace 10=Rows.bookBackRow.inPlace:=by kernel_rfl
theorem z2:Tryz.pinned.checked.prog.unfollowed 10=Rows.bookBackRow.unfollowed:=by kernel_rfl
theorem z3:Tryz.pinned.checked.prog.recurses 10=Rows.bookBackRow.recurses:=by kernel_rfl
theorem z4:Tryz.pinned.checked.prog.varsNamed 10=Rows.bookBackRow.named:=by kernel_rfl
theorem closed:joinedFacts Tryz.pinned.checked.prog 10 Tryz.f10 Rows.bookBackSpec Rows.bookBackRow=true:=by
 unfold joinedFacts
 rw [z1,z2,z3,z4]
 kernel_rfl
theorem bare:Rows.BookBackSaid:=
 OpenClaim.holds_of_wide 10 Tryz.f10 rfl rfl rfl rfl rfl rfl rfl ⟨rfl,rfl,rfl,rfl,rfl⟩ rfl rfl rfl rfl rfl JH Tryz.func10 closed
  (of_decide_eq_true JH) (by unfold Func.isWrapper;first|(rw [if_pos J4];kernel_rfl)|(rw [if_neg J4];exact ⟨rfl,rfl⟩))
  (fun os started H enc _=>lifted os started H enc)
theorem holds:Rows.BookBackCardSaid:=
 Claim7.holds_tied_plain_at .later [] [.data,.data,.data,.data,.sentinel,.pinned] true (true, "a4c23813cb1a935b72d1bc74a8a412aa7df29762ec0388838dd8623dbac8462d") true
  bare (fun _ h=>by cases h) JH (fun _ h=>by cases h) bookBack_row_tie rfl ⟨rfl,rfl⟩ JH rfl
  (fun f fn hf hfn=>by
   obtain rfl:f=10:=Option.some.inj ((show Tryz.prog.funcNamed "meterworks/meterworkslaw14.BookBack" = some 10 by kernel_rfl).symm.trans hf) |>.symm
   obtain rfl:fn=Tryz.f10:=(Option.some.inj (Tryz.func10.symm.trans hfn)).symm
   exact ⟨by kernel_rfl,fun j t ht=>by
    rw [Tryz.params10] at ht
    have ht2:t∈Tryz.f10.params.toList:=by rw [Tryz.params10];exact List.mem_of_getElem? (by simpa using ht)
    exact (show ∀t∈Tryz.f10.params.toList,Tryz.prog.wantsStandIn t=false by decide +kernel) t ht2⟩)
  JH
end Go.Proofs.YtpmdcdglfeicaaaGreatDoor
#print axioms Go.Proofs.YtpmdcdglfeicaaaGreatDoor.holds

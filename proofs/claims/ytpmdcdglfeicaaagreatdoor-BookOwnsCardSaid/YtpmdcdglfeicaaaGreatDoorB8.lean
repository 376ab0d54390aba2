/- What a pen has written, as a string: the law of String; no condition but those in each. -/
import Derived.Test.YtpmdcdglfeicaaaGreatDoorD1
import Derived.Test.YtpmdcdglfeicaaaGreatDoorB6
import Derived.Test.YtpmdcdglfeicaaaGreatDoorB4
import Derived.Test.YtpmdcdglfeicaaaGreatDoorB7
import Derived.Shelf.Bytes.GrowSlice
import Derived.Lib.BufferAt
set_option maxHeartbeats 16000000
set_option maxRecDepth 100000
set_option linter.unusedSimpArgs false
set_option linter.unusedVariables false
set_option linter.unusedSectionVars false
set_option linter.deprecated false
namespace Go.Mw
open Go.Proofs Go.RowKit
theorem JVC {T b g cap:Nat}{p:Value}{l:List UInt8}{cur:Array Value}(w:World)(hbk:w.heap[b]? = some (.cells #[p,.slice (some ⟨g,0,none⟩) l.length cap] T (0,0)))(hg:w.heap[g]? = some (.cells cur 5 (0,0)))(hl:l≠[])(hcap:l.length≤cap)(hcm:cap≤maxLen)(hcs:cur.size=cap)
  (hcells:∀j u,(Lib.byteCells l)[j]? = some u→w.cell? ⟨g,j,none⟩=some u) :
  Calls Tryz.prog 50 #[.pointer (some ⟨b,0,none⟩)] w fun e w'=>e=.returned (.string ⟨l.toArray⟩)∧w'=w.drew.freeze ⟨g,0,none⟩ l.length:=by
 have hl0:l.length≠0:=fun h=>hl (List.eq_nil_of_length_eq_zero h)
 have c1:w.drew.cell? ⟨b,1,none⟩=some (.slice (some ⟨g,0,none⟩) l.length cap):=by
  have:w.drew.heap[b]? = some (.cells #[p,.slice (some ⟨g,0,none⟩) l.length cap] T (0,0)):=hbk
  rw [Lib.cell_of_heap this];rfl
 have hSD:(Builtin.unsafeSliceData_ #[53] 170 #[.slice (some ⟨g,0,none⟩) l.length cap]).run Tryz.prog w.drew=.ok (.pointer (some ⟨g,0,none⟩)) w.drew:=Lib.run_unsafeSliceData_row _ _ _ _ _ _ (by omega)
 have hUS:(Builtin.unsafeString_ #[170,3] 9 #[.pointer (some ⟨g,0,none⟩),.int .i64 l.length]).run Tryz.prog w.drew=.ok (.string ⟨l.toArray⟩) (w.drew.freeze ⟨g,0,none⟩ l.length):=by
  refine Lib.run_unsafeString_row w.drew 170 3 9 5 Tryz.underlying170 JJ g cur.size (by have hg':w.drew.heap[g]? = some (.cells cur 5 (0,0)):=hg;simp [World.shape?,hg']) l hl (by omega) (by unfold maxLen at hcm;omega) ?_
  intro j x hx
  have:=hcells j (.int .u8 x.toNat) (by simp [Lib.byteCells,hx])
  rw [Addr.add_lit,Nat.zero_add]
  exact this
 go_enter Tryz.func50,Tryz.ntmps50
 go_wp2
 go_region
 all_goals (go_wp2;go_ret;exact ⟨rfl,rfl⟩)
theorem JVD {T b:Nat}{p:Value}(w:World)(hbk:w.heap[b]? = some (.cells #[p,.slice none 0 0] T (0,0))) :
  Calls Tryz.prog 50 #[.pointer (some ⟨b,0,none⟩)] w fun e w'=>e=.returned (.string ⟨#[]⟩)∧w'=w.drew:=by
 have hUS:(Builtin.unsafeString_ #[170,3] 9 #[.pointer none,.int .i64 0]).run Tryz.prog w.drew=.ok (.string .empty) w.drew:=Lib.run_unsafeString_none w.drew _ _ _ none
 have hSD:(Builtin.unsafeSliceData_ #[53] 170 #[.slice none 0 0]).run Tryz.prog w.drew=.ok (.pointer none) w.drew:=Lib.run_unsafeSliceData_nil _ _ _ _ _
 have c1:w.drew.cell? ⟨b,1,none⟩=some (.slice none 0 0):=by
  have:w.drew.heap[b]? = some (.cells #[p,.slice none 0 0] T (0,0)):=hbk
  rw [Lib.cell_of_heap this];rfl
 go_enter Tryz.func50,Tryz.ntmps50
 go_wp2
 go_region
 all_goals (go_wp2;go_ret;exact ⟨rfl,rfl⟩)
theorem JRt (w:World)(p q:Addr)(n:Nat):(w.freeze p n).cell? q=w.cell? q:=by
 unfold World.freeze
 split
 ·rfl
 ·unfold World.cell?
  simp only [Array.getElem?_modify]
  by_cases h:p.block=q.block
  ·rw [if_pos h]
   cases hb:w.heap[q.block]? with
   |none=>rfl
   |some x=>cases x<;>rfl
  ·rw [if_neg h]
theorem JLE {S:Jc}{w:World}:∀ {l:List UInt8} {xs:List Value},JS (RepD S w) (l.map fun c=>D.raw (.int .u8 c.toNat)) xs→xs=Lib.byteCells l
 |[],[],_=>rfl
 |[],_::_,h=>h.elim
 |_::_,[],h=>h.elim
 |c::l,v::xs,h=>by rw [Qm h.1,JLE h.2];rfl
theorem JNI {A:JE}{x:Operand}{n q:Nat}{l:List UInt8}(hx:A.ev x=.leaf (.ptr n 0))(hn:A.obj n=some (.cells (YJ n q l)))(hq:A.obj q=some (.arr 5 1 (Jx l))) :
  ∀(C:Ctx Tryz.prog) (S:Jc) (M:J7) (ι:Nat→Value) (a:Act) (w:World),Jg C S M ι A a w→Calls Tryz.prog 50 ([x].map a.eval).toArray w fun e w'=>∃v,e=.returned v∧(∀S ι H w,Jk S ι H w (.str l) v) ∧
   ∃U:J7,(∀k,U k→∃o x,A.obj o=some x∧blk (ι o)=some k)∧Fr S U w w':=by
 intro C S M ι a w hR
 obtain ⟨b,vs,el,h1,h2,h3,h4,_⟩:=JEZ hR hx hn
 have ea:([x].map a.eval).toArray=#[.pointer (some ⟨b,0,none⟩)]:=by simp [h2]
 rw [ea]
 by_cases hl:l=[]
 ·subst hl
  rw [JHi] at h4
  match vs,h4 with
  |[p,s],h4=>
   have hs:=Qm h4.2.1
   subst hs
   refine (JVD w h3).mono fun e w' ⟨he,hw⟩=>⟨_,he,fun S ι H w=>⟨_,rfl,RepD.raw _ rfl⟩,fun _=>False,fun k h=>h.elim,?_⟩
   subst hw
   exact ⟨rfl,rfl,rfl,Nat.le_refl _,fun _ _ _=>rfl,fun _ _ _=>rfl⟩
 ·rw [JEY hl] at h4
  match vs,h4 with
  |[p,s],h4=>
   obtain ⟨_,e',k',es,hob,_,hval⟩:=h4.2.1
   rw [hq] at hob;cases hob
   have hs:s=ι q:=(hval (ZH l)).2.1 rfl rfl
   obtain ⟨xs,hown,hall,hkk,_,hS⟩:=hR.objs q _ hq
   rw [ZH] at hown
   rcases hown.2 with ⟨_,hz⟩|⟨g,cap,cur,u1,u2,u3,u4,u5,u6,u7⟩
   ·exact absurd (List.eq_nil_of_length_eq_zero hz) hl
   ·rw [u1] at hs
    subst hs
    have hcs:=hown.cells (g:=g) (by rw [u1];rfl)
    have hxs:xs=Lib.byteCells l:=by
     rw [JLC] at hall
     exact JLE hall
    rw [hxs] at hcs
    refine (JVC w h3 u3 hl u4 u5 (by rw [u6,Nat.mul_one]) (fun j u hj=>by have:=hcs j u hj;rw [Addr.add_lit] at this;simpa using this)).mono fun e w' ⟨he,hw⟩=>⟨_,he,fun S ι H w=>⟨_,rfl,RepD.raw _ rfl⟩,fun k=>k=g,fun k h=>⟨q,_,hq,by rw [u1,h];rfl⟩,?_⟩
    subst hw
    refine ⟨?_,?_,?_,?_,fun k hk hne=>?_,fun b o _=>JRt _ _ _ _⟩
    ·unfold World.freeze;split<;>rfl
    ·unfold World.freeze;split<;>rfl
    ·unfold World.freeze;split<;>rfl
    ·unfold World.freeze;split
     ·exact Nat.le_refl _
     ·simp
    ·unfold World.freeze
     split
     ·rfl
     ·simp only [Array.getElem?_modify]
      rw [if_neg (fun e=>hne e.symm)]
      rfl
end Go.Mw
namespace Go.Mw
open Go.Proofs
open Go.Bk
attribute [local go_sem] decide_true beq_self_eq_true bne_self_eq_false
theorem JGv (m:Int)(w:Nat)(c:UInt8)(h0:0≤m)(h1:m≤9223372036854775807)(hw:w≤1000):Jb Tryz.prog 81 [.int m,.int w,.str [c]] (.str (pad c w (Jz m.toNat))) []:=by
 have:=JQz m.toNat w c (by omega) hw
 rwa [Int.toNat_of_nonneg h0] at this
def rk (b:Bool)(x:Bs):AL:=.d (.raw (.string (bs (bif b then x else []))))
def Zd (t:Tr):List Bs:=[pad 32 6 (Jz t.flow.toNat),pad 32 7 (Jz t.pour.toNat),pad 32 7 (Jz t.shown.toNat)]
abbrev JT4 (t:Tr):AV:=.val true ((Zd t).map fun x=>.d (.raw (.string (bs x))))
def pos (t:Tr):Prop:=(0≤t.flow∧t.flow≤1000000000000000)∧(0≤t.pour∧t.pour≤1000000000000000)∧0≤t.shown∧t.shown≤1000000000000000
theorem JTd {t:Tr}(h:JA9 t=true):pos t:=by
 unfold JA9 at h
 simp only [Bool.and_eq_true,ZC] at h
 unfold pos;omega
theorem JPS (t:Tr):blanks (Zd t)=Bk.Yz t:=rfl
@[go_sem] theorem JXv (b:Bool)(x:Bs)(os:List Nat):AL.keep os (rk b x)=rk b x:=rfl
theorem JQw (t:Tr)(h:pos t):Jb Tryz.prog 83 [trV t] (JT4 t) []:=by
 obtain ⟨ha,hb,hc⟩:=h
 have f00:Nat.blt 0 0=false:=rfl
 have f01:Nat.blt 0 1=true:=rfl
 have f02:Nat.blt 0 2=true:=rfl
 have f03:Nat.blt 0 3=true:=rfl
 have f10:Nat.blt 1 0=false:=rfl
 have f11:Nat.blt 1 1=false:=rfl
 have f12:Nat.blt 1 2=true:=rfl
 have f13:Nat.blt 1 3=true:=rfl
 have f20:Nat.blt 2 0=false:=rfl
 have f21:Nat.blt 2 1=false:=rfl
 have f22:Nat.blt 2 2=false:=rfl
 have f23:Nat.blt 2 3=true:=rfl
 refine Js Jf Tryz.func83 rfl (by simp only [List.length_cons,List.length_nil,Tryz.ntmps83];omega) JJ rfl ?_
 refine JB.reg ?_
 have X:=(((((((((((Fx.mk f00).a f01).a f02).a f03).a f10).a f11).a f12).a f13).a f20).a f21).a f22).a f23
 iterate 2 (refine JA.o1 YA ?_)
 refine JA.nil (JB.assocS (JB.reg ?_))
 iterate 8 (refine JA.o1 YA ?_)
 refine JA.nil (JB.blk ?_)
 refine JB.forA [2,11,12] [2] (3) (fun k=>[.slot 12 (.int k),.obj 2 (.cells [rk (Nat.blt 0 k) (pad 32 6 (Jz t.flow.toNat)),rk (Nat.blt 1 k) (pad 32 7 (Jz t.pour.toNat)),rk (Nat.blt 2 k) (pad 32 7 (Jz t.shown.toNat))])]) (fun _=>True) (fun k=>by simp only [go_sem]<;>rfl) (by simp only [go_sem,X.h,rk,Zd,Int.natCast_zero,cond_true,cond_false]<;>rfl) ?_ (fun k hk hX=>?_)
 ·trivial
 ·skip
  by_cases h0:k=0
  ·skip
   subst h0
   have cz:((0:Nat):Int)=0:=rfl
   have ca:((0+1:Nat):Int)=1:=rfl
   refine JB.reg ?_
   have X:=(X.a cz).a ca
   refine JA.o1 YA ?_
   refine JA.nil ?_
   refine JB.cndS YA (fun hb13=>?_) (fun hb13=>?_)
   ·skip
    refine JB.skipS (JB.blk (JB.reg ?_))
    iterate 4 (refine JA.o1 YA ?_)
    refine JA.nil (JB.reg1 ?_)
    iterate 2 (refine JA.o1 YA ?_)
    refine JA.c1 (JIg) YA YA ?_
    iterate 2 (refine JA.o1 YA ?_)
    refine JA.c1 (JGv t.flow 6 32 ha.1 (by omega) (by omega)) YA YA ?_
    refine JA.o1 V74 ?_
    refine JA.o1 YA ?_
    refine JA.nil (JR.nrm (JB.reg1 ?_))
    refine JA.o1 V62 ?_
    refine JA.o1 YA ?_
    refine JA.nil ?_
    refine JU.nxt ?_ ?_ ?_
    ·omega
    ·exact JN.kp [2,11,12] [2] V22
    ·trivial
   ·exact absurd hb13 (by simp)
  ·skip
   by_cases h1:k=1
   ·skip
    subst h1
    have cz:((1:Nat):Int)=1:=rfl
    have ca:((1+1:Nat):Int)=2:=rfl
    refine JB.reg ?_
    have X:=(X.a cz).a ca
    refine JA.o1 YA ?_
    refine JA.nil ?_
    refine JB.cndS YA (fun hb13=>?_) (fun hb13=>?_)
    ·skip
     refine JB.skipS (JB.blk (JB.reg ?_))
     iterate 4 (refine JA.o1 YA ?_)
     refine JA.nil (JB.reg1 ?_)
     iterate 2 (refine JA.o1 YA ?_)
     refine JA.c1 (JIg) YA YA ?_
     iterate 2 (refine JA.o1 YA ?_)
     refine JA.c1 (JGv t.pour 7 32 hb.1 (by omega) (by omega)) YA YA ?_
     refine JA.o1 V74 ?_
     refine JA.o1 YA ?_
     refine JA.nil (JR.nrm (JB.reg1 ?_))
     refine JA.o1 V62 ?_
     refine JA.o1 YA ?_
     refine JA.nil ?_
     refine JU.nxt ?_ ?_ ?_
     ·omega
     ·exact JN.kp [2,11,12] [2] V22
     ·trivial
    ·exact absurd hb13 (by simp)
   ·skip
    by_cases h2:k=2
    ·skip
     subst h2
     have cz:((2:Nat):Int)=2:=rfl
     have ca:((2+1:Nat):Int)=3:=rfl
     refine JB.reg ?_
     have X:=(X.a cz).a ca
     refine JA.o1 YA ?_
     refine JA.nil ?_
     refine JB.cndS YA (fun hb13=>?_) (fun hb13=>?_)
     ·skip
      refine JB.skipS (JB.blk (JB.reg ?_))
      iterate 4 (refine JA.o1 YA ?_)
      refine JA.nil (JB.reg1 ?_)
      iterate 2 (refine JA.o1 YA ?_)
      refine JA.c1 (JIg) YA YA ?_
      iterate 2 (refine JA.o1 YA ?_)
      refine JA.c1 (JGv t.shown 7 32 hc.1 (by omega) (by omega)) YA YA ?_
      refine JA.o1 V74 ?_
      refine JA.o1 YA ?_
      refine JA.nil (JR.nrm (JB.reg1 ?_))
      refine JA.o1 V62 ?_
      refine JA.o1 YA ?_
      refine JA.nil ?_
      refine JU.nxt ?_ ?_ ?_
      ·omega
      ·exact JN.kp [2,11,12] [2] V22
      ·trivial
     ·exact absurd hb13 (by simp)
    ·skip
     have h3:k=3:=by omega
     subst h3
     have cz:((3:Nat):Int)=3:=rfl
     refine JB.reg ?_
     have X:=X.a cz
     refine JA.o1 YA ?_
     refine JA.nil ?_
     refine JB.cndS YA (fun hb13=>?_) (fun hb13=>?_)
     ·exact absurd hb13 (by simp)
     ·skip
      refine JB.exitS (JU.ext (JR.hit (JB.reg ?_)))
      iterate 2 (refine JA.o1 YA ?_)
      refine JA.nil ?_
      exact Ends.fin [] (rs:=[.cell 2 148]) rfl YA (by simp only [go_sem,X.h,rk,Zd]<;>first|rfl|exact QP)
theorem JI0 (a:Bs):blanks [a,chk a]=full a:=rfl
theorem JJ2 (t:Tr):blanks (Zd t++[chk (Bk.Yz t)])=full (Bk.Yz t):=by
 show pad 32 6 (Jz t.flow.toNat)++32::(pad 32 7 (Jz t.pour.toNat)++32::(pad 32 7 (Jz t.shown.toNat)++32::chk (Bk.Yz t)))=_
 unfold full
 conv=>rhs;lhs;unfold Bk.Yz
 simp
def wrT (b:Bs)(x:Sh)(j:Nat):Bs:=b++full (JBr x.meter)++[10]++ends 10 ((x.tries.take j).map fun t=>full (Bk.Yz t))
theorem JVs (b:Bs)(x:Sh):wrT b x 0=b++full (JBr x.meter)++[10]:=by simp [wrT,ends]
theorem JVr {b:Bs}{x:Sh}{j:Nat}{t:Tr}(h:x.tries[j]? = some t):wrT b x (j+1)=wrT b x j++full (Bk.Yz t)++[10]:=by
 unfold wrT
 rw [List.take_add_one,h,List.map_append,JEL]
 simp [ends]
theorem JVq {l:List Sh}{k:Nat}{x:Sh}(h:l[k]? = some x):wrT (ZD (l.take k)) x x.tries.length=ZD (l.take (k+1)):=by
 rw [List.take_add_one,h,JUQ]
 unfold wrT
 rw [List.take_length]
 simp [ZD,JCr,JET,ends]
theorem JMG {t:Tr}(h:JA9 t=true):(full (Bk.Yz t)).length=24:=by rw [JI1,JNq h]
theorem JLz {x:Sh}(h:JAO x=true):(ends 10 (JET x)).length≤160:=by
 unfold JAO at h
 simp only [Bool.and_eq_true,decide_eq_true_eq,ZC] at h
 obtain ⟨⟨h1,h2⟩,h3⟩:=h
 have ht:∀l:List Tr,l.all JA9=true→(ends 10 (l.map fun t=>full (Bk.Yz t))).length=25*l.length:=by
  intro l
  induction l with
  |nil=>exact fun _=>rfl
  |cons t l ih=>
   intro h
   simp only [List.all_cons,Bool.and_eq_true] at h
   rw [List.map_cons,JAm,List.length_append,List.length_cons,ih h.2,JMG h.1,List.length_cons];omega
 unfold JET
 rw [JAm,List.length_append,List.length_cons,ht _ h3,JI1,JMQ (by omega) h1.2];omega
theorem JOB:∀(l:List Sh),l.all JAO=true→(ZD l).length≤160*l.length
 |[],_=>by simp [ZD,JCr,ends]
 |x::l,h=>by
  simp only [List.all_cons,Bool.and_eq_true] at h
  have:=JOB l h.2
  have h1:=JLz h.1
  have e:ZD (x::l)=ends 10 (JET x)++ZD l:=by simp [ZD,JCr,JEL]
  rw [e,List.length_append,List.length_cons];omega
theorem JVp {b:Bs}{x:Sh}(h:JAO x=true)(j:Nat):(wrT b x j).length≤b.length+160:=by
 have h1:=JLz h
 unfold JET at h1
 rw [JAm] at h1
 have h2:(ends 10 ((x.tries.take j).map fun t=>full (Bk.Yz t))).length≤(ends 10 (x.tries.map fun t=>full (Bk.Yz t))).length:=by
  have e:x.tries.map (fun t=>full (Bk.Yz t))=(x.tries.take j).map (fun t=>full (Bk.Yz t))++(x.tries.drop j).map (fun t=>full (Bk.Yz t)):=by rw [←List.map_append,List.take_append_drop]
  rw [e,JEL,List.length_append];omega
 unfold wrT
 simp only [List.length_append,List.length_cons,List.length_nil] at h1 ⊢;omega
theorem JE2 {α:Type}{p:α→Bool}{l:List α}{k:Nat}{x:α}(h:l.all p=true)(hx:l[k]? = some x):p x=true:=List.all_eq_true.1 h x (List.mem_of_getElem? hx)
theorem JIW {α:Type}{p:α→Bool}{l:List α}(k:Nat)(h:l.all p=true):(l.take k).all p=true:=List.all_eq_true.2 fun x hx=>List.all_eq_true.1 h x (List.mem_of_mem_take hx)
def JGA (l:Bs)(e:Int):AV:=.tup [(false,[.d (.raw (.string (bs l)))]),(false,[.d (.i e)])]
theorem JLQ (l:List Sh)(hl:l.length≤1000)(hz:∀x∈l,x.tries.length≤1000):Jb Tryz.prog 30 [.leaf (.d (Z6 l))] (JGA (JH5 l) (JC2 l)) []:=by
 refine Js Jf Tryz.func30 rfl (by simp only [List.length_cons,List.length_nil,Tryz.ntmps30];omega) JJ rfl ?_
 refine JB.reg ?_
 iterate 2 (refine JA.o ?_)
 refine JA.nil (JB.assocS (JB.reg ?_))
 refine JA.o ?_
 refine JA.c1 (JQx l hl hz) JD JD ?_
 refine JA.o ?_
 refine JA.nil (JB.assocS (JB.reg ?_))
 iterate 2 (refine JA.o ?_)
 refine JA.nil ?_
 refine JB.cndS JD (fun hb15=>?_) (fun hb15=>?_)
 ·skip
  have hne:JC2 l≠0:=by simpa using hb15
  have hr:JH5 l=[]:=if_neg hne
  refine JB.assocS (JB.reg ?_)
  have X:=Fx.mk hr
  iterate 3 (refine JA.o1 JAR ?_)
  refine JA.nil (JB.retS ?_)
  exact Ends.fin [] (rs:=[.tmp 2,.tmp 3]) rfl JAR JDx
 ·skip
  have he0:JC2 l=0:=by simpa using hb15
  have hr:JH5 l=ZD l:=if_pos he0
  obtain ⟨h12,hok,_⟩:=JAn he0
  have hz0:ZD (l.take 0)=[]:=rfl
  refine JB.skipS (JB.reg ?_)
  refine JA.alcT 5990 JD JD (by omega) rfl JD ?_ 
  refine JA.arr0 5901 5 1 JD (by omega) (by omega) JD ?_ 
  refine JA.nil (JB.assocS (JB.reg ?_))
  iterate 3 (refine JA.o ?_)
  refine JA.nil (JB.blk ?_)
  have X:=Fx.mk hz0
  refine JB.forA [5,17,18,19] [5990,5901] (l.length) (fun k=>[.slot 19 (.int k),.obj 5990 (.cells (YJ 5990 5901 (ZD (l.take k)))),.obj 5901 (.arr 5 1 (Jx (ZD (l.take k))))]) (fun _=>True) (fun k=>by simp only [go_sem]<;>rfl) (by simp only [go_sem,X.h,Int.natCast_zero,JHi,JB7]<;>rfl) ?_ (fun k hk hX=>?_)
  ·trivial
  ·skip
   refine JB.reg ?_
   refine JA.o ?_
   refine JA.nil ?_
   refine JB.cndS JD (fun hb20=>?_) (fun hb20=>?_)
   ·skip
    have hlt:=Yk hb20
    obtain ⟨x,hx⟩:=Yj hb20
    have hxok:=JE2 hok hx
    have hxo:=hxok
    unfold JAO at hxo
    simp only [Bool.and_eq_true,decide_eq_true_eq,ZC] at hxo
    obtain ⟨⟨hm0,htn⟩,hta⟩:=hxo
    have hm:0≤x.meter∧x.meter≤9223372036854775807:=by omega
    have hhl:=JMQ (m:=x.meter) (by omega) (by omega)
    have hpl:(pad 48 6 (Jz x.meter.toNat)).length=6:=JFr _ (Zz (by omega) (by omega))
    have hbk:=JOB _ (JIW k hok)
    have hbl:(l.take k).length≤12:=by rw [List.length_take];omega
    have hhd:35::pad 48 6 (Jz x.meter.toNat)=JBr x.meter:=rfl
    have hfb:=JI0 (JBr x.meter)
    have hw0:=JVs (ZD (l.take k)) x
    refine JB.skipS (JB.blk (JB.reg ?_))
    have X:=((Fx.mk hx).a hhd).a hfb
    refine JA.o1 QE ?_
    iterate 3 (refine JA.o1 JC ?_)
    refine JA.nil (JB.reg ?_)
    iterate 2 (refine JA.o1 JC ?_)
    refine JA.c1 (JGv x.meter 6 48 hm.1 hm.2 (by omega)) JC JC ?_
    refine JA.o1 Jv ?_
    refine JA.o1 JC ?_
    refine JA.nil (JB.reg ?_)
    iterate 2 (refine JA.o1 JC ?_)
    refine JA.c1 (JLR (JBr x.meter) (by rw [hhl];omega)) JC JC ?_
    refine JA.o1 JC ?_
    refine JA.frz 30 JD ?_
    refine JA.lendG [(990,5990),(901,5901)] JD (JGr (ZD (l.take k)) [JBr x.meter,chk (JBr x.meter)] (by rw [JI0];simp [full]) (by simp) (by rw [JI0,JI1,hhl];omega)) JY (.inl ⟨[],by simp only [go_sem]<;>rfl,rfl⟩) JD V5 rfl (by decide) JDB ZT V37 Zc JD ?_
    refine JA.nil (JB.reg ?_)
    iterate 4 (refine JA.o1 JC ?_)
    refine JA.nil (JB.blk1 ?_)
    have X:=X.a hw0
    refine JB.forA [5,17,18,19,33,34,35] [5990,5901] (x.tries.length) (fun j=>[.slot 35 (.int j),.obj 5990 (.cells (YJ 5990 5901 (wrT (ZD (l.take k)) x j))),.obj 5901 (.arr 5 1 (Jx (wrT (ZD (l.take k)) x j)))]) (fun _=>True) (fun j=>by simp only [go_sem]<;>rfl) JGN ?_ (fun j hj Xj=>?_)
    ·trivial
    ·skip
     refine JB.reg ?_
     have X:=((Fx.mk hx).a hhd).a hfb
     refine JA.o1 JC ?_
     refine JA.nil ?_
     refine JB.cndS JC (fun hb36=>?_) (fun hb36=>?_)
     ·skip
      have hlt2:=Yk hb36
      obtain ⟨t,ht0⟩:=Yj hb36
      have ht:=JE2 hta ht0
      have htl:=JNq ht
      have hj:=JI5 (Zd t)
      rw [JPS] at hj
      have hwb:=JVp (b:=(ZD (l.take k))) hxok j
      have hws:=JVr (b:=(ZD (l.take k))) ht0
      have hrb:=JJ2 t
      refine JB.skipS (JB.blk (JB.reg ?_))
      have X:=((X.a ht0).a hj).a hrb
      refine JA.o1 QE ?_
      iterate 3 (refine JA.o1 JC ?_)
      refine JA.nil (JB.reg ?_)
      refine JA.o1 JC ?_
      refine JA.c1 (JQw t (JTd ht)) JC JC ?_
      iterate 2 (refine JA.o1 JC ?_)
      refine JA.nil ?_
      refine JB.opk1 9 ?_
      iterate 2 (refine JF.o1 QE ?_)
      refine JF.calC 11 (ds:=(Zd t).map fun x=>D.raw (.string (bs x))) (args:=[.str [32]]) (args0:=[.str [32]]) (show Jb Tryz.prog 84 [.leaf (.d (JEl (Zd t))),.str [32]] (.str (Lib.join (Zd t) [32])) [] from JLK (Zd t) [32] (by simp [Zd]) (by rw [hj,htl];omega)) JY JD JD JD (fun B=>rfl) JD JD ?_
      refine JF.cal (JLR (Bk.Yz t) (by rw [htl];omega)) JY JC Qc (YX) JC JD JD ?_
      refine JF.o1 JC ?_
      refine JF.appF 11 45 (ds:=(Zd t).map fun x=>D.raw (.string (bs x))) (es:=[[D.raw (.string (bs (chk (Bk.Yz t))))]]) (i:=Tryz.t9) (z:=.string ⟨#[]⟩) ⟨JD,JD,JD,JD,JD,Tryz.underlying92,JJ,⟨by kernel_rfl,by kernel_rfl,rfl⟩,by simp,⟨by simp [Zd],by rw [show Tryz.t9.bytes=16 by kernel_rfl];simp [Zd]⟩⟩ JD JD ?_ 
      refine JF.lendG (ds:=[]) [(990,5990),(901,5901)] JD (JGr (wrT (ZD (l.take k)) x j) (Zd t++[chk (Bk.Yz t)]) (by rw [JJ2];simp [full]) (by simp [Zd]) (by rw [JJ2,JMG ht];omega)) JY JD JD V27 rfl (by decide) JDB ZT V37 rfl JD JD JD ?_
      refine JF.nil (QO.fin QZ QZ ?_)
      refine JR.nrm (JB.reg1 ?_)
      refine JA.o1 Jv ?_
      refine JA.o1 JC ?_
      refine JA.nil ?_
      refine JU.nxt ?_ ?_ ?_
      ·omega
      ·exact JN.kp [5,17,18,19,33,34,35] [5990,5901] (by simp only [go_sem,X.h]<;>first|((repeat' (first|with_reducible_and_instances rfl|refine Q8 ?_ ?_ ?_|refine Q7 ?_|refine YL ?_|refine Q9 ?_ ?_|refine Q3 ?_|refine Q4 ?_|refine YN ?_|refine Q6 ?_ ?_|refine YI ?_ ?_|refine YK ?_|refine YF ?_|(refine Q5 ?_;omega)));all_goals (rw [hws]))|rfl)
      ·trivial
     ·skip
      have hje:j=x.tries.length:=by have:=Yo hb36;omega
      subst hje
      have hwe:=JVq hx
      refine JB.exitS (JU.ext (Qp.hit (JR.nrm (JB.reg1 ?_))))
      have X:=X.a hwe
      refine JA.o1 Jv ?_
      refine JA.o1 JC ?_
      refine JA.nil ?_
      refine JU.nxt ?_ ?_ ?_
      ·omega
      ·exact JN.kp [5,17,18,19] [5990,5901] ZA
      ·trivial
   ·skip
    have hke:l.length≤k:=Yo hb20
    have htk:l.take k=l:=List.take_of_length_le hke
    refine JB.exitS (JU.ext (JR.hit (JB.reg ?_)))
    have X:=((Fx.mk htk).a hr).a he0
    refine JA.o1 JAR ?_
    have X:=Fx.mk htk
    refine JA.eat (r:=.str (ZD l)) JY (JNI (n:=5990) (q:=5901) JD JC JC) ?_ 
    have X:=(X.a hr).a he0
    iterate 2 (refine JA.o1 JAR ?_)
    refine JA.nil ?_
    exact Ends.fin [] (rs:=[.tmp 2,.tmp 3]) rfl JAR JDx
end Go.Mw
namespace Go.Mw
open Go.Proofs
open Go.Bk
attribute [local go_sem] decide_true beq_self_eq_true bne_self_eq_false
@[go_sem] def Zt (g:Nat × Int):List D:=[.i g.1,.i g.2]
theorem Yf {α:Type}{l:List α}{k:Nat}{x:α}(h:l[k]? = some x):l.take (k+1)=l.take k++[x]:=by rw [List.take_add_one,h];rfl
theorem JUL (l:List Int):runs (Jm (l.take 1))=[]:=by cases l<;>rfl
theorem JUJ {l:List Int}{k:Nat}{x y:Int}(hx:l[k]? = some x)(hy:l[k-1]? = some y)(hk:0<k):runs (Jm (l.take (k+1)))=JCM (runs (Jm (l.take k))) (x-y):=by
 have hne:l.take k≠[]:=by
  intro h
  have:=congrArg List.length h
  rw [List.length_take] at this
  have:=(List.getElem?_eq_some_iff.1 hx).1
  simp only [List.length_nil] at *;omega
 have hl:Y9 (l.take k)=y:=by
  unfold Y9
  rw [List.getLast?_eq_getElem?,List.length_take]
  have:=(List.getElem?_eq_some_iff.1 hx).1
  rw [show min k l.length-1=k-1 by omega,List.getElem?_take,if_pos (by omega),hy];rfl
 rw [Yf hx,JEI _ _ hne,JJ7,hl]
theorem JTf (gs:List (Nat × Int))(d:Int):(JCM gs d).length≤gs.length+1:=by
 by_cases h0:gs=[]
 ·subst h0;exact Nat.le_refl 1
 ·obtain ⟨a,⟨n,e⟩,rfl⟩:∃a b,gs=a++[b]:=⟨_,_,(List.dropLast_concat_getLast h0).symm⟩
  rw [JEa]
  split<;>simp
theorem JF3 (ds:List Int):(runs ds).length≤ds.length:=by
 induction ds using JDi with
 |nil=>exact Nat.le_refl _
 |snoc ds d ih=>
  have:=JTf (runs ds) d
  rw [JJ7,List.length_append,List.length_singleton];omega
theorem JUP (gs:List (Nat × Int))(g h:Nat × Int):((gs++[g]).map Zt).set gs.length (Zt h)=(gs++[h]).map Zt:=by
 rw [List.map_append,List.map_append]
 have e:gs.length=(gs.map Zt).length:=by simp
 rw [e,List.set_append_right _ _ (Nat.le_refl _)]
 simp
theorem JR1 (gs:List (Nat × Int))(g:Nat × Int):((gs++[g]).map Zt)[gs.length]? = some (Zt g):=by simp
theorem JRz (l:List Int)(k:Nat)(gs:List (Nat × Int))(m:Nat)(e:Int)(h:runs (Jm (l.take k))=gs++[(m,e)]):m≤l.length:=by
 have h2:=(JF2 (Jm (l.take k))).2
 have h3:=JDj (runs (Jm (l.take k)))
 rw [h2,h,JBK,List.length_take] at h3
 unfold Ji at h3
 simp at h3
 omega
theorem JQN (l:List Int)(hl:l.length≤1000)(hb:∀n∈l,0≤n∧n≤1073741824):Jb Tryz.prog 47 [.leaf (.d (Qz l))] (.leaf (.own 1000 0 (runs (Jm l)).length (runs (Jm l)).length)) [(1000,.arr 96 2 ((runs (Jm l)).map Zt))]:=by
 have hz0:runs (Jm (l.take 0))=[]:=by simp [Jm,runs]
 have hz1:=JUL l
 refine Js Jf Tryz.func47 rfl (by simp only [List.length_cons,List.length_nil,Tryz.ntmps47];omega) JJ rfl ?_
 refine JB.reg ?_
 refine JA.o ?_
 refine JA.nil (JB.assocS (JB.reg ?_))
 refine JA.nilo 2 1000 96 2 JD JD (by omega) (by omega) JD ?_
 iterate 3 (refine JA.o ?_)
 refine JA.nil (JB.blk ?_)
 have X:=Fx.mk hz0
 refine JB.forA [0,2,6,7,8] [1000] (l.length) (fun k=>[.slot 8 (.int k),.slot 2 (.leaf (.own 1000 0 (runs (Jm (l.take k))).length (runs (Jm (l.take k))).length)),.obj 1000 (.arr 96 2 ((runs (Jm (l.take k))).map Zt))]) (fun _=>True) (fun k=>by simp only [go_sem]<;>rfl) (by simp only [go_sem,X.h,Int.natCast_zero,List.map_nil,List.length_nil]<;>rfl) ?_ (fun k hk hX=>?_)
 ·trivial
 ·skip
  refine JB.reg ?_
  refine JA.o ?_
  refine JA.nil ?_
  refine JB.cndS JD (fun hb9=>?_) (fun hb9=>?_)
  ·skip
   have hlt:=Yk hb9
   obtain ⟨x,hx⟩:=Yj hb9
   refine JB.skipS (JB.blk (JB.reg ?_))
   have X:=Fx.mk hx
   iterate 2 (refine JA.o1 JC ?_)
   refine JA.nil (JB.assocS (JB.reg ?_))
   iterate 2 (refine JA.o1 JC ?_)
   refine JA.nil ?_
   refine JB.cndS JC (fun hb12=>?_) (fun hb12=>?_)
   ·skip
    have hk0:k=0:=by have:=of_decide_eq_true hb12;omega
    subst hk0
    refine JB.exitS (JR.hit (JB.reg1 ?_))
    have X:=(X.a hz0).a hz1
    refine JA.o1 Jv ?_
    refine JA.o1 JC ?_
    refine JA.nil ?_
    refine JU.nxt ?_ ?_ ?_
    ·omega
    ·exact JN.kp [0,2,6,7,8] [1000] (by simp only [go_sem,X.h]<;>first|((repeat' (first|with_reducible_and_instances rfl|refine Q8 ?_ ?_ ?_|refine Q7 ?_|refine YL ?_|refine Q9 ?_ ?_|refine Q3 ?_|refine Q4 ?_|refine YN ?_|refine Q6 ?_ ?_|refine YI ?_ ?_|refine YK ?_|refine YF ?_|(refine Q5 ?_;omega)));all_goals (first|(rw [hz1];rfl)|omega))|rfl)
    ·trivial
   ·skip
    have hk0:0<k:=by have:=of_decide_eq_false hb12;omega
    obtain ⟨y,hy⟩:∃y,l[k-1]? = some y:=⟨_,List.getElem?_eq_getElem (by omega)⟩
    have hxb:=hb x (List.mem_of_getElem? hx)
    have hyb:=hb y (List.mem_of_getElem? hy)
    have t0:((k:Int)-1).toNat=k-1:=by omega
    have hw:IntKind.i64.wrap (x-y)=x-y:=IntWalk.i64_in _ (by omega)
    have hst:=JUJ hx hy hk0
    refine JB.skipS ?_
    by_cases hz:runs (Jm (l.take k))=[]
    ·skip
     have hn:=hst
     rw [hz] at hn
     have hn:runs (Jm (l.take (k+1)))=[(1,x-y)]:=hn
     have g1:decide (((0:Nat):Int)>0)=false:=rfl
     refine JB.opk 13 ?_
     have X:=((((X.a hy).a t0).a hw).a hz).a g1
     iterate 2 (refine JF.o1 JC ?_)
     refine JF.o1 QE ?_
     iterate 3 (refine JF.o1 JC ?_)
     refine JF.o1 Jv ?_
     refine JF.o1 QE ?_
     refine JF.o1 JC ?_
     refine JF.o1 Jv ?_
     refine JF.o1 JC ?_
     refine JF.nil (QO.fin QZ QZ ?_)
     refine JB.assocS (JB.reg ?_)
     iterate 3 (refine JA.o1 JC ?_)
     refine JA.nil (JB.assocS (JB.reg ?_))
     iterate 3 (refine JA.o1 JC ?_)
     iterate 8 (refine JA.s ?_)
     refine JA.o1 JC ?_
     refine JA.nil ?_
     refine JB.cndS JC (fun hb36=>?_) (fun hb36=>?_)
     ·exact absurd hb36 (by simp)
     ·skip
      refine JB.skipS (JB.reg1 ?_)
      iterate 4 (refine JA.o1 JC ?_)
      refine JA.o1 V4 ?_
      refine JA.o1 JC ?_
      refine JA.nil (JR.nrm (JB.reg1 ?_))
      refine JA.o1 Jv ?_
      refine JA.o1 JC ?_
      refine JA.nil ?_
      refine JU.nxt ?_ ?_ ?_
      ·omega
      ·exact JN.kp [0,2,6,7,8] [1000] (by simp only [go_sem,X.h]<;>first|((repeat' (first|with_reducible_and_instances rfl|refine Q8 ?_ ?_ ?_|refine Q7 ?_|refine YL ?_|refine Q9 ?_ ?_|refine Q3 ?_|refine Q4 ?_|refine YN ?_|refine Q6 ?_ ?_|refine YI ?_ ?_|refine YK ?_|refine YF ?_|(refine Q5 ?_;omega)));all_goals (first|(rw [hn];rfl)|omega))|rfl)
      ·trivial
    ·skip
     obtain ⟨gs,⟨m,e⟩,hg⟩:∃a b,runs (Jm (l.take k))=a++[b]:=⟨_,_,(List.dropLast_concat_getLast hz).symm⟩
     have hgl:(gs++[(m,e)]).length=gs.length+1:=by simp
     have g1:decide (((gs.length+1:Nat):Int)>0)=true:=decide_eq_true (by omega)
     have g1b:decide ((gs.length:Int)+1>0)=true:=decide_eq_true (by omega)
     have t1:((gs.length:Int)+1-1).toNat=gs.length:=by omega
     have t2:(((gs.length+1:Nat):Int)-1).toNat=gs.length:=by omega
     have hget:=JR1 gs (m,e)
     have hml:=JRz l k gs m e hg
     have hrl:=JF3 (Jm (l.take k))
     rw [hg,hgl,JBK,List.length_take] at hrl
     have hwn:IntKind.i64.wrap (((gs.length+1:Nat):Int)-1)=(gs.length:Int):=by rw [IntWalk.i64_in _ (by omega)];omega
     by_cases he:e=x-y
     ·skip
      subst he
      have hn:=hst
      rw [hg,JEa,if_pos rfl] at hn
      have hset:=JUP gs (m,x-y) (m+1,x-y)
      have hset2:Zt (m+1,x-y)=[.i ((m+1:Nat):Int),.i (x-y)]:=rfl
      rw [hset2] at hset
      have hn2:(gs++[(m+1,x-y)]).length=gs.length+1:=by simp
      have hbq:((x-y)==(x-y))=true:=beq_self_eq_true _
      have hmc:IntKind.i64.wrap ((m:Int)+1)=((m+1:Nat):Int):=by rw [IntWalk.i64_in _ (by omega)];omega
      refine JB.opk 13 ?_
      have X:=(((((((((((((X.a hy).a t0).a hw).a hg).a hgl).a g1).a g1b).a t1).a t2).a hget).a hwn).a hbq).a hmc).a hset
      iterate 2 (refine JF.o1 JC ?_)
      refine JF.o1 QE ?_
      iterate 3 (refine JF.o1 JC ?_)
      refine JF.o1 Jv ?_
      refine JF.o1 QE ?_
      refine JF.o1 JC ?_
      refine JF.o1 Jv ?_
      refine JF.o1 JC ?_
      refine JF.nil (QO.fin QZ QZ ?_)
      refine JB.assocS (JB.reg ?_)
      iterate 3 (refine JA.o1 JC ?_)
      refine JA.nil (JB.assocS (JB.reg ?_))
      iterate 3 (refine JA.o1 JC ?_)
      iterate 2 (refine JA.y1 JC ?_)
      refine JA.y1 Jv ?_
      refine JA.y1 QE ?_
      iterate 4 (refine JA.y1 JC ?_)
      refine JA.o1 JC ?_
      refine JA.nil ?_
      refine JB.cndS JC (fun hb36=>?_) (fun hb36=>?_)
      ·skip
       refine JB.assocS (JB.reg ?_)
       iterate 2 (refine JA.o1 JC ?_)
       refine JA.o1 Jv ?_
       refine JA.o1 QE ?_
       iterate 2 (refine JA.o1 JC ?_)
       refine JA.o1 Jv ?_
       refine JA.o1 QE ?_
       iterate 2 (refine JA.o1 JC ?_)
       refine JA.nil (JB.exitS (JR.hit (JB.reg1 ?_)))
       refine JA.o1 Jv ?_
       refine JA.o1 JC ?_
       refine JA.nil ?_
       refine JU.nxt ?_ ?_ ?_
       ·omega
       ·exact JN.kp [0,2,6,7,8] [1000] (by simp only [go_sem,X.h]<;>first|((repeat' (first|with_reducible_and_instances rfl|refine Q8 ?_ ?_ ?_|refine Q7 ?_|refine YL ?_|refine Q9 ?_ ?_|refine Q3 ?_|refine Q4 ?_|refine YN ?_|refine Q6 ?_ ?_|refine YI ?_ ?_|refine YK ?_|refine YF ?_|(refine Q5 ?_;omega)));all_goals (first|(rw [hn];done)|(rw [hn];simp;done)|omega))|rfl)
       ·trivial
      ·exact absurd hb36 (by simp)
     ·skip
      have hn:=hst
      rw [hg,JEa,if_neg he] at hn
      have hbq:(e==(x-y))=false:=by simpa using he
      refine JB.opk 13 ?_
      have X:=(((((((((((X.a hy).a t0).a hw).a hg).a hgl).a g1).a g1b).a t1).a t2).a hget).a hwn).a hbq
      iterate 2 (refine JF.o1 JC ?_)
      refine JF.o1 QE ?_
      iterate 3 (refine JF.o1 JC ?_)
      refine JF.o1 Jv ?_
      refine JF.o1 QE ?_
      refine JF.o1 JC ?_
      refine JF.o1 Jv ?_
      refine JF.o1 JC ?_
      refine JF.nil (QO.fin QZ QZ ?_)
      refine JB.assocS (JB.reg ?_)
      iterate 3 (refine JA.o1 JC ?_)
      refine JA.nil (JB.assocS (JB.reg ?_))
      iterate 3 (refine JA.o1 JC ?_)
      iterate 2 (refine JA.y1 JC ?_)
      refine JA.y1 Jv ?_
      refine JA.y1 QE ?_
      iterate 4 (refine JA.y1 JC ?_)
      refine JA.o1 JC ?_
      refine JA.nil ?_
      refine JB.cndS JC (fun hb36=>?_) (fun hb36=>?_)
      ·exact absurd hb36 (by simp)
      ·skip
       refine JB.skipS (JB.reg1 ?_)
       iterate 4 (refine JA.o1 JC ?_)
       refine JA.o1 V4 ?_
       refine JA.o1 JC ?_
       refine JA.nil (JR.nrm (JB.reg1 ?_))
       refine JA.o1 Jv ?_
       refine JA.o1 JC ?_
       refine JA.nil ?_
       refine JU.nxt ?_ ?_ ?_
       ·omega
       ·exact JN.kp [0,2,6,7,8] [1000] (by simp only [go_sem,X.h]<;>first|((repeat' (first|with_reducible_and_instances rfl|refine Q8 ?_ ?_ ?_|refine Q7 ?_|refine YL ?_|refine Q9 ?_ ?_|refine Q3 ?_|refine Q4 ?_|refine YN ?_|refine Q6 ?_ ?_|refine YI ?_ ?_|refine YK ?_|refine YF ?_|(refine Q5 ?_;omega)));all_goals (first|(rw [hn];simp [Zt];done)|(rw [hn];simp;omega)|omega))|rfl)
       ·trivial
  ·skip
   have hke:l.length≤k:=Yo hb9
   have htk:l.take k=l:=List.take_of_length_le hke
   refine JB.exitS (JU.ext (JR.hit (JB.reg ?_)))
   have X:=Fx.mk htk
   iterate 2 (refine JA.o1 JC ?_)
   refine JA.nil ?_
   exact Ends.fin [1000] (rs:=[.tmp 2]) rfl JC Qs
theorem JLU (l:List Int)(hl:l.length≤1000)(hb:∀n∈l,0≤n∧n≤1073741824):Jb Tryz.prog 47 [.leaf (.d (Qz l))] (.leaf (.d (.sl 2 ((runs (Jm l)).map Zt)))) []:=
 Jb.gho (JQN l hl hb) (by
  have ht:List.take (runs (Jm l)).length (List.map Zt (runs (Jm l)))=List.map Zt (runs (Jm l)):=List.take_of_length_le (by simp)
  have e:(JE.mk [(0,.leaf (.own 1000 0 (runs (Jm l)).length (runs (Jm l)).length))] [(1000,.arr 96 2 ((runs (Jm l)).map Zt))] (.ret (.leaf (.d (.sl 2 ((runs (Jm l)).map Zt)))) [])).frz 1000=⟨[(0,.leaf (.d (.sl 2 ((runs (Jm l)).map Zt))))],[],.ret (.leaf (.d (.sl 2 ((runs (Jm l)).map Zt)))) []⟩:=by
   simp only [go_sem,ht]<;>rfl
  exact e▸JN.frz _ 1000)
theorem JLd (g:Nat × Int)(h1:g.1≤1000)(h2:0≤g.2)(h3:g.2≤1073741824):Jb Tryz.prog 48 [.val true ((Zt g).map .d)] (.str (Y8 g)) []:=by
 have hta:=Zz (n:=g.1) (k:=20) (by omega) (by omega)
 have htb:=Zz (n:=g.2.toNat) (k:=20) (by omega) (by omega)
 refine Js Jf Tryz.func48 rfl (by simp only [List.length_cons,List.length_nil,Tryz.ntmps48];omega) JJ rfl ?_
 refine JB.reg ?_
 iterate 2 (refine JA.o ?_)
 refine JA.nil (JB.assocS (JB.reg ?_))
 iterate 3 (refine JA.o ?_)
 refine JA.nil ?_
 refine JB.cndS JD (fun hb5=>?_) (fun hb5=>?_)
 ·skip
  have h:g.1=1:=by have:=hb5;simp at this;omega
  have hr:Y8 g=Jz g.2.toNat:=if_pos h
  refine JB.assocS (JB.reg ?_)
  have X:=Fx.mk hr
  iterate 2 (refine JA.o1 JC ?_)
  refine JA.c1 (JGl g.2 h2 (by omega)) JC JC ?_
  refine JA.o1 JC ?_
  refine JA.nil (JB.retS ?_)
  exact Ends.fin [] (rs:=[.tmp 2]) rfl JC Qs
 ·skip
  have h:g.1≠1:=by have:=hb5;simp at this;omega
  have hr:Y8 g=Jz g.1++120::Jz g.2.toNat:=if_neg h
  refine JB.skipS ?_
  refine JB.opk 11 ?_
  have X:=Fx.mk hr
  iterate 2 (refine JF.o1 JC ?_)
  refine JF.cal (JGm g.1 (by omega)) JY JC Qc (YX) JC JD JD ?_
  refine JF.o1 Jv ?_
  iterate 2 (refine JF.o1 JC ?_)
  refine JF.cal (JGl g.2 h2 (by omega)) JY JC Qc (YX) JC JD JD ?_
  refine JF.o1 Jv ?_
  refine JF.o1 JC ?_
  refine JF.nil (QO.fin QZ QZ ?_)
  exact Ends.fin [] (rs:=[.tmp 2]) rfl JC (by simp only [go_sem,X.h]<;>first|rfl|((repeat' (first|with_reducible_and_instances rfl|refine Q8 ?_ ?_ ?_|refine Q7 ?_|refine YL ?_|refine Q9 ?_ ?_|refine Q3 ?_|refine Q4 ?_|refine YN ?_|refine Q6 ?_ ?_|refine YI ?_ ?_|refine YK ?_|refine YF ?_|(refine Q5 ?_;omega)));all_goals (simp;done)))
end Go.Mw
namespace Go.Mw
open Go.Proofs
open Go.Bk
attribute [local go_sem] decide_true beq_self_eq_true bne_self_eq_false
def JBC (x:Pg):List Bs:=Jz x.house.toNat::(match x.reads with
 |[]=>[]
 |r::_=>[Jz r.toNat])
def YE (x:Pg)(j:Nat):List Bs:=JBC x++((runs (Jm x.reads)).take j).map Y8
theorem JKS (x:Pg):YE x 0=JBC x:=by simp [YE]
theorem JGJ {x:Pg}{j:Nat}{g:Nat × Int}(h:(runs (Jm x.reads))[j]? = some g):YE x (j+1)=YE x j++[Y8 g]:=by
 unfold YE
 rw [Yf h,List.map_append,List.append_assoc];rfl
theorem JH6 (x:Pg):YE x (runs (Jm x.reads)).length=Ym x:=by
 unfold YE JBC Ym
 rw [List.take_length]
 cases hr:x.reads with
 |nil=>rfl
 |cons r t=>simp
theorem JOv {x:Pg}(h:YT x=true)(j:Nat):(YE x j).length≤100:=by
 unfold YT at h
 simp only [Bool.and_eq_true,decide_eq_true_eq] at h
 have h2:=h.1.1.2
 have hrl:=JF3 (Jm x.reads)
 rw [JBK] at hrl
 have hp:(JBC x).length≤2:=by unfold JBC;split<;>simp
 unfold YE
 rw [List.length_append,List.length_map,List.length_take];omega
theorem JNB {l:List Pg}{k:Nat}{x:Pg}(h:l[k]? = some x):YY (l.take (k+1))=YY (l.take k)++ZK x++[10]:=by
 rw [Yf h,JTR];simp [YY,ends]
theorem JMb (x:Pg):ZK x≠[]:=by
 unfold ZK Ym
 split
 ·exact JKM _
 ·rw [JB5 _ (by simp)];simp
theorem JK7:∀(ws:List Bs) (n:Nat),(∀w∈ws,w.length≤n)→(blanks ws).length≤ws.length*(n+1)
 |[],n,_=>by simp [blanks]
 |[a],n,h=>by have:=h a (by simp);simp [blanks];omega
 |a::b::l,n,h=>by
  have h1:=JK7 (b::l) n fun w hw=>h w (by simp [hw])
  have h2:=h a (by simp)
  rw [JB5 a (by simp),List.length_append,List.length_cons,List.length_cons,Nat.succ_mul]
  omega
theorem JKT {x:Pg}(h:YT x=true):(Ym x).length≤17∧∀w∈Ym x,w.length≤24:=by
 have h':=h
 unfold YT at h'
 simp only [Bool.and_eq_true,decide_eq_true_eq,ZC] at h'
 obtain ⟨⟨⟨h1,h2⟩,h3⟩,h4⟩:=h'
 have h3':=List.all_eq_true.1 h3
 unfold Ym
 cases hr:x.reads with
 |nil=>exact ⟨by simp,fun w hw=>by simp at hw;subst hw;have:=Zz (n:=x.house.toNat) (k:=20) (by omega) (by omega);omega⟩
 |cons r t=>
  have hp:=JDX h hr
  have hrl:=JF3 (Jm x.reads)
  rw [JBK,hr] at hrl
  rw [hr] at h2
  simp only [List.length_cons] at h2 hrl
  refine ⟨by simp only [List.length_cons,List.length_map];rw [←hr] at *;rw [hr] at hrl ⊢;omega,fun w hw=>?_⟩
  have hr0:=ZC.1 (h3' r (by rw [hr];simp))
  simp only [List.mem_cons] at hw
  rcases hw with rfl|rfl|hw
  ·have:=Zz (n:=x.house.toNat) (k:=20) (by omega) (by omega);omega
  ·have:=Zz (n:=r.toNat) (k:=20) (by omega) (by omega);omega
  ·obtain ⟨g,hg,rfl⟩:=List.mem_map.1 hw
   rw [←hr] at hg
   have hb:=hp.by0 g hg
   have hn:g.1≤16:=by
    have hl:=hp.len
    have:g.1≤Ji (runs (Jm x.reads)):=by
     have hm:g.1∈(runs (Jm x.reads)).map Prod.fst:=List.mem_map.2 ⟨g,hg,rfl⟩
     unfold Ji
     generalize (runs (Jm x.reads)).map Prod.fst=q at hm
     induction q with
     |nil=>cases hm
     |cons a q ih=>
      rcases List.mem_cons.1 hm with e|e
      ·subst e;simp
      ·have:=ih e;simp;omega
    omega
   have ha:=Zz (n:=g.1) (k:=2) (by omega) (by omega)
   have hb2:=Zz (n:=g.2.toNat) (k:=20) (by omega) (by omega)
   unfold Y8
   split
   ·omega
   ·simp only [List.length_append,List.length_cons];omega
theorem JES {x:Pg}(h:YT x=true):(ZK x).length≤425:=by
 obtain ⟨h1,h2⟩:=JKT h
 have:=JK7 (Ym x) 24 h2
 unfold ZK
 have h3:(Ym x).length*25≤17*25:=Nat.mul_le_mul_right _ h1
 omega
theorem JJi:∀(l:List Pg),l.all YT=true→(YY l).length≤426*l.length
 |[],_=>by simp [YY,ends]
 |x::l,h=>by
  simp only [List.all_cons,Bool.and_eq_true] at h
  have:=JJi l h.2
  have h1:=JES h.1
  have e:YY (x::l)=ZK x++10::YY l:=by unfold YY;rw [List.map_cons,JAm]
  rw [e,List.length_append,List.length_cons,List.length_cons];omega
theorem JMI {x:Pg}(h:YT x=true){r:Int}{t:List Int}(hr:x.reads=r::t){j:Nat}{g:Nat × Int}(hg:(runs (Jm x.reads))[j]? = some g):g.1≤16:=by
 have hp:=JDX h hr
 have hl:=hp.len
 have:g.1≤Ji (runs (Jm x.reads)):=by
  have hm:g.1∈(runs (Jm x.reads)).map Prod.fst:=List.mem_map.2 ⟨g,List.mem_of_getElem? hg,rfl⟩
  unfold Ji
  generalize (runs (Jm x.reads)).map Prod.fst=q at hm
  induction q with
  |nil=>cases hm
  |cons a q ih=>
   rcases List.mem_cons.1 hm with e|e
   ·subst e;simp
   ·have:=ih e;simp;omega
 omega
theorem JLO (l:List Pg)(hl:l.length≤1000)(hz:∀x∈l,x.reads.length≤1000):Jb Tryz.prog 17 [.leaf (.d (Yt l))] (JGA (JBB l) (Yl l)) []:=by
 refine Js Jf Tryz.func17 rfl (by simp only [List.length_cons,List.length_nil,Tryz.ntmps17];omega) JJ rfl ?_
 refine JB.reg ?_
 iterate 2 (refine JA.o ?_)
 refine JA.nil (JB.assocS (JB.reg ?_))
 refine JA.o ?_
 refine JA.c1 (JLa l hl hz) JD JD ?_
 refine JA.o ?_
 refine JA.nil (JB.assocS (JB.reg ?_))
 iterate 2 (refine JA.o ?_)
 refine JA.nil ?_
 refine JB.cndS JD (fun hb14=>?_) (fun hb14=>?_)
 ·skip
  have hne:Yl l≠0:=by simpa using hb14
  have hr:JBB l=[]:=if_neg hne
  refine JB.assocS (JB.reg ?_)
  have X:=Fx.mk hr
  iterate 3 (refine JA.o1 JAR ?_)
  refine JA.nil (JB.retS ?_)
  exact Ends.fin [] (rs:=[.tmp 2,.tmp 3]) rfl JAR JDx
 ·skip
  have he0:Yl l=0:=by simpa using hb14
  have hr:JBB l=YY l:=if_pos he0
  obtain ⟨h32,hok,_⟩:=JAn he0
  have hz0:YY (l.take 0)=[]:=rfl
  refine JB.skipS (JB.reg ?_)
  refine JA.alcT 5990 JD JD (by omega) rfl JD ?_ 
  refine JA.arr0 5901 5 1 JD (by omega) (by omega) JD ?_ 
  refine JA.nil (JB.assocS (JB.reg ?_))
  iterate 3 (refine JA.o ?_)
  refine JA.nil (JB.blk ?_)
  have X:=Fx.mk hz0
  refine JB.forA [5,16,17,18] [5990,5901] (l.length) (fun k=>[.slot 18 (.int k),.obj 5990 (.cells (YJ 5990 5901 (YY (l.take k)))),.obj 5901 (.arr 5 1 (Jx (YY (l.take k))))]) (fun _=>True) (fun k=>by simp only [go_sem]<;>rfl) (by simp only [go_sem,X.h,Int.natCast_zero,JHi,JB7]<;>rfl) ?_ (fun k hk hX=>?_)
  ·trivial
  ·skip
   refine JB.reg ?_
   refine JA.o ?_
   refine JA.nil ?_
   refine JB.cndS JD (fun hb19=>?_) (fun hb19=>?_)
   ·skip
    have hlt:=Yk hb19
    obtain ⟨x,hx⟩:=Yj hb19
    have hxok:=JE2 hok hx
    have hxo:=hxok
    unfold YT at hxo
    simp only [Bool.and_eq_true,decide_eq_true_eq,ZC] at hxo
    obtain ⟨⟨⟨hh,hrn16⟩,hra⟩,_⟩:=hxo
    have hrd:=List.all_eq_true.1 hra
    have hbk:=JJi _ (JIW k hok)
    have hbl:(l.take k).length≤32:=by rw [List.length_take];omega
    have hps:=JNB hx
    refine JB.skipS (JB.blk (JB.reg ?_))
    have X:=Fx.mk hx
    refine JA.o1 QE ?_
    iterate 3 (refine JA.o1 JC ?_)
    refine JA.nil (JB.reg ?_)
    iterate 2 (refine JA.o1 JC ?_)
    refine JA.c1 (JGl x.house hh.1 (by omega)) JC JC ?_
    iterate 2 (refine JA.o1 JC ?_)
    refine JA.nil (JB.assocS ?_)
    by_cases hz1:x.reads=[]
    ·skip
     have hwp:JBC x=[Jz x.house.toNat]:=by unfold JBC;rw [hz1]
     have hp0:decide (((0:Nat):Int)>0)=false:=rfl
     have hrn:runs (Jm ([]:List Int))=[]:=by simp [Jm,runs]
     have hw0:YE x 0=[Jz x.house.toNat]:=by rw [JKS,hwp]
     have hgd:decide ((x.reads.length:Int)>0)=false:=by rw [hz1];rfl
     refine JB.reg ?_
     have X:=X.a hgd
     iterate 4 (refine JA.o1 JC ?_)
     refine JA.nil ?_
     refine JB.cndS JC (fun hb29=>?_) (fun hb29=>?_)
     ·exact absurd hb29 (by simp)
     ·skip
      refine JB.skipS (JB.assocS (JB.reg ?_))
      iterate 2 (refine JA.o1 JC ?_)
      refine JA.c1 (JLU x.reads (hz x (List.mem_of_getElem? hx)) (fun n hn=>ZC.1 (hrd n hn))) JC JC ?_
      iterate 2 (refine JA.o1 JC ?_)
      refine JA.nil (JB.blk ?_)
      have X:=X.a hw0
      refine JB.forA [5,8,16,17,18,40,41,42] [5990,5901,25] ((runs (Jm x.reads)).length) (fun j=>[.slot 42 (.int j),.slot 8 (.leaf (.own 25 0 (YE x j).length (YE x j).length)),.obj 25 (.arr 9 1 ((YE x j).map encStr))]) (fun _=>True) (fun j=>by simp only [go_sem]<;>rfl) (by simp only [go_sem,X.h,Int.natCast_zero,List.map_cons,List.map_nil,List.length_cons,List.length_nil]<;>rfl) ?_ (fun j hj Xj=>?_)
      ·trivial
      ·skip
       refine JB.reg ?_
       have X:=(Fx.mk hx).a hgd
       refine JA.o1 JC ?_
       refine JA.nil ?_
       refine JB.cndS JC (fun hb43=>?_) (fun hb43=>?_)
       ·skip
        have hlt2:=Yk hb43
        obtain ⟨g,hg⟩:=Yj hb43
        have hgs:=JGJ hg
        obtain ⟨q0,q1,hq⟩:∃r t,x.reads=r::t:=by
         cases h:x.reads with
         |nil=>rw [h] at hg;simp [Jm,runs] at hg
         |cons r t=>exact ⟨r,t,rfl⟩
        have hpr:=JDX hxok hq
        have hgb:=hpr.by0 g (List.mem_of_getElem? hg)
        have hg1:=JBq _ hpr.good g (List.mem_of_getElem? hg)
        have hgm:=JMI hxok hq hg
        have hwl:=JOv hxok j
        have hrq:=JF3 (Jm x.reads)
        rw [JBK] at hrq
        refine JB.skipS (JB.blk (JB.reg ?_))
        have X:=X.a hg
        refine JA.o1 QE ?_
        iterate 3 (refine JA.o1 JC ?_)
        refine JA.nil (JB.reg1 ?_)
        iterate 2 (refine JA.o1 JC ?_)
        refine JA.c1 (JLd g (by omega) hgb.1 hgb.2) JC JC ?_
        refine JA.o1 JC ?_
        refine JA.o1 V4 ?_
        refine JA.o1 JC ?_
        refine JA.nil (JR.nrm (JB.reg1 ?_))
        refine JA.o1 Jv ?_
        refine JA.o1 JC ?_
        refine JA.nil ?_
        refine JU.nxt ?_ ?_ ?_
        ·omega
        ·exact JN.kp [5,8,16,17,18,40,41,42] [5990,5901,25] (by simp only [go_sem,X.h]<;>first|((repeat' (first|with_reducible_and_instances rfl|refine Q8 ?_ ?_ ?_|refine Q7 ?_|refine YL ?_|refine Q9 ?_ ?_|refine Q3 ?_|refine Q4 ?_|refine YN ?_|refine Q6 ?_ ?_|refine YI ?_ ?_|refine YK ?_|refine YF ?_|(refine Q5 ?_;omega)));all_goals (first|(rw [hgs];simp [encStr];done)|(rw [hgs];simp;omega)|omega))|rfl)
        ·trivial
       ·skip
        have hje:j=(runs (Jm x.reads)).length:=by have:=Yo hb43;omega
        subst hje
        have hwa:=JH6 x
        have htw:List.take (Ym x).length (List.map encStr (Ym x))=List.map encStr (Ym x):=List.take_of_length_le (by simp)
        have hpl:blanks (Ym x)=ZK x:=rfl
        refine JB.exitS (JU.ext (JR.hit (JB.reg1 ?_)))
        have X:=(X.a hwa).a hpl
        refine JA.o1 JC ?_
        have X:=(Fx.mk hwa).a htw
        refine JA.frz 25 JC ?_
        refine JA.lendG [(990,5990),(901,5901)] JD (JGr (YY (l.take k)) (Ym x) (JMb x) (by have:=(JKT hxok).1;omega) (by have:=JES hxok;unfold ZK at this;omega)) JY (.inl ⟨[],by simp only [go_sem]<;>rfl,rfl⟩) JD V5 rfl (by decide) JDB ZT V37 Zc JD ?_
        refine JA.nil (JR.nrm (JB.reg1 ?_))
        have X:=(((Fx.mk hx).a hgd).a hwa).a hpl
        refine JA.o1 Jv ?_
        refine JA.o1 JC ?_
        refine JA.nil ?_
        refine JU.nxt ?_ ?_ ?_
        ·omega
        ·exact JN.kp [5,16,17,18] [5990,5901] (by simp only [go_sem,X.h]<;>first|((repeat' (first|with_reducible_and_instances rfl|refine Q8 ?_ ?_ ?_|refine Q7 ?_|refine YL ?_|refine Q9 ?_ ?_|refine Q3 ?_|refine Q4 ?_|refine YN ?_|refine Q6 ?_ ?_|refine YI ?_ ?_|refine YK ?_|refine YF ?_|(refine Q5 ?_;omega)));all_goals (rw [hps]))|rfl)
        ·trivial
    ·skip
     obtain ⟨r,rt,hz2⟩:∃r t,x.reads=r::t:=by cases h:x.reads with|nil=>exact absurd h hz1|cons r t=>exact ⟨r,t,rfl⟩
     have hwp:JBC x=[Jz x.house.toNat,Jz r.toNat]:=by unfold JBC;rw [hz2]
     have hw0:YE x 0=[Jz x.house.toNat,Jz r.toNat]:=by rw [JKS,hwp]
     have hrl0:0<x.reads.length:=by rw [hz2];simp
     have hgd:decide ((x.reads.length:Int)>0)=true:=decide_eq_true (by omega)
     have hr0:x.reads[0]? = some r:=by rw [hz2];rfl
     have hrb:=ZC.1 (hrd r (List.mem_of_getElem? hr0))
     refine JB.reg ?_
     have X:=(X.a hgd).a hr0
     iterate 4 (refine JA.o1 Jo ?_)
     refine JA.nil ?_
     refine JB.cndS Jo (fun hb29=>?_) (fun hb29=>?_)
     ·skip
      refine JB.reg ?_
      iterate 3 (refine JA.o1 Jo ?_)
      refine JA.o1 V69 ?_
      refine JA.o1 Jo ?_
      refine JA.c1 (JGl r hrb.1 (by omega)) Jo Jo ?_
      refine JA.o1 Jo ?_
      refine JA.o1 V3 ?_
      refine JA.o1 Jo ?_
      refine JA.nil (JB.assocS (JB.reg ?_))
      iterate 2 (refine JA.o1 Jo ?_)
      refine JA.c1 (JLU x.reads (hz x (List.mem_of_getElem? hx)) (fun n hn=>ZC.1 (hrd n hn))) Jo Jo ?_
      iterate 2 (refine JA.o1 Jo ?_)
      refine JA.nil (JB.blk ?_)
      have X:=X.a hw0
      refine JB.forA [5,8,16,17,18,40,41,42] [5990,5901,25] ((runs (Jm x.reads)).length) (fun j=>[.slot 42 (.int j),.slot 8 (.leaf (.own 25 0 (YE x j).length (YE x j).length)),.obj 25 (.arr 9 1 ((YE x j).map encStr))]) (fun _=>True) (fun j=>by simp only [go_sem]<;>rfl) (by simp only [go_sem,X.h,Int.toNat_zero,Int.natCast_zero,List.map_cons,List.map_nil,List.length_cons,List.length_nil]<;>rfl) ?_ (fun j hj Xj=>?_)
      ·trivial
      ·skip
       refine JB.reg ?_
       have X:=((Fx.mk hx).a hgd).a hr0
       refine JA.o1 Jo ?_
       refine JA.nil ?_
       refine JB.cndS Jo (fun hb43=>?_) (fun hb43=>?_)
       ·skip
        have hlt2:=Yk hb43
        obtain ⟨g,hg⟩:=Yj hb43
        have hgs:=JGJ hg
        obtain ⟨q0,q1,hq⟩:∃r t,x.reads=r::t:=by
         cases h:x.reads with
         |nil=>rw [h] at hg;simp [Jm,runs] at hg
         |cons r t=>exact ⟨r,t,rfl⟩
        have hpr:=JDX hxok hq
        have hgb:=hpr.by0 g (List.mem_of_getElem? hg)
        have hg1:=JBq _ hpr.good g (List.mem_of_getElem? hg)
        have hgm:=JMI hxok hq hg
        have hwl:=JOv hxok j
        have hrq:=JF3 (Jm x.reads)
        rw [JBK] at hrq
        refine JB.skipS (JB.blk (JB.reg ?_))
        have X:=X.a hg
        refine JA.o1 V69 ?_
        iterate 3 (refine JA.o1 Jo ?_)
        refine JA.nil (JB.reg1 ?_)
        iterate 2 (refine JA.o1 Jo ?_)
        refine JA.c1 (JLd g (by omega) hgb.1 hgb.2) Jo Jo ?_
        refine JA.o1 Jo ?_
        refine JA.o1 V3 ?_
        refine JA.o1 Jo ?_
        refine JA.nil (JR.nrm (JB.reg1 ?_))
        refine JA.o1 V60 ?_
        refine JA.o1 Jo ?_
        refine JA.nil ?_
        refine JU.nxt ?_ ?_ ?_
        ·omega
        ·exact JN.kp [5,8,16,17,18,40,41,42] [5990,5901,25] (by simp only [go_sem,X.h,Int.toNat_zero]<;>first|((repeat' (first|with_reducible_and_instances rfl|refine Q8 ?_ ?_ ?_|refine Q7 ?_|refine YL ?_|refine Q9 ?_ ?_|refine Q3 ?_|refine Q4 ?_|refine YN ?_|refine Q6 ?_ ?_|refine YI ?_ ?_|refine YK ?_|refine YF ?_|(refine Q5 ?_;omega)));all_goals (first|(rw [hgs];simp [encStr];done)|(rw [hgs];simp;omega)|omega))|rfl)
        ·trivial
       ·skip
        have hje:j=(runs (Jm x.reads)).length:=by have:=Yo hb43;omega
        subst hje
        have hwa:=JH6 x
        have htw:List.take (Ym x).length (List.map encStr (Ym x))=List.map encStr (Ym x):=List.take_of_length_le (by simp)
        have hpl:blanks (Ym x)=ZK x:=rfl
        refine JB.exitS (JU.ext (JR.hit (JB.reg1 ?_)))
        have X:=(X.a hwa).a hpl
        refine JA.o1 Jo ?_
        have X:=(Fx.mk hwa).a htw
        refine JA.frz 25 JC ?_
        refine JA.lendG [(990,5990),(901,5901)] JD (JGr (YY (l.take k)) (Ym x) (JMb x) (by have:=(JKT hxok).1;omega) (by have:=JES hxok;unfold ZK at this;omega)) JY (.inl ⟨[],by simp only [go_sem]<;>rfl,rfl⟩) JD V5 rfl (by decide) JDB ZT V37 Zc JD ?_
        refine JA.nil (JR.nrm (JB.reg1 ?_))
        have X:=((((Fx.mk hx).a hgd).a hr0).a hwa).a hpl
        refine JA.o1 V60 ?_
        refine JA.o1 Jo ?_
        refine JA.nil ?_
        refine JU.nxt ?_ ?_ ?_
        ·omega
        ·exact JN.kp [5,16,17,18] [5990,5901] (by simp only [go_sem,X.h,Int.toNat_zero]<;>first|((repeat' (first|with_reducible_and_instances rfl|refine Q8 ?_ ?_ ?_|refine Q7 ?_|refine YL ?_|refine Q9 ?_ ?_|refine Q3 ?_|refine Q4 ?_|refine YN ?_|refine Q6 ?_ ?_|refine YI ?_ ?_|refine YK ?_|refine YF ?_|(refine Q5 ?_;omega)));all_goals (rw [hps]))|rfl)
        ·trivial
     ·exact absurd hb29 (by simp)
   ·skip
    have hke:l.length≤k:=Yo hb19
    have htk:l.take k=l:=List.take_of_length_le hke
    refine JB.exitS (JU.ext (JR.hit (JB.reg ?_)))
    have X:=((Fx.mk htk).a hr).a he0
    refine JA.o1 JAR ?_
    have X:=Fx.mk htk
    refine JA.eat (r:=.str (YY l)) JY (JNI (n:=5990) (q:=5901) JD JC JC) ?_ 
    have X:=(X.a hr).a he0
    iterate 2 (refine JA.o1 JAR ?_)
    refine JA.nil ?_
    exact Ends.fin [] (rs:=[.tmp 2,.tmp 3]) rfl JAR JDx
end Go.Mw
namespace Go.Mw
open Go.Proofs Go.RowKit
section
variable {T b:Nat} {lr x y z:Value}
theorem JVQ {g l cap:Nat}(w:World)(hbk:w.heap[b]? = some (.cells #[.slice (some ⟨g,0,none⟩) l cap,.int .i64 0,lr,x,y,z] T (0,0)))(hroom:l+1≤cap)(hcap:cap≤maxLen) :
  Calls Tryz.prog 157 #[.pointer (some ⟨b,0,none⟩),.int .i64 1] w fun e w'=>e=.returned (.tuple #[.int .i64 l,.bool true])∧w'=w.setCell ⟨b,0,none⟩ (.slice (some ⟨g,0,none⟩) (l+1) cap):=by
 unfold maxLen at hcap
 have c0:w.cell? ⟨b,0,none⟩=some (.slice (some ⟨g,0,none⟩) l cap):=by rw [Lib.cell_of_heap hbk];rfl
 have f0:w.frozen? ⟨b,0,none⟩=false:=Lib.frozen_of_heap hbk _
 go_enter Tryz.func157,Tryz.ntmps157
 go_wp2
 go_ret2
 exact ⟨rfl,rfl⟩
theorem JOi {g l:Nat}(w:World)(hbk:w.heap[b]? = some (.cells #[.slice (some ⟨g,0,none⟩) l l,.int .i64 0,lr,x,y,z] T (0,0)))(hcap:l≤140737488355328) :
  Calls Tryz.prog 157 #[.pointer (some ⟨b,0,none⟩),.int .i64 1] w fun e w'=>e=.returned (.tuple #[.int .i64 0,.bool false])∧w'=w:=by
 have c0:w.cell? ⟨b,0,none⟩=some (.slice (some ⟨g,0,none⟩) l l):=by rw [Lib.cell_of_heap hbk];rfl
 go_enter Tryz.func157,Tryz.ntmps157
 go_wp2
 go_ret2
 exact ⟨rfl,rfl⟩
theorem JOj (w:World)(hbk:w.heap[b]? = some (.cells #[.slice none 0 0,.int .i64 0,lr,x,y,z] T (0,0))) :
  Calls Tryz.prog 157 #[.pointer (some ⟨b,0,none⟩),.int .i64 1] w fun e w'=>e=.returned (.tuple #[.int .i64 0,.bool false])∧w'=w:=by
 have c0:w.cell? ⟨b,0,none⟩=some (.slice none 0 0):=by rw [Lib.cell_of_heap hbk];rfl
 go_enter Tryz.func157,Tryz.ntmps157
 go_wp2
 go_ret2
 exact ⟨rfl,rfl⟩
theorem len_nil (w:World)(hbk:w.heap[b]? = some (.cells #[.slice none 0 0,.int .i64 0,lr,x,y,z] T (0,0))) :
  Calls Tryz.prog 189 #[.pointer (some ⟨b,0,none⟩)] w fun e w'=>e=.returned (.int .i64 0)∧w'=w.drew:=by
 have c0:w.drew.cell? ⟨b,0,none⟩=some (.slice none 0 0):=by rw [Lib.cell_of_heap (w:=w.drew) hbk];rfl
 have c1:w.drew.cell? ⟨b,1,none⟩=some (.int .i64 0):=by rw [Lib.cell_of_heap (w:=w.drew) hbk];rfl
 go_enter Tryz.func189,Tryz.ntmps189
 go_wp2
 go_region
 all_goals (go_wp2;go_ret;exact ⟨rfl,rfl⟩)
theorem JSM {g l cap:Nat}(w:World)(hbk:w.heap[b]? = some (.cells #[.slice (some ⟨g,0,none⟩) l cap,.int .i64 0,lr,x,y,z] T (0,0)))(hl:l≤140737488355328) :
  Calls Tryz.prog 189 #[.pointer (some ⟨b,0,none⟩)] w fun e w'=>e=.returned (.int .i64 l)∧w'=w.drew:=by
 have c0:w.drew.cell? ⟨b,0,none⟩=some (.slice (some ⟨g,0,none⟩) l cap):=by rw [Lib.cell_of_heap (w:=w.drew) hbk];rfl
 have c1:w.drew.cell? ⟨b,1,none⟩=some (.int .i64 0):=by rw [Lib.cell_of_heap (w:=w.drew) hbk];rfl
 go_enter Tryz.func189,Tryz.ntmps189
 go_wp2
 go_region
 all_goals (go_wp2;go_ret;exact ⟨by simp,rfl⟩)
end
end Go.Mw
namespace Go.Mw
open Go.Proofs Go.RowKit
section
variable {T b:Nat} {lr x y z:Value}
theorem ZZ (w:World)(a:Addr)(v:Value):(w.setCell a v).heap.size=w.heap.size:=by simp [World.setCell]
theorem JR7 (w:World)(hbk:w.heap[b]? = some (.cells #[.slice none 0 0,.int .i64 0,lr,x,y,z] T (0,0))) :
  Calls Tryz.prog 158 #[.pointer (some ⟨b,0,none⟩),.int .i64 1] w fun e w'=>e=.returned (.int .i64 0)∧∃cur,cur.size=64∧w'.heap[w.heap.size]? = some (.cells cur 5 (0,0)) ∧
   w'.heap[b]? = some (.cells #[.slice (some ⟨w.heap.size,0,none⟩) 1 64,.int .i64 0,lr,x,y,z] T (0,0))∧w.grownBy w' (some b):=by
 have hbd:w.drew.heap[b]? = some (.cells #[.slice none 0 0,.int .i64 0,lr,x,y,z] T (0,0)):=hbk
 have c0:w.drew.cell? ⟨b,0,none⟩=some (.slice none 0 0):=by rw [Lib.cell_of_heap hbd];rfl
 have c1:w.drew.cell? ⟨b,1,none⟩=some (.int .i64 0):=by rw [Lib.cell_of_heap hbd];rfl
 have f0:w.drew.frozen? ⟨b,0,none⟩=false:=Lib.frozen_of_heap hbd _
 have hlt:b<w.heap.size:=(Array.getElem?_eq_some_iff.1 hbk).1
 have hlt':b<w.drew.heap.size:=hlt
 have hba:∀o,(w.alloc o).heap[b]? = some (.cells #[.slice none 0 0,.int .i64 0,lr,x,y,z] T (0,0)):=fun o=>(Below.heap_alloc w o b hlt).trans hbk
 have hbad:∀o,(w.alloc o).drew.heap[b]? = some (.cells #[.slice none 0 0,.int .i64 0,lr,x,y,z] T (0,0)):=hba
 have c0a:∀o,(w.alloc o).drew.cell? ⟨b,0,none⟩=some (.slice none 0 0):=fun o=>by rw [Lib.cell_of_heap (hbad o)];rfl
 have f0a:∀o,(w.alloc o).drew.frozen? ⟨b,0,none⟩=false:=fun o=>Lib.frozen_of_heap (hbad o) _
 obtain ⟨M,hM⟩:∃M,M=madeCells (Value.int .u8 0).cells ((64:Int).toNat*Tryz.t5.size):=⟨_,rfl⟩
 have hz1:Tryz.t5.size=1:=by kernel_rfl
 have hMs:M.size=64:=by rw [hM,size_madeCells,hz1];rfl
 have hmk:∀W:World,(Instr.makeSlice 53 (.int .i64 1) (.int .i64 64)).run Tryz.prog W=.ok (.slice (some ⟨W.heap.size,0,none⟩) 1 64) (W.alloc (.cells M 5)):=fun W=>by
  have h:=run_makeSlice (P:=Tryz.prog) W 53 5 Tryz.t5 (.int .u8 0) Tryz.underlying53 JJ JJ .i64 .i64 1 64 (by omega) (by omega) (by rw [hz1];decide) (by rw [show Tryz.t5.bytes=1 by kernel_rfl];decide) (by decide)
  rw [←hM] at h
  simpa using h
 clear hM
 have hnil:∀W,(binOp .eql 53 (.slice none 0 0) (.slice none 0 0)).run Tryz.prog W=.ok (.bool true) W:=fun W=>Lib.run_eql_slice_nil_nil W _ _ Tryz.underlying53
 go_enter Tryz.func158,Tryz.ntmps158
 go_wp2_with (go_at_call 189;refine (len_nil w hbk).mono ?_)
 rintro e w1 ⟨rfl,rfl⟩
 go_wp2_with (go_at_call 157;refine (JOj w.drew hbd).mono ?_;rintro e w1 ⟨rfl,rfl⟩)
 go_ret
 refine ⟨rfl,M,hMs,?_,?_,?_⟩
 ·have h:=heap_alloc_new (w.setCell ⟨b,0,none⟩ (.slice (some ⟨w.heap.size,0,none⟩) 1 64)) (.cells M 5)
  rw [ZZ] at h
  exact h
 ·have h:=Below.heap_alloc (w.setCell ⟨b,0,none⟩ (.slice (some ⟨w.heap.size,0,none⟩) 1 64)) (.cells M 5) b (by rw [ZZ];exact hlt)
  exact h.trans ((Lib.heap_setCell_same hbk _).trans rfl)
 ·refine ⟨rfl,rfl,rfl,?_,fun k hk hne=>?_⟩
  ·show _≤((w.setCell ⟨b,0,none⟩ (.slice (some ⟨w.heap.size,0,none⟩) 1 64)).alloc (.cells M 5)).heap.size
   rw [World.alloc,Array.size_push,ZZ];omega
  ·have h:=Below.heap_alloc (w.setCell ⟨b,0,none⟩ (.slice (some ⟨w.heap.size,0,none⟩) 1 64)) (.cells M 5) k (by rw [ZZ];exact hk)
   exact h.trans (Below.heap_setCell w ⟨b,0,none⟩ _ k fun e=>hne (by rw [e]))
theorem JR5 {w w2:World}{v0:Value}{cells:Array Value}(hbk2:w2.heap[b]? = some (.cells #[v0,.int .i64 0,lr,x,y,z] T (0,0)))(hN:w2.heap[w.heap.size]? = some (.cells cells 5 (0,0)))(hlt:b<w.heap.size)
  (hbel:Below w.heap.size w w2) (v1 v:Value) :
  (((w2.setCell ⟨b,0,none⟩ v1).setCell ⟨b,1,none⟩ (.int .i64 0)).setCell ⟨b,0,none⟩ v).heap[w.heap.size]? = some (.cells cells 5 (0,0)) ∧
  (((w2.setCell ⟨b,0,none⟩ v1).setCell ⟨b,1,none⟩ (.int .i64 0)).setCell ⟨b,0,none⟩ v).heap[b]? = some (.cells #[v,.int .i64 0,lr,x,y,z] T (0,0)) ∧
  w.grownBy (((w2.setCell ⟨b,0,none⟩ v1).setCell ⟨b,1,none⟩ (.int .i64 0)).setCell ⟨b,0,none⟩ v) (some b):=by
 have hot:∀k,k≠b→(((w2.setCell ⟨b,0,none⟩ v1).setCell ⟨b,1,none⟩ (.int .i64 0)).setCell ⟨b,0,none⟩ v).heap[k]? = w2.heap[k]? :=fun k hk=>by
  rw [Below.heap_setCell _ _ _ _ hk,Below.heap_setCell _ _ _ _ hk,Below.heap_setCell _ _ _ _ hk]
 refine ⟨(hot _ (by omega)).trans hN,(Lib.heap_setCell_same (i:=0) (Lib.heap_setCell_same (i:=1) (Lib.heap_setCell_same (i:=0) hbk2 v1) (.int .i64 0)) v).trans rfl,?_⟩
 refine ⟨hbel.os,hbel.tape,hbel.output,?_,fun k hk hne=>?_⟩
 ·rw [ZZ,ZZ,ZZ];exact hbel.size
 ·exact (hot k fun e=>hne (by rw [e])).trans (hbel.block k hk)
theorem JJV:Tryz.prog.follows Departure.mixedOrders=true:=by kernel_rfl
theorem JR6 {g l:Nat}{cur:Array Value}(w:World)(hbk:w.heap[b]? = some (.cells #[.slice (some ⟨g,0,none⟩) l l,.int .i64 0,lr,x,y,z] T (0,0)))
  (hg:w.heap[g]? = some (.cells cur 5 (0,0))) (hgb:g≠b) (hcs:cur.size=l) (h0:1≤l) (hl:l≤1048576) (h1:∀v∈cur.toList,v.oneCell'=true) :
  Calls Tryz.prog 158 #[.pointer (some ⟨b,0,none⟩),.int .i64 1] w fun e w'=>e=.returned (.int .i64 l)∧∃cells cap2,cells.size=cap2∧cells.toList.take l=cur.toList∧l+1≤cap2∧cap2≤maxLen ∧
   w'.heap[w.heap.size]? = some (.cells cells 5 (0,0))∧w'.heap[b]? = some (.cells #[.slice (some ⟨w.heap.size,0,none⟩) (l+1) cap2,.int .i64 0,lr,x,y,z] T (0,0))∧w.grownBy w' (some b):=by
 have mixed:=JJV
 have hnil:∀W:World,(binOp .eql 53 (.slice (some ⟨g,0,none⟩) l l) (.slice none 0 0)).run Tryz.prog W=.ok (.bool false) W:=fun W=>Lib.run_eql_slice_some_nil W _ _ _ Tryz.underlying53
 go_enter Tryz.func158,Tryz.ntmps158
 go_wp2_with (go_at_call 189;refine (JSM w hbk (by omega)).mono ?_)
 rintro e W0 ⟨rfl,hW0⟩
 have hbk0:W0.heap[b]? = some (.cells #[.slice (some ⟨g,0,none⟩) l l,.int .i64 0,lr,x,y,z] T (0,0)):=by rw [hW0];exact hbk
 have hg0:W0.heap[g]? = some (.cells cur 5 (0,0)):=by rw [hW0];exact hg
 have c0:W0.cell? ⟨b,0,none⟩=some (.slice (some ⟨g,0,none⟩) l l):=by rw [Lib.cell_of_heap hbk0];rfl
 have c1:W0.cell? ⟨b,1,none⟩=some (.int .i64 0):=by rw [Lib.cell_of_heap hbk0];rfl
 have f0:W0.frozen? ⟨b,0,none⟩=false:=Lib.frozen_of_heap hbk0 0
 have f1:W0.frozen? ⟨b,1,none⟩=false:=Lib.frozen_of_heap hbk0 1
 have HW0:=Lib.hid hW0
 clear hW0
 go_wp2_with (go_at_call 157;refine (JOi _ hbk0 (by omega)).mono ?_;rintro e w' ⟨rfl,rfl⟩)
 have hbW:=Lib.lt_of_heap hbk0
 have hw1:IntKind.i64.wrap ((l:Int)+1)=l+1:=by rw [IntKind.wrap_i64];omega
 have htk0:cur.toList.take l=cur.toList:=List.take_of_length_le (by rw [Array.length_toList,hcs];exact Nat.le_refl _)
 have h1':∀v∈cur.toList.take l,v.oneCell'=true:=by rw [htk0];exact h1
 go_region_with_o (
   go_at_call 191
   refine (Any.bytes_growSlice_row Tryz.lays290 g l l 1 cur _ ?_ hcs (Nat.le_refl _) (Nat.le_refl _) (by omega) (by omega) h1').mono ?_
   exact hg0
   rintro e w2 ⟨cap2,cells,rfl,hN,hcsz,htk,hcap2,hcm2,hbel⟩
   have hbk2:w2.heap[b]? = some (.cells #[.slice (some ⟨g,0,none⟩) l l,.int .i64 0,lr,x,y,z] T (0,0)):=(hbel.block b hbW).trans hbk0
   have d0:w2.cell? ⟨b,0,none⟩=some (.slice (some ⟨g,0,none⟩) l l):=by rw [Lib.cell_of_heap hbk2];rfl
   have d1:w2.cell? ⟨b,1,none⟩=some (.int .i64 0):=by rw [Lib.cell_of_heap hbk2];rfl
   have e0:w2.frozen? ⟨b,0,none⟩=false:=Lib.frozen_of_heap hbk2 0
   have e1:w2.frozen? ⟨b,1,none⟩=false:=Lib.frozen_of_heap hbk2 1)
 all_goals (
  go_wp2
  go_ret
  refine ⟨rfl,cells,cap2,hcsz,htk.trans htk0,hcap2,hcm2,?_⟩
  have hw:w'=w.drew:=HW0.out
  rw [hw]
  rw [hw] at hN hbel hbW
  obtain ⟨r1,r2,r3⟩:=JR5 hbk2 hN hbW hbel (.slice (some ⟨w.heap.size,0,none⟩) l cap2) (.slice (some ⟨w.heap.size,0,none⟩) (l+1) cap2)
  exact ⟨r1,r2,⟨r3.os,r3.tape,r3.output,r3.size,r3.block⟩⟩)
end
end Go.Mw
namespace Go.Mw
open Go.Proofs Go.RowKit
section
variable {T b:Nat} {lr x y z:Value}
theorem JVk {g l cap:Nat}{cur:Array Value}(c:Int)(w:World)(hbk:w.heap[b]? = some (.cells #[.slice (some ⟨g,0,none⟩) l cap,.int .i64 0,lr,x,y,z] T (0,0)))
  (hg:w.heap[g]? = some (.cells cur 5 (0,0))) (hgb:g≠b) (hcs:cur.size=cap) (hl:l<cap) (hcm:cap≤maxLen) :
  Calls Tryz.prog 122 #[.pointer (some ⟨b,0,none⟩),.int .u8 c] w fun e w'=>e=.returned .nilIface∧w'=((w.setCell ⟨b,2,none⟩ (.int .i8 0)).setCell ⟨b,0,none⟩ (.slice (some ⟨g,0,none⟩) (l+1) cap)).setCell ⟨g,l,none⟩ (.int .u8 c):=by
 unfold maxLen at hcm
 have hlt:=(Array.getElem?_eq_some_iff.1 hbk).1
 have hltg:=(Array.getElem?_eq_some_iff.1 hg).1
 have f2:w.frozen? ⟨b,2,none⟩=false:=Lib.frozen_of_heap hbk _
 have c2:w.cell? ⟨b,2,none⟩=some lr:=by rw [Lib.cell_of_heap hbk];rfl
 have hb1:(w.setCell ⟨b,2,none⟩ (.int .i8 0)).heap[b]? = some (.cells #[.slice (some ⟨g,0,none⟩) l cap,.int .i64 0,.int .i8 0,x,y,z] T (0,0)):=(Lib.heap_setCell_same (i:=2) hbk (.int .i8 0)).trans rfl
 have hg1:(w.setCell ⟨b,2,none⟩ (.int .i8 0)).heap[g]? = some (.cells cur 5 (0,0)):=(Below.heap_setCell w ⟨b,2,none⟩ _ g hgb).trans hg
 have hb2:((w.setCell ⟨b,2,none⟩ (.int .i8 0)).setCell ⟨b,0,none⟩ (.slice (some ⟨g,0,none⟩) (l+1) cap)).heap[b]? = some (.cells #[.slice (some ⟨g,0,none⟩) (l+1) cap,.int .i64 0,.int .i8 0,x,y,z] T (0,0)):=(Lib.heap_setCell_same (i:=0) hb1 (.slice (some ⟨g,0,none⟩) (l+1) cap)).trans rfl
 have hg2:((w.setCell ⟨b,2,none⟩ (.int .i8 0)).setCell ⟨b,0,none⟩ (.slice (some ⟨g,0,none⟩) (l+1) cap)).heap[g]? = some (.cells cur 5 (0,0)):=(Below.heap_setCell _ ⟨b,0,none⟩ _ g hgb).trans hg1
 have d0:((w.setCell ⟨b,2,none⟩ (.int .i8 0)).setCell ⟨b,0,none⟩ (.slice (some ⟨g,0,none⟩) (l+1) cap)).cell? ⟨b,0,none⟩=some (.slice (some ⟨g,0,none⟩) (l+1) cap):=by rw [Lib.cell_of_heap hb2];rfl
 obtain ⟨v0,hv0⟩:∃v,cur[l]? = some v:=⟨_,Array.getElem?_eq_getElem (by omega)⟩
 have cg:((w.setCell ⟨b,2,none⟩ (.int .i8 0)).setCell ⟨b,0,none⟩ (.slice (some ⟨g,0,none⟩) (l+1) cap)).cell? ⟨g,l,none⟩=some v0:=by rw [Lib.cell_of_heap hg2];exact hv0
 have fg:((w.setCell ⟨b,2,none⟩ (.int .i8 0)).setCell ⟨b,0,none⟩ (.slice (some ⟨g,0,none⟩) (l+1) cap)).frozen? ⟨g,l,none⟩=false:=Lib.frozen_of_heap hg2 _
 go_enter Tryz.func122,Tryz.ntmps122
 go_wp2_with (go_at_call 157;refine (JVQ _ hb1 (by omega) (by unfold maxLen;omega)).mono ?_;rintro e w' ⟨rfl,rfl⟩)
 go_ret
 exact ⟨rfl,rfl⟩
theorem JVj (c:Int)(w:World)(hbk:w.heap[b]? = some (.cells #[.slice none 0 0,.int .i64 0,lr,x,y,z] T (0,0))) :
  Calls Tryz.prog 122 #[.pointer (some ⟨b,0,none⟩),.int .u8 c] w fun e w'=>e=.returned .nilIface∧∃w2 cur,cur.size=64∧w2.heap[w.heap.size]? = some (.cells cur 5 (0,0)) ∧
   w2.heap[b]? = some (.cells #[.slice (some ⟨w.heap.size,0,none⟩) 1 64,.int .i64 0,.int .i8 0,x,y,z] T (0,0))∧w.grownBy w2 (some b)∧w'=w2.setCell ⟨w.heap.size,0,none⟩ (.int .u8 c):=by
 have hlt:=(Array.getElem?_eq_some_iff.1 hbk).1
 have f2:w.frozen? ⟨b,2,none⟩=false:=Lib.frozen_of_heap hbk _
 have c2:w.cell? ⟨b,2,none⟩=some lr:=by rw [Lib.cell_of_heap hbk];rfl
 have hb1:(w.setCell ⟨b,2,none⟩ (.int .i8 0)).heap[b]? = some (.cells #[.slice none 0 0,.int .i64 0,.int .i8 0,x,y,z] T (0,0)):=(Lib.heap_setCell_same (i:=2) hbk (.int .i8 0)).trans rfl
 go_enter Tryz.func122,Tryz.ntmps122
 go_wp2_with (go_at_call 157;refine (JOj _ hb1).mono ?_;rintro e w' ⟨rfl,rfl⟩)
 go_wp2_with (go_at_call 158;refine (JR7 _ hb1).mono ?_)
 rintro e w2 ⟨rfl,cur,hcur,hN,hb2,hg2⟩
 rw [ZZ] at hN hb2
 have d0:w2.cell? ⟨b,0,none⟩=some (.slice (some ⟨w.heap.size,0,none⟩) 1 64):=by rw [Lib.cell_of_heap hb2];rfl
 obtain ⟨v0,hv0⟩:∃v,cur[0]? = some v:=⟨_,Array.getElem?_eq_getElem (by omega)⟩
 have cg:w2.cell? ⟨w.heap.size,0,none⟩=some v0:=by rw [Lib.cell_of_heap hN];exact hv0
 have fg:w2.frozen? ⟨w.heap.size,0,none⟩=false:=Lib.frozen_of_heap hN _
 have hgr:w.grownBy w2 (some b):=⟨hg2.os,hg2.tape,hg2.output,by have:=hg2.size;rwa [ZZ] at this,fun k hk hne=>(hg2.block k (by rwa [ZZ]) hne).trans (Below.heap_setCell w ⟨b,2,none⟩ _ k fun e=>hne (by rw [e]))⟩
 go_wp2
 trace_state
 go_ret
 exact ⟨rfl,w2,cur,hcur,hN,hb2,hgr,rfl⟩
theorem JVi {g l:Nat}{cur:Array Value}(c:Int)(w:World)(hbk:w.heap[b]? = some (.cells #[.slice (some ⟨g,0,none⟩) l l,.int .i64 0,lr,x,y,z] T (0,0)))
  (hg:w.heap[g]? = some (.cells cur 5 (0,0))) (hgb:g≠b) (hcs:cur.size=l) (h0:1≤l) (hl:l≤1048576) (h1:∀v∈cur.toList,v.oneCell'=true) :
  Calls Tryz.prog 122 #[.pointer (some ⟨b,0,none⟩),.int .u8 c] w fun e w'=>e=.returned .nilIface∧∃w2 cells cap2,cells.size=cap2∧cells.toList.take l=cur.toList∧l+1≤cap2∧cap2≤maxLen ∧
   w2.heap[w.heap.size]? = some (.cells cells 5 (0,0))∧w2.heap[b]? = some (.cells #[.slice (some ⟨w.heap.size,0,none⟩) (l+1) cap2,.int .i64 0,.int .i8 0,x,y,z] T (0,0)) ∧
   w.grownBy w2 (some b)∧w'=w2.setCell ⟨w.heap.size,l,none⟩ (.int .u8 c):=by
 have hlt:=(Array.getElem?_eq_some_iff.1 hbk).1
 have f2:w.frozen? ⟨b,2,none⟩=false:=Lib.frozen_of_heap hbk _
 have c2:w.cell? ⟨b,2,none⟩=some lr:=by rw [Lib.cell_of_heap hbk];rfl
 have hb1:(w.setCell ⟨b,2,none⟩ (.int .i8 0)).heap[b]? = some (.cells #[.slice (some ⟨g,0,none⟩) l l,.int .i64 0,.int .i8 0,x,y,z] T (0,0)):=(Lib.heap_setCell_same (i:=2) hbk (.int .i8 0)).trans rfl
 have hg1:(w.setCell ⟨b,2,none⟩ (.int .i8 0)).heap[g]? = some (.cells cur 5 (0,0)):=(Below.heap_setCell w ⟨b,2,none⟩ _ g hgb).trans hg
 go_enter Tryz.func122,Tryz.ntmps122
 go_wp2_with (go_at_call 157;refine (JOi _ hb1 (by omega)).mono ?_;rintro e w' ⟨rfl,rfl⟩)
 go_wp2_with (go_at_call 158;refine (JR6 _ hb1 hg1 hgb hcs h0 hl h1).mono ?_)
 rintro e w2 ⟨rfl,cells,cap2,hcsz,htk,hcap2,hcm2,hN,hb2,hg2⟩
 rw [ZZ] at hN hb2
 have d0:w2.cell? ⟨b,0,none⟩=some (.slice (some ⟨w.heap.size,0,none⟩) (l+1) cap2):=by rw [Lib.cell_of_heap hb2];rfl
 obtain ⟨v0,hv0⟩:∃v,cells[l]? = some v:=⟨_,Array.getElem?_eq_getElem (by omega)⟩
 have cg:w2.cell? ⟨w.heap.size,l,none⟩=some v0:=by rw [Lib.cell_of_heap hN];exact hv0
 have fg:w2.frozen? ⟨w.heap.size,l,none⟩=false:=Lib.frozen_of_heap hN _
 have hgr:w.grownBy w2 (some b):=⟨hg2.os,hg2.tape,hg2.output,by have:=hg2.size;rwa [ZZ] at this,fun k hk hne=>(hg2.block k (by rwa [ZZ]) hne).trans (Below.heap_setCell w ⟨b,2,none⟩ _ k fun e=>hne (by rw [e]))⟩
 go_wp2
 go_ret
 exact ⟨rfl,w2,cells,cap2,hcsz,htk,hcap2,hcm2,hN,hb2,hgr,rfl⟩
end
end Go.Mw
namespace Go.Mw
open Go.Proofs Go.RowKit
theorem JKL {cur:Array Value}{n:Nat}{xs:List Value}(v:Value)(hn:n<cur.size)(ht:cur.toList.take n=xs):(cur.setIfInBounds n v).toList.take (n+1)=xs++[v]:=by
 rw [Array.toList_setIfInBounds,List.take_succ_eq_append_getElem (by simpa using hn)]
 congr 1
 ·rw [List.take_set_of_le (Nat.le_refl _)];exact ht
 ·simp
section
variable {T b:Nat} {lr x y z:Value}
theorem JPY {v:Value}{n:Nat}{xs:List Value}(c:Int)(w:World)(hbk:w.heap[b]? = some (.cells #[v,.int .i64 0,lr,x,y,z] T (0,0)))(hrow:w.ownsRow 0 5 1 v n xs)(hz:n=0→v=.slice none 0 0)
  (hvb:blk v≠some b) (h1:∀u∈xs,u.oneCell'=true) (hn:n≤1048576) :
  Calls Tryz.prog 122 #[.pointer (some ⟨b,0,none⟩),.int .u8 c] w fun e w'=>e=.returned .nilIface∧∃v' g,w'.ownsRow 0 5 1 v' (n+1) (xs++[.int .u8 c])∧v'.oneCell'=true∧blk v'=some g∧(blk v=some g∨w.heap.size≤g)∧g≠b ∧
   w'.heap[b]? = some (.cells #[v',.int .i64 0,.int .i8 0,x,y,z] T (0,0))∧w'.os=w.os∧w'.tape=w.tape∧w'.output=w.output∧w.heap.size≤w'.heap.size∧∀k,k<w.heap.size→k≠b→blk v≠some k→w'.heap[k]? = w.heap[k]? :=by
 have hlt:=(Array.getElem?_eq_some_iff.1 hbk).1
 rcases hrow.2 with ⟨rfl,rfl⟩|⟨g,cap,cur,rfl,_,hg,hnc,hcm,hcs,htk⟩
 ·have hxs:xs=[]:=List.eq_nil_of_length_eq_zero (by have:=hrow.1;omega)
  subst hxs
  refine (JVj c w hbk).mono ?_
  rintro e w' ⟨rfl,w2,cur,hcur,hN,hb2,hgr,rfl⟩
  have hNb:b≠w.heap.size:=by omega
  have hN2:(w2.setCell ⟨w.heap.size,0,none⟩ (.int .u8 c)).heap[w.heap.size]? = some (.cells (cur.setIfInBounds 0 (.int .u8 c)) 5 (0,0)):=Lib.heap_setCell_same (i:=0) hN (.int .u8 c)
  refine ⟨rfl,.slice (some ⟨w.heap.size,0,none⟩) 1 64,w.heap.size,⟨rfl,.inr ⟨_,64,_,rfl,Nat.zero_le _,hN2,by omega,by decide,by simp [hcur],?_⟩⟩,rfl,rfl,.inr (Nat.le_refl _),fun h=>hNb h.symm,?_,hgr.os,hgr.tape,hgr.output,?_,fun k hk hkb _=>?_⟩
  ·exact JKL (n:=0) _ (by omega) (by simp)
  ·exact (Below.heap_setCell w2 ⟨w.heap.size,0,none⟩ _ b hNb).trans hb2
  ·rw [ZZ];exact hgr.size
  ·exact (Below.heap_setCell w2 ⟨w.heap.size,0,none⟩ _ k (by show k≠w.heap.size;omega)).trans (hgr.block k hk fun e=>hkb (Option.some.inj e))
 ·have hn0:0<n:=Nat.pos_of_ne_zero fun e=>by have:=hz e;simp at this
  rw [Nat.mul_one] at hcs htk
  have hgb:g≠b:=fun e=>hvb (by simp [blk,e])
  have hgl:=(Array.getElem?_eq_some_iff.1 hg).1
  by_cases hr:n<cap
  ·refine (JVk c w hbk hg hgb hcs hr hcm).mono ?_
   rintro e w' ⟨rfl,rfl⟩
   have hb2:((w.setCell ⟨b,2,none⟩ (.int .i8 0)).setCell ⟨b,0,none⟩ (.slice (some ⟨g,0,none⟩) (n+1) cap)).heap[b]? = some (.cells #[.slice (some ⟨g,0,none⟩) (n+1) cap,.int .i64 0,.int .i8 0,x,y,z] T (0,0)):=
    (Lib.heap_setCell_same (i:=0) ((Lib.heap_setCell_same (i:=2) hbk (.int .i8 0)).trans rfl) (.slice (some ⟨g,0,none⟩) (n+1) cap)).trans rfl
   have hg2:((w.setCell ⟨b,2,none⟩ (.int .i8 0)).setCell ⟨b,0,none⟩ (.slice (some ⟨g,0,none⟩) (n+1) cap)).heap[g]? = some (.cells cur 5 (0,0)):=by
    rw [Below.heap_setCell _ ⟨b,0,none⟩ _ g hgb,Below.heap_setCell _ ⟨b,2,none⟩ _ g hgb];exact hg
   refine ⟨rfl,.slice (some ⟨g,0,none⟩) (n+1) cap,g,⟨by simp [hrow.1],.inr ⟨g,cap,_,rfl,Nat.zero_le _,Lib.heap_setCell_same (i:=n) hg2 (.int .u8 c),by omega,hcm,by simp [hcs],?_⟩⟩,rfl,rfl,.inl rfl,hgb,?_,rfl,rfl,rfl,?_,fun k hk hkb hkg=>?_⟩
   ·rw [Nat.mul_one];exact JKL _ (by omega) htk
   ·exact (Below.heap_setCell _ ⟨g,n,none⟩ _ b fun h=>hgb h.symm).trans hb2
   ·rw [ZZ,ZZ,ZZ];exact Nat.le_refl _
   ·have hkg':k≠g:=fun e=>hkg (by rw [e];rfl)
    rw [Below.heap_setCell _ ⟨g,n,none⟩ _ k hkg',Below.heap_setCell _ ⟨b,0,none⟩ _ k hkb,Below.heap_setCell _ ⟨b,2,none⟩ _ k hkb]
  ·have hnc':cap=n:=by omega
   subst hnc'
   have hcl:cur.toList=xs:=by rw [←htk,List.take_of_length_le (by simp [hcs])]
   refine (JVi c w hbk hg hgb hcs hn0 hn (by rw [hcl];exact h1)).mono ?_
   rintro e w' ⟨rfl,w2,cells,cap2,hcsz,htk2,hcap2,hcm2,hN,hb2,hgr,rfl⟩
   have hNb:b≠w.heap.size:=by omega
   have hN2:(w2.setCell ⟨w.heap.size,cap,none⟩ (.int .u8 c)).heap[w.heap.size]? = some (.cells (cells.setIfInBounds cap (.int .u8 c)) 5 (0,0)):=Lib.heap_setCell_same (i:=cap) hN (.int .u8 c)
   refine ⟨rfl,.slice (some ⟨w.heap.size,0,none⟩) (cap+1) cap2,w.heap.size,⟨by simp [hrow.1],.inr ⟨_,cap2,_,rfl,Nat.zero_le _,hN2,by omega,hcm2,by simp [hcsz],?_⟩⟩,rfl,rfl,.inr (Nat.le_refl _),fun h=>hNb h.symm,?_,hgr.os,hgr.tape,hgr.output,?_,fun k hk hkb _=>?_⟩
   ·rw [Nat.mul_one];exact JKL _ (by omega) (htk2.trans hcl)
   ·exact (Below.heap_setCell w2 ⟨w.heap.size,cap,none⟩ _ b hNb).trans hb2
   ·rw [ZZ];exact hgr.size
   ·exact (Below.heap_setCell w2 ⟨w.heap.size,cap,none⟩ _ k (by show k≠w.heap.size;omega)).trans (hgr.block k hk fun e=>hkb (Option.some.inj e))
end
end Go.Mw
namespace Go.Mw
open Go.Proofs Go.RowKit
def Qn (o:Nat)(l:List UInt8):AL:=if l=[] then .d (.raw (.slice none 0 0)) else .own o 0 l.length l.length
theorem JPJ (o:Nat):Qn o []=.d (.raw (.slice none 0 0)):=rfl
theorem JIY {l:List UInt8}(h:l≠[])(o:Nat):Qn o l=.own o 0 l.length l.length:=if_neg h
@[go_sem ↓ high] theorem JPK (o:Nat)(l:List UInt8)(r:Nat→Nat):AL.ren r (Qn o l)=Qn (r o) l:=by unfold Qn;split<;>rfl
@[go_sem ↓ high] theorem JPI (o:Nat)(l:List UInt8)(os:List Nat)(h:os.contains o=true):AL.keep os (Qn o l)=Qn o l:=by
 unfold Qn
 split
 ·rfl
 ·simp only [AL.keep,h,if_true]
@[go_sem ↓ high] theorem JV0 (o k:Nat)(es:List (List D))(b:Nat)(l:List UInt8)(h:(b==o)=false):AL.frz o k es (Qn b l)=Qn b l:=by
 have hb:¬b=o:=by simpa using h
 unfold Qn
 split
 ·rfl
 ·simp only [AL.frz,if_neg hb]
@[go_sem ↓ high] theorem JV1 (o:Nat)(ds:List D)(b:Nat)(l:List UInt8):AL.frzc o ds (Qn b l)=Qn b l:=by
 unfold Qn
 split<;>rfl
theorem JPH (o:Nat)(l:List UInt8)(ns:List Nat)(h:ns.contains o=true):AL.inn ns (Qn o l)=true:=by
 unfold Qn
 split
 ·rfl
 ·exact h
@[go_sem ↓ high] theorem JPX (o:Nat)(l:List UInt8)(ls:List AL)(r:Nat→Nat):(AO.cells (Qn o l::ls)).ren r=.cells (Qn (r o) l::ls.map (AL.ren r)):=by
 show AO.cells (AL.ren r (Qn o l)::_)=_
 rw [JPK]
@[go_sem ↓ high] theorem JV3 (o:Nat)(l:List UInt8)(ls:List AL)(r:Nat→Nat)(n:Nat):AO.ren r ((n,AO.cells (Qn o l::ls)):Nat × AO).2=.cells (Qn (r o) l::ls.map (AL.ren r)):=JPX o l ls r
@[go_sem ↓ high] theorem JV2 (o:Nat)(l:List UInt8)(ls:List AL)(os:List Nat)(h:os.contains o=true):(AO.cells (Qn o l::ls)).keep os=.cells (Qn o l::ls.map (AL.keep os)):=by
 show AO.cells (AL.keep os (Qn o l)::_)=_
 rw [JPI _ _ _ h]
def JDH (o q:Nat)(l:List UInt8)(lr:AL)(x y z:D):List (Nat × AO):=[(o,.cells [Qn q l,.d (.raw (.int .i64 0)),lr,.d x,.d y,.d z]),(q,.arr 5 1 (Jx l))]
theorem JPe {S:Jc}{w:World}{l:List UInt8}{xs:List Value}(h:JS (RepD S w) (Jx l).flatten xs):xs=l.map fun c=>.int .u8 (c.toNat:Int):=by
 induction l generalizing xs with
 |nil=>cases xs with
  |nil=>rfl
  |cons _ _=>exact h.elim
 |cons c l ih=>cases xs with
  |nil=>exact h.elim
  |cons u xs=>
   have h1:=h.1
   have h2:=ih h.2
   cases h1
   rw [h2];rfl
theorem JPc {S:Jc}{w:World}(l:List UInt8):JS (RepD S w) (Jx l).flatten (l.map fun c=>.int .u8 (c.toNat:Int)):=by
 induction l with
 |nil=>trivial
 |cons c l ih=>exact ⟨.raw _ rfl,ih⟩
theorem JCs {o q:Nat}{a b x:AO}{n:Nat}(h:look [(o,a),(q,b)] n=some x):n=o∧x=a∨n≠o∧n=q∧x=b:=by
 by_cases h1:n=o
 ·subst h1;simp [look] at h;exact .inl ⟨rfl,h.symm⟩
 ·by_cases h2:n=q
  ·subst h2;simp [look,h1] at h;exact .inr ⟨h1,rfl,h.symm⟩
  ·simp [look,h1,h2] at h
theorem JQD (l:List UInt8)(c:UInt8)(hl:l.length≤1000000)(x y z:D) :
  Qq Tryz.prog 122 [.leaf (.ptr 910 0),.leaf (.d (.raw (.int .u8 c.toNat)))] (JDH 910 901 l .dead x y z) (.ret (.leaf (.d (.raw .nilIface))) (JDH 910 901 (l++[c]) .dead x y z)):=by
 intro E S M ι w vs hin hmin hobj hdis hown htok hargs hJ
 obtain ⟨p,cs,el,hp,hpc,hcs,hpS,htg⟩:=hobj 910 _ rfl
 obtain ⟨xs,hrow,hxs,_,_,hrS⟩:=hobj 901 _ rfl
 have hxv:=JPe hxs
 subst hxv
 rw [ZH] at hrow
 match cs,hcs with
 |[v,i0,lr,vx,vy,vz],⟨r0,r1,r2,r3,r4,r5,_⟩=>
 have e1:i0=.int .i64 0:=by cases r1;rfl
 subst e1
 have hv:w.ownsRow 0 5 1 v l.length (l.map fun c=>.int .u8 (c.toNat:Int))∧(l.length=0→v=.slice none 0 0)∧(blk v=none∨blk v=blk (ι 901)):=by
  by_cases h0:l=[]
  ·subst h0
   have e:v=.slice none 0 0:=by rw [JPJ] at r0;cases r0;rfl
   subst e
   exact ⟨World.ownsRow_nil w 0 5 1,fun _=>rfl,.inl rfl⟩
  ·rw [JIY h0] at r0
   obtain ⟨_,e',k',es',j1,_,j2⟩:=r0
   have j1':some (AO.arr 5 1 (Jx l))=some (.arr e' k' es'):=j1
   cases j1'
   have e:=(j2 (ZH l)).2.1 rfl rfl
   subst e
   exact ⟨hrow,fun h=>absurd (List.eq_nil_of_length_eq_zero h) h0,.inr rfl⟩
 obtain ⟨hv1,hv2,hv3⟩:=hv
 have hvb:blk v≠some p:=fun h=>by
  rcases hv3 with h'|h'
  ·rw [h'] at h;cases h
  ·exact hdis 910 901 _ _ p rfl rfl (by decide) (by rw [hp];rfl) (h'.symm.trans h)
 have hvS:∀b off,S b off→blk v≠some b:=fun b off hs h=>by
  rcases hv3 with h'|h'
  ·rw [h'] at h;cases h
  ·exact hrS b (h'.symm.trans h) off hs
 have hvM:∀b,blk v=some b→M b:=fun b h=>by
  rcases hv3 with h'|h'
  ·rw [h'] at h;cases h
  ·exact hown 901 _ b rfl (h'.symm.trans h)
 have hpM:M p:=hown 910 _ p rfl (by rw [hp];rfl)
 match vs,hargs with
 |[a0,a1],⟨q0,q1,_⟩=>
 obtain ⟨ls,pb,g1,g2,g3⟩:=Jl q0
 rw [hp] at g2
 cases g2
 subst g3
 have e2:=Jl q1
 have e2':a1=.int .u8 c.toNat:=by cases e2;rfl
 subst e2'
 have hc:=JPY (c:=(c.toNat:Int)) w hpc hv1 hv2 hvb (fun u hu=>by obtain ⟨_,_,rfl⟩:=List.mem_map.1 hu;rfl) (by omega)
 rw [←callsIn_wide] at hc
 refine hc.mono fun e w' ⟨he,v',g,hrow',hone,hg,hg2,hgp,hp',hos,htape,hout,hsz,hfr⟩=>?_
 have hblk:∀b o,S b o→w'.heap[b]? = w.heap[b]? :=fun b o hs=>hfr b (hin b o hs) (fun h=>hpS o (h▸hs)) (hvS b o hs)
 have hcell:∀b o,S b o→w'.cell? ⟨b,o,none⟩=w.cell? ⟨b,o,none⟩:=fun b o hs=>World.cell?_of_block (hblk b o hs)
 have hgl:g<w'.heap.size:=by
  rcases hrow'.2 with ⟨rfl,h⟩|⟨g',cap,cur,rfl,_,hcur,_⟩
  ·cases hg
  ·cases hg;exact (Array.getElem?_eq_some_iff.1 hcur).1
 refine ⟨_,_,_,S,fun b=>M b∨(w.heap.size≤b∧b<w'.heap.size),fun o=>if o=901 then v' else ι o,he,.ret _ _,
  E.step hJ ⟨hos,htape,hout,hsz,fun b hbl hnm=>hfr b hbl (fun h=>hnm (h▸hpM)) (fun h=>hnm (hvM b h)),hcell⟩ (fun _ h=>.inl h) (fun _ h=>h) (fun _ _ h=>h) (fun _ _ h=>.inl h),?_⟩
 have hgS:∀off,¬S g off:=fun off hs=>by
  rcases hg2 with h|h
  ·exact hvS g off hs h
  ·have:=hin g off hs;omega
 exact {
  sub:=fun _ _ h=>h,new:=fun _ _ h=>.inl h,inn:=fun b o h=>Nat.lt_of_lt_of_le (hin b o h) hsz
  minn:=fun b h=>h.elim (fun h=>Nat.lt_of_lt_of_le (hmin b h) hsz) (·.2)
  res:=Qk (.raw _ rfl)
  objs:=fun o ob h=>by
   rcases JCs h with ⟨rfl,rfl⟩|⟨_,rfl,rfl⟩
   ·refine ⟨p,[v',.int .i64 0,.int .i8 0,vx,vy,vz],el,by simp [hp],hp',⟨?_,.raw _ rfl,rfl,RepD.mono (fun _ _ h=>h) hcell r3,RepD.mono (fun _ _ h=>h) hcell r4,RepD.mono (fun _ _ h=>h) hcell r5,trivial⟩,hpS,htg⟩
    rw [JIY (by simp)]
    refine ⟨hone,5,1,Jx (l++[c]),rfl,by rw [ZH];exact Nat.le_refl _,fun _=>⟨by omega,?_⟩⟩
    have:=JAj.tip hrow'
    rw [List.length_append]
    simpa using this
   ·refine ⟨(l++[c]).map fun c=>.int .u8 (c.toNat:Int),?_,JPc _,JLD _,by decide,fun b hb off=>?_⟩
    ·rw [ZH,List.length_append,List.map_append]
     simpa using hrow'
    ·have hb':blk v'=some b:=by simpa using hb
     rw [hg] at hb'
     cases hb'
     exact hgS off
  dis:=fun o o' a a' b h h' hne hb hb'=>by
   rcases JCs h with ⟨rfl,rfl⟩|⟨_,rfl,rfl⟩<;>rcases JCs h' with ⟨rfl,rfl⟩|⟨_,rfl,rfl⟩
   ·exact hne rfl
   ·simp [hp,blk] at hb hb'
    have hb':blk v'=some b:=hb'
    rw [hg] at hb'
    exact hgp ((Option.some.inj hb').trans hb.symm)
   ·simp [hp,blk] at hb hb'
    have hb:blk v'=some b:=hb
    rw [hg] at hb
    exact hgp ((Option.some.inj hb).trans hb'.symm)
   ·exact hne rfl
  own:=fun o a b h hb=>by
   rcases JCs h with ⟨rfl,rfl⟩|⟨_,rfl,rfl⟩
   ·simp [hp,blk] at hb
    exact .inl (hb▸hpM)
   ·have hb':blk v'=some b:=by simpa using hb
    rw [hg] at hb'
    cases hb'
    rcases hg2 with h|h
    ·exact .inl (hvM g h)
    ·exact .inr ⟨h,hgl⟩
  tok:=fun o h=>by rcases JCs h with ⟨_,h⟩|⟨_,_,h⟩<;>cases h
  same:=fun o a a' h h'=>by
   rcases JCs h with ⟨rfl,rfl⟩|⟨hn,rfl,rfl⟩
   ·rcases JCs h' with ⟨_,rfl⟩|⟨hn,_⟩
    ·show ι 910=_;rfl
    ·exact absurd rfl hn
   ·rcases JCs h' with ⟨h,_⟩|⟨_,_,rfl⟩
    ·exact absurd h hn
    ·refine ⟨by simp [ZH],fun h=>?_⟩
     simp [ZH] at h }
end Go.Mw
namespace Go.Bk
open Go.Mw
def YZ (s:Bits):Bits:=s.drop (8*(s.length / 8))
theorem JT6 (s:Bits):(YZ s).length=s.length%8:=by unfold YZ;rw [List.length_drop];omega
theorem JVc (s:Bits):J8 (YZ s)<128:=by
 have h:=JBX (YZ s)
 have h2:2^(YZ s).length≤2^7:=Nat.pow_le_pow_right (by omega) (by rw [JT6];omega)
 omega
theorem JJf:∀(k:Nat) (s t:Bits),8*k≤s.length→Z5 k (s++t)=Z5 k s
 |0,_,_,_=>rfl
 |k+1,s,t,h=>by
  unfold Z5
  rw [List.take_append_of_le_length (by omega),List.drop_append_of_le_length (by omega),JJf k _ t (by rw [List.length_drop];omega)]
theorem JM8:∀(k:Nat) (s:Bits),Z5 (k+1) s=Z5 k s++[JB8 ((s.drop (8*k)).take 8)]
 |0,s=>rfl
 |k+1,s=>by
  have h:=JM8 k (s.drop 8)
  rw [Z5,h,Z5,List.drop_drop,List.cons_append]
  congr 4
  rw [Nat.mul_succ,Nat.add_comm]
theorem JU6 {s:Bits}(b:Bool)(h:(s.length+1)%8≠0):pack (s++[b])=pack s∧YZ (s++[b])=YZ s++[b]:=by
 have e:(s++[b]).length / 8=s.length / 8:=by rw [List.length_append,List.length_singleton];omega
 unfold pack YZ
 rw [e]
 exact ⟨JJf _ _ _ (by omega),List.drop_append_of_le_length (by omega)⟩
theorem JU5 {s:Bits}(b:Bool)(h:(s.length+1)%8=0):pack (s++[b])=pack s++[JB8 (YZ s++[b])]∧YZ (s++[b])=[]:=by
 have e:(s++[b]).length / 8=s.length / 8+1:=by rw [List.length_append,List.length_singleton];omega
 unfold pack YZ
 rw [e,JM8,JJf _ _ _ (by omega),List.drop_append_of_le_length (by omega)]
 refine ⟨?_,List.drop_eq_nil_of_le (by rw [List.length_append,List.length_singleton];omega)⟩
 congr 2
 rw [List.take_of_length_le]
 rw [List.length_append,List.length_drop,List.length_singleton];omega
theorem JDV (s:Bits):(pack s).length=s.length / 8:=by
 have:∀(k:Nat) (s:Bits),(Z5 k s).length=k:=fun k=>by
  induction k with
  |zero=>intro s;rfl
  |succ k ih=>intro s;rw [Z5,List.length_cons,ih]
 exact this _ _
theorem JAG (s:Bits):JV s≤s.length:=List.count_le_length ..
theorem JHe:JV []=0:=rfl
theorem JCK (b:Bool):JV [b]=b.toNat:=by cases b<;>rfl
def JAI (k many n:Nat):Bits:=JX k (n / 2^(many-k))
theorem JVN (many n:Nat):JAI 0 many n=[]:=rfl
theorem JVK (many n:Nat):JAI many many n=JX many n:=by unfold JAI;rw [Nat.sub_self,Nat.pow_zero,Nat.div_one]
theorem JVL (k many n:Nat):(JAI k many n).length=k:=Yd _ _
theorem JVM {k many n:Nat}(h:k<many):JAI (k+1) many n=JAI k many n++[n / 2^(many-1-k)%2==1]:=by
 unfold JAI
 rw [JX,Nat.div_div_eq_div_mul,←Nat.pow_succ,show (many-(k+1)).succ=many-k by omega,show many-(k+1)=many-1-k by omega]
theorem or_bit {v:Nat}(h:v<128)(b:Bool):IntKind.u8.wrap ((BitVec.ofInt 8 ((2*v:Nat):Int) ||| BitVec.ofInt 8 ((b.toNat:Nat):Int)).toNat:Int)=((2*v+b.toNat:Nat):Int):=by
 have:∀v:Fin 128,∀b:Bool,(BitVec.ofInt 8 ((2*v.1:Nat):Int) ||| BitVec.ofInt 8 ((b.toNat:Nat):Int)).toNat=2*v.1+b.toNat:=by decide
 rw [this ⟨v,h⟩ b,IntKind.wrap_u8]
 have:b.toNat≤1:=by cases b<;>decide
 show (((2*v+b.toNat:Nat):Int))%256=_
 omega
theorem and_one {x:Nat}(h:x<9223372036854775808):IntKind.i64.wrap ((BitVec.ofInt 64 (x:Int) &&& BitVec.ofInt 64 1).toNat:Int)=((x%2:Nat):Int):=by
 have e:(BitVec.ofInt 64 (x:Int) &&& BitVec.ofInt 64 1).toNat=x%2:=by
  rw [BitVec.toNat_and]
  have h1:(BitVec.ofInt 64 (x:Int)).toNat=x:=by
   rw [BitVec.toNat_ofInt];omega
  have h2:(BitVec.ofInt 64 1).toNat=1:=by decide
  rw [h1,h2,Nat.and_one_is_mod]
 rw [e,IntKind.wrap_i64];omega
theorem JRj (x i:Nat)(h:i≤64):(x:Int).fdiv (2^min i 64)=((x / 2^i:Nat):Int):=by
 rw [Nat.min_eq_left h,Int.fdiv_eq_ediv_of_nonneg _ (Int.le_of_lt (Int.pow_pos (by decide)))]
 norm_cast
def QY:Int→List Pl→Int
 |a,[]=>a
 |_,x::l=>QY x.num l
def Zg:Int→Int→List Pl→Int
 |_,o,[]=>o
 |a,_,x::l=>Zg x.num (JV (Qd x a):Nat) l
theorem JFc:∀(l:List Pl) (a:Int) (x:Pl),QB a (l++[x])=QB a l++Qd x (QY a l)
 |[],a,x=>by simp [QB,QY]
 |y::l,a,x=>by
  rw [List.cons_append,QB,QB,JFc l,List.append_assoc];rfl
theorem JJC:∀(l:List Pl) (a:Int) (x:Pl),QY a (l++[x])=x.num
 |[],_,_=>rfl
 |y::l,_,x=>JJC l y.num x
theorem JJB:∀(l:List Pl) (a o:Int) (x:Pl),Zg a o (l++[x])=((JV (Qd x (QY a l)):Nat):Int)
 |[],_,_,_=>rfl
 |y::l,_,_,x=>JJB l y.num _ x
theorem JTZ {x:Pl}{a:Int}(h:fits x a):(Qd x a).length≤53:=by
 obtain ⟨⟨f1,f2⟩,_,_⟩:=h
 have h1:=(JCe (x.num-a).toNat).1
 have h2:=JED (n:=(x.num-a).toNat) (k:=16) (by omega) (by omega)
 unfold Qd YC YS
 simp only [List.length_append,List.length_singleton,Yd];omega
theorem JGw:∀(l:List Pl) (a:Int),chain a l→0≤a∧a≤65535→(∀x∈l,x.num≤65535)→∀(k:Nat),(QB a (l.take k)).length≤53*k∧(0≤QY a (l.take k)∧QY a (l.take k)≤65535)∧(∀o:Int,0≤o∧o≤60→0≤Zg a o (l.take k)∧Zg a o (l.take k)≤60)∧∀x,l[k]? = some x→fits x (QY a (l.take k))
 |[],a,_,ha,_,k=>by simp [QB,QY,Zg,ha]
 |y::l,a,hc,ha,hn,0=>by
  refine ⟨by simp [QB],by simpa [QY] using ha,fun o ho=>by simpa [Zg] using ho,fun x hx=>?_⟩
  simp at hx;subst hx;exact hc.1
 |y::l,a,hc,ha,hn,k+1=>by
  have hl:=JTZ hc.1
  have ho:=JAG (Qd y a)
  have hy:=hn y (by simp)
  obtain ⟨⟨f1,f2⟩,_,_⟩:=hc.1
  obtain ⟨h1,h2,h3,h4⟩:=JGw l y.num hc.2 ⟨by omega,by omega⟩ (fun x hx=>hn x (by simp [hx])) k
  refine ⟨?_,h2,fun o _=>h3 _ ⟨by omega,by omega⟩,fun x hx=>h4 x (by simpa using hx)⟩
  rw [List.take_succ_cons,QB,List.length_append];omega
end Go.Bk
namespace Go.Mw
open Go.Bk
theorem JCU (k:IntKind)(a b:Int):YG .add k a b=some (.int k (k.wrap (a+b))):=rfl
theorem JCd (k:IntKind)(a b:Int):YG .sub k a b=some (.int k (k.wrap (a-b))):=rfl
theorem JCa (k:IntKind)(a b:Int):YG .mul k a b=some (.int k (k.wrap (a*b))):=rfl
theorem JCc (k:IntKind)(a b:Int):YG .rem k a b=if b=0 then none else some (.int k (a.tmod b)):=rfl
theorem JCV (k:IntKind)(a b:Int):YG .eql k a b=some (.bool (a==b)):=rfl
theorem JCb (k:IntKind)(a b:Int):YG .neq k a b=some (.bool (a != b)):=rfl
theorem JCZ (k:IntKind)(a b:Int):YG .lss k a b=some (.bool (decide (a<b))):=rfl
theorem JCY (k:IntKind)(a b:Int):YG .leq k a b=some (.bool (decide (a≤b))):=rfl
theorem JCX (k:IntKind)(a b:Int):YG .gtr k a b=some (.bool (decide (a>b))):=rfl
theorem JCW (k:IntKind)(a b:Int):YG .geq k a b=some (.bool (decide (a≥b))):=rfl
theorem JPF {v:Nat}(h:v<128):YG .shl .u8 (v:Int) 1=some (.int .u8 ((2*v:Nat):Int)):=by
 have e:IntKind.u8.wrap ((v:Int)*2^min (Int.toNat 1) IntKind.u8.bits)=((2*v:Nat):Int):=by rw [show min (Int.toNat 1) IntKind.u8.bits=1 from rfl,IntKind.wrap_u8];omega
 exact congrArg (fun z=>some (Value.int .u8 z)) e
theorem JPD {v:Nat}(h:v<128)(b:Bool):YG .or .u8 ((2*v:Nat):Int) ((b.toNat:Nat):Int)=some (.int .u8 ((2*v+b.toNat:Nat):Int)):=congrArg (fun z=>some (Value.int .u8 z)) (or_bit h b)
theorem JPC {x:Nat}(h:x<9223372036854775808):YG .and .i64 (x:Int) 1=some (.int .i64 ((x%2:Nat):Int)):=congrArg (fun z=>some (Value.int .i64 z)) (and_one h)
theorem JPG (k:IntKind)(hk:k.bits=64)(x:Nat)(a:Int){i:Nat}(ha:a=i)(h:i≤64):YG .shr k (x:Int) a=some (.int k ((x / 2^i:Nat):Int)):=by
 subst ha
 show (if (i:Int)<0 then none else some (Value.int k ((x:Int).fdiv (2^(min (i:Int).toNat k.bits)))))=_
 rw [if_neg (by omega),Int.toNat_natCast,hk,JRj x i h]
end Go.Mw

/- What a pen has written, as a string: the law of String; no condition but those in each. -/
import Derived.Test.YtpmdcdglfeicaaaGreatDoorD1
import Derived.Test.YtpmdcdglfeicaaaGreatDoorB6
import Derived.Test.YtpmdcdglfeicaaaGreatDoorB4
import Derived.Test.YtpmdcdglfeicaaaGreatDoorB7
import Derived.Shelf.Bytes.GrowSlice
import Derived.Lib.BufferAt
set_option maxHeartbeats 16000000
set_option maxRecDepth 100000
set_option linter.unusedSimpArgs false
set_option linter.unusedVariables false
set_option linter.unusedSectionVars false
set_option linter.deprecated false
namespace Go.Mw
open Go.Proofs Go.RowKit
theorem JVv {T b g cap:Nat}{p:Value}{l:List UInt8}{cur:Array Value}(w:World)(hbk:w.heap[b]? = some (.cells #[p,.slice (some ⟨g,0,none⟩) l.length cap] T (0,0)))(hg:w.heap[g]? = some (.cells cur 5 (0,0)))(hl:l≠[])(hcap:l.length≤cap)(hcm:cap≤maxLen)(hcs:cur.size=cap)
  (hcells:∀j u,(Lib.byteCells l)[j]? = some u→w.cell? ⟨g,j,none⟩=some u) :
  Calls Tryz.prog 50 #[.pointer (some ⟨b,0,none⟩)] w fun e w'=>e=.returned (.string ⟨l.toArray⟩)∧w'=w.drew.freeze ⟨g,0,none⟩ l.length:=by
 have hl0:l.length≠0:=fun h=>hl (List.eq_nil_of_length_eq_zero h)
 have c1:w.drew.cell? ⟨b,1,none⟩=some (.slice (some ⟨g,0,none⟩) l.length cap):=by
  have:w.drew.heap[b]? = some (.cells #[p,.slice (some ⟨g,0,none⟩) l.length cap] T (0,0)):=hbk
  rw [Lib.cell_of_heap this];rfl
 have hSD:(Builtin.unsafeSliceData_ #[53] 170 #[.slice (some ⟨g,0,none⟩) l.length cap]).run Tryz.prog w.drew=.ok (.pointer (some ⟨g,0,none⟩)) w.drew:=Lib.run_unsafeSliceData_row _ _ _ _ _ _ (by omega)
 have hUS:(Builtin.unsafeString_ #[170,3] 9 #[.pointer (some ⟨g,0,none⟩),.int .i64 l.length]).run Tryz.prog w.drew=.ok (.string ⟨l.toArray⟩) (w.drew.freeze ⟨g,0,none⟩ l.length):=by
  refine Lib.run_unsafeString_row w.drew 170 3 9 5 Tryz.underlying170 JI g cur.size (by have hg':w.drew.heap[g]? = some (.cells cur 5 (0,0)):=hg;simp [World.shape?,hg']) l hl (by omega) (by unfold maxLen at hcm;omega) ?_
  intro j x hx
  have:=hcells j (.int .u8 x.toNat) (by simp [Lib.byteCells,hx])
  rw [Addr.add_lit,Nat.zero_add]
  exact this
 go_enter Tryz.func50,Tryz.ntmps50
 go_wp2
 go_region
 all_goals (go_wp2;go_ret;exact ⟨rfl,rfl⟩)
theorem JVw {T b:Nat}{p:Value}(w:World)(hbk:w.heap[b]? = some (.cells #[p,.slice none 0 0] T (0,0))) :
  Calls Tryz.prog 50 #[.pointer (some ⟨b,0,none⟩)] w fun e w'=>e=.returned (.string ⟨#[]⟩)∧w'=w.drew:=by
 have hUS:(Builtin.unsafeString_ #[170,3] 9 #[.pointer none,.int .i64 0]).run Tryz.prog w.drew=.ok (.string .empty) w.drew:=Lib.run_unsafeString_none w.drew _ _ _ none
 have hSD:(Builtin.unsafeSliceData_ #[53] 170 #[.slice none 0 0]).run Tryz.prog w.drew=.ok (.pointer none) w.drew:=Lib.run_unsafeSliceData_nil _ _ _ _ _
 have c1:w.drew.cell? ⟨b,1,none⟩=some (.slice none 0 0):=by
  have:w.drew.heap[b]? = some (.cells #[p,.slice none 0 0] T (0,0)):=hbk
  rw [Lib.cell_of_heap this];rfl
 go_enter Tryz.func50,Tryz.ntmps50
 go_wp2
 go_region
 all_goals (go_wp2;go_ret;exact ⟨rfl,rfl⟩)
theorem JSJ (w:World)(p q:Addr)(n:Nat):(w.freeze p n).cell? q=w.cell? q:=by
 unfold World.freeze
 split
 ·rfl
 ·unfold World.cell?
  simp only [Array.getElem?_modify]
  by_cases h:p.block=q.block
  ·rw [if_pos h]
   cases hb:w.heap[q.block]? with
   |none=>rfl
   |some x=>cases x<;>rfl
  ·rw [if_neg h]
theorem JLc {S:Jd}{w:World}:∀ {l:List UInt8} {xs:List Value},JR (RepD S w) (l.map fun c=>D.raw (.int .u8 c.toNat)) xs→xs=Lib.byteCells l
 |[],[],_=>rfl
 |[],_::_,h=>h.elim
 |_::_,[],h=>h.elim
 |c::l,v::xs,h=>by rw [Qa h.1,JLc h.2];rfl
theorem JNk {A:JE}{x:Operand}{n q:Nat}{l:List UInt8}(hx:A.ev x=.leaf (.ptr n 0))(hn:A.obj n=some (.cells (YL n q l)))(hq:A.obj q=some (.arr 5 1 (Jr l))) :
  ∀(C:Ctx Tryz.prog) (S:Jd) (M:QA) (ι:Nat→Value) (a:Act) (w:World),Jf C S M ι A a w→Calls Tryz.prog 50 ([x].map a.eval).toArray w fun e w'=>∃v,e=.returned v∧(∀S ι H w,Jk S ι H w (.str l) v) ∧
   ∃U:QA,(∀k,U k→∃o x,A.obj o=some x∧blk (ι o)=some k)∧Fr S U w w':=by
 intro C S M ι a w hR
 obtain ⟨b,vs,el,h1,h2,h3,h4,_⟩:=JEY hR hx hn
 have ea:([x].map a.eval).toArray=#[.pointer (some ⟨b,0,none⟩)]:=by simp [h2]
 rw [ea]
 by_cases hl:l=[]
 ·subst hl
  rw [JHk] at h4
  match vs,h4 with
  |[p,s],h4=>
   have hs:=Qa h4.2.1
   subst hs
   refine (JVw w h3).mono fun e w' ⟨he,hw⟩=>⟨_,he,fun S ι H w=>⟨_,rfl,RepD.raw _ rfl⟩,fun _=>False,fun k h=>h.elim,?_⟩
   subst hw
   exact ⟨rfl,rfl,rfl,Nat.le_refl _,fun _ _ _=>rfl,fun _ _ _=>rfl⟩
 ·rw [JEW hl] at h4
  match vs,h4 with
  |[p,s],h4=>
   obtain ⟨_,e',k',es,hob,_,hval⟩:=h4.2.1
   rw [hq] at hob;cases hob
   have hs:s=ι q:=(hval (Y2 l)).2.1 rfl rfl
   obtain ⟨xs,hown,hall,hkk,_,hS⟩:=hR.objs q _ hq
   rw [Y2] at hown
   rcases hown.2 with ⟨_,hz⟩|⟨g,cap,cur,u1,u2,u3,u4,u5,u6,u7⟩
   ·exact absurd (List.eq_nil_of_length_eq_zero hz) hl
   ·rw [u1] at hs
    subst hs
    have hcs:=hown.cells (g:=g) (by rw [u1];rfl)
    have hxs:xs=Lib.byteCells l:=by
     rw [JLa] at hall
     exact JLc hall
    rw [hxs] at hcs
    refine (JVv w h3 u3 hl u4 u5 (by rw [u6,Nat.mul_one]) (fun j u hj=>by have:=hcs j u hj;rw [Addr.add_lit] at this;simpa using this)).mono fun e w' ⟨he,hw⟩=>⟨_,he,fun S ι H w=>⟨_,rfl,RepD.raw _ rfl⟩,fun k=>k=g,fun k h=>⟨q,_,hq,by rw [u1,h];rfl⟩,?_⟩
    subst hw
    refine ⟨?_,?_,?_,?_,fun k hk hne=>?_,fun b o _=>JSJ _ _ _ _⟩
    ·unfold World.freeze;split<;>rfl
    ·unfold World.freeze;split<;>rfl
    ·unfold World.freeze;split<;>rfl
    ·unfold World.freeze;split
     ·exact Nat.le_refl _
     ·simp
    ·unfold World.freeze
     split
     ·rfl
     ·simp only [Array.getElem?_modify]
      rw [if_neg (fun e=>hne e.symm)]
      rfl
end Go.Mw
namespace Go.Mw
open Go.Proofs
open Go.Bk
attribute [local go_sem] decide_true beq_self_eq_true bne_self_eq_false
theorem JG3 (m:Int)(w:Nat)(c:UInt8)(h0:0≤m)(h1:m≤9223372036854775807)(hw:w≤1000):Ja Tryz.prog 81 [.int m,.int w,.str [c]] (.str (pad c w (Ji m.toNat))) []:=by
 have:=JId m.toNat w c (by omega) hw
 rwa [Int.toNat_of_nonneg h0] at this
def rk (b:Bool)(x:Bs):AL:=.d (.raw (.string (bs (bif b then x else []))))
def ZK (t:Tr):List Bs:=[pad 32 6 (Ji t.flow.toNat),pad 32 7 (Ji t.pour.toNat),pad 32 7 (Ji t.shown.toNat)]
abbrev JUf (t:Tr):AV:=.val true ((ZK t).map fun x=>.d (.raw (.string (bs x))))
def pos (t:Tr):Prop:=(0≤t.flow∧t.flow≤1000000000000000)∧(0≤t.pour∧t.pour≤1000000000000000)∧0≤t.shown∧t.shown≤1000000000000000
theorem JT9 {t:Tr}(h:Zt t=true):pos t:=by
 unfold Zt at h
 simp only [Bool.and_eq_true,ZD] at h
 unfold pos;omega
theorem JPw (t:Tr):blanks (ZK t)=Bk.Qn t:=rfl
@[go_sem] theorem JYn (b:Bool)(x:Bs)(os:List Nat):AL.keep os (rk b x)=rk b x:=rfl
theorem JIc (t:Tr)(h:pos t):Ja Tryz.prog 83 [trV t] (JUf t) []:=by
 obtain ⟨ha,hb,hc⟩:=h
 have f00:Nat.blt 0 0=false:=rfl
 have f01:Nat.blt 0 1=true:=rfl
 have f02:Nat.blt 0 2=true:=rfl
 have f03:Nat.blt 0 3=true:=rfl
 have f10:Nat.blt 1 0=false:=rfl
 have f11:Nat.blt 1 1=false:=rfl
 have f12:Nat.blt 1 2=true:=rfl
 have f13:Nat.blt 1 3=true:=rfl
 have f20:Nat.blt 2 0=false:=rfl
 have f21:Nat.blt 2 1=false:=rfl
 have f22:Nat.blt 2 2=false:=rfl
 have f23:Nat.blt 2 3=true:=rfl
 refine Js Jc Tryz.func83 rfl (by simp only [List.length_cons,List.length_nil,Tryz.ntmps83];omega) JI rfl ?_
 refine JB.reg ?_
 have X:=(((((((((((Fx.mk f00).a f01).a f02).a f03).a f10).a f11).a f12).a f13).a f20).a f21).a f22).a f23
 iterate 2 (refine JA.o1 YD ?_)
 refine JA.nil (JB.assocS (JB.reg ?_))
 iterate 8 (refine JA.o1 YD ?_)
 refine JA.nil (JB.blk ?_)
 refine JB.forA [2,11,12] [2] (3) (fun k=>[.slot 12 (.int k),.obj 2 (.cells [rk (Nat.blt 0 k) (pad 32 6 (Ji t.flow.toNat)),rk (Nat.blt 1 k) (pad 32 7 (Ji t.pour.toNat)),rk (Nat.blt 2 k) (pad 32 7 (Ji t.shown.toNat))])]) (fun _=>True) (fun k=>by simp only [go_sem]<;>rfl) (by simp only [go_sem,X.h,rk,ZK,Int.natCast_zero,cond_true,cond_false]<;>rfl) ?_ (fun k hk hX=>?_)
 ·trivial
 ·skip
  by_cases h0:k=0
  ·skip
   subst h0
   have cz:((0:Nat):Int)=0:=rfl
   have ca:((0+1:Nat):Int)=1:=rfl
   refine JB.reg ?_
   have X:=(X.a cz).a ca
   refine JA.o1 YD ?_
   refine JA.nil ?_
   refine JB.cndS YD (fun hb13=>?_) (fun hb13=>?_)
   ·skip
    refine JB.skipS (JB.blk (JB.reg ?_))
    iterate 4 (refine JA.o1 YD ?_)
    refine JA.nil (JB.reg1 ?_)
    iterate 2 (refine JA.o1 YD ?_)
    refine JA.c1 (JE9) YD YD ?_
    iterate 2 (refine JA.o1 YD ?_)
    refine JA.c1 (JG3 t.flow 6 32 ha.1 (by omega) (by omega)) YD YD ?_
    refine JA.o1 V78 ?_
    refine JA.o1 YD ?_
    refine JA.nil (JY.nrm (JB.reg1 ?_))
    refine JA.o1 V63 ?_
    refine JA.o1 YD ?_
    refine JA.nil ?_
    refine Jb.nxt ?_ ?_ ?_
    ·omega
    ·exact JO.kp [2,11,12] [2] V22
    ·trivial
   ·exact absurd hb13 (by simp)
  ·skip
   by_cases h1:k=1
   ·skip
    subst h1
    have cz:((1:Nat):Int)=1:=rfl
    have ca:((1+1:Nat):Int)=2:=rfl
    refine JB.reg ?_
    have X:=(X.a cz).a ca
    refine JA.o1 YD ?_
    refine JA.nil ?_
    refine JB.cndS YD (fun hb13=>?_) (fun hb13=>?_)
    ·skip
     refine JB.skipS (JB.blk (JB.reg ?_))
     iterate 4 (refine JA.o1 YD ?_)
     refine JA.nil (JB.reg1 ?_)
     iterate 2 (refine JA.o1 YD ?_)
     refine JA.c1 (JE9) YD YD ?_
     iterate 2 (refine JA.o1 YD ?_)
     refine JA.c1 (JG3 t.pour 7 32 hb.1 (by omega) (by omega)) YD YD ?_
     refine JA.o1 V78 ?_
     refine JA.o1 YD ?_
     refine JA.nil (JY.nrm (JB.reg1 ?_))
     refine JA.o1 V63 ?_
     refine JA.o1 YD ?_
     refine JA.nil ?_
     refine Jb.nxt ?_ ?_ ?_
     ·omega
     ·exact JO.kp [2,11,12] [2] V22
     ·trivial
    ·exact absurd hb13 (by simp)
   ·skip
    by_cases h2:k=2
    ·skip
     subst h2
     have cz:((2:Nat):Int)=2:=rfl
     have ca:((2+1:Nat):Int)=3:=rfl
     refine JB.reg ?_
     have X:=(X.a cz).a ca
     refine JA.o1 YD ?_
     refine JA.nil ?_
     refine JB.cndS YD (fun hb13=>?_) (fun hb13=>?_)
     ·skip
      refine JB.skipS (JB.blk (JB.reg ?_))
      iterate 4 (refine JA.o1 YD ?_)
      refine JA.nil (JB.reg1 ?_)
      iterate 2 (refine JA.o1 YD ?_)
      refine JA.c1 (JE9) YD YD ?_
      iterate 2 (refine JA.o1 YD ?_)
      refine JA.c1 (JG3 t.shown 7 32 hc.1 (by omega) (by omega)) YD YD ?_
      refine JA.o1 V78 ?_
      refine JA.o1 YD ?_
      refine JA.nil (JY.nrm (JB.reg1 ?_))
      refine JA.o1 V63 ?_
      refine JA.o1 YD ?_
      refine JA.nil ?_
      refine Jb.nxt ?_ ?_ ?_
      ·omega
      ·exact JO.kp [2,11,12] [2] V22
      ·trivial
     ·exact absurd hb13 (by simp)
    ·skip
     have h3:k=3:=by omega
     subst h3
     have cz:((3:Nat):Int)=3:=rfl
     refine JB.reg ?_
     have X:=X.a cz
     refine JA.o1 YD ?_
     refine JA.nil ?_
     refine JB.cndS YD (fun hb13=>?_) (fun hb13=>?_)
     ·exact absurd hb13 (by simp)
     ·skip
      refine JB.exitS (Jb.ext (JY.hit (JB.reg ?_)))
      iterate 2 (refine JA.o1 YD ?_)
      refine JA.nil ?_
      exact Ends.fin [] (rs:=[.cell 2 148]) rfl YD (by simp only [go_sem,X.h,rk,ZK]<;>first|rfl|exact Ql)
theorem JI5 (a:Bs):blanks [a,chk a]=full a:=rfl
theorem JKB (t:Tr):blanks (ZK t++[chk (Bk.Qn t)])=full (Bk.Qn t):=by
 show pad 32 6 (Ji t.flow.toNat)++32::(pad 32 7 (Ji t.pour.toNat)++32::(pad 32 7 (Ji t.shown.toNat)++32::chk (Bk.Qn t)))=_
 unfold full
 conv=>rhs;lhs;unfold Bk.Qn
 simp
def wrT (b:Bs)(x:Sh)(j:Nat):Bs:=b++full (Yy x.meter)++[10]++ends 10 ((x.tries.take j).map fun t=>full (Bk.Qn t))
theorem JWf (b:Bs)(x:Sh):wrT b x 0=b++full (Yy x.meter)++[10]:=by simp [wrT,ends]
theorem JWe {b:Bs}{x:Sh}{j:Nat}{t:Tr}(h:x.tries[j]? = some t):wrT b x (j+1)=wrT b x j++full (Bk.Qn t)++[10]:=by
 unfold wrT
 rw [List.take_add_one,h,List.map_append,JEJ]
 simp [ends]
theorem JWd {l:List Sh}{k:Nat}{x:Sh}(h:l[k]? = some x):wrT (Qp (l.take k)) x x.tries.length=Qp (l.take (k+1)):=by
 rw [List.take_add_one,h,JU6]
 unfold wrT
 rw [List.take_length]
 simp [Qp,Yl,JBA,ends]
theorem JMm {t:Tr}(h:Zt t=true):(full (Bk.Qn t)).length=24:=by rw [JCV,JKC h]
theorem JMP {x:Sh}(h:Z3 x=true):(ends 10 (JBA x)).length≤160:=by
 unfold Z3 at h
 simp only [Bool.and_eq_true,decide_eq_true_eq,ZD] at h
 obtain ⟨⟨h1,h2⟩,h3⟩:=h
 have ht:∀l:List Tr,l.all Zt=true→(ends 10 (l.map fun t=>full (Bk.Qn t))).length=25*l.length:=by
  intro l
  induction l with
  |nil=>exact fun _=>rfl
  |cons t l ih=>
   intro h
   simp only [List.all_cons,Bool.and_eq_true] at h
   rw [List.map_cons,Zd,List.length_append,List.length_cons,ih h.2,JMm h.1,List.length_cons];omega
 unfold JBA
 rw [Zd,List.length_append,List.length_cons,ht _ h3,JCV,JI9 (by omega) h1.2];omega
theorem JKI:∀(l:List Sh),l.all Z3=true→(Qp l).length≤160*l.length
 |[],_=>by simp [Qp,Yl,ends]
 |x::l,h=>by
  simp only [List.all_cons,Bool.and_eq_true] at h
  have:=JKI l h.2
  have h1:=JMP h.1
  have e:Qp (x::l)=ends 10 (JBA x)++Qp l:=by simp [Qp,Yl,JEJ]
  rw [e,List.length_append,List.length_cons];omega
theorem JWc {b:Bs}{x:Sh}(h:Z3 x=true)(j:Nat):(wrT b x j).length≤b.length+160:=by
 have h1:=JMP h
 unfold JBA at h1
 rw [Zd] at h1
 have h2:(ends 10 ((x.tries.take j).map fun t=>full (Bk.Qn t))).length≤(ends 10 (x.tries.map fun t=>full (Bk.Qn t))).length:=by
  have e:x.tries.map (fun t=>full (Bk.Qn t))=(x.tries.take j).map (fun t=>full (Bk.Qn t))++(x.tries.drop j).map (fun t=>full (Bk.Qn t)):=by rw [←List.map_append,List.take_append_drop]
  rw [e,JEJ,List.length_append];omega
 unfold wrT
 simp only [List.length_append,List.length_cons,List.length_nil] at h1 ⊢;omega
theorem JIQ {α:Type}{p:α→Bool}{l:List α}{k:Nat}{x:α}(h:l.all p=true)(hx:l[k]? = some x):p x=true:=List.all_eq_true.1 h x (List.mem_of_getElem? hx)
theorem JLF {α:Type}{p:α→Bool}{l:List α}(k:Nat)(h:l.all p=true):(l.take k).all p=true:=List.all_eq_true.2 fun x hx=>List.all_eq_true.1 h x (List.mem_of_mem_take hx)
def JHz (l:Bs)(e:Int):AV:=.tup [(false,[.d (.raw (.string (bs l)))]),(false,[.d (.i e)])]
theorem JLk (l:List Sh)(hl:l.length≤1000)(hz:∀x∈l,x.tries.length≤1000):Ja Tryz.prog 30 [.leaf (.d (JAY l))] (JHz (Qq l) (Yp l)) []:=by
 refine Js Jc Tryz.func30 rfl (by simp only [List.length_cons,List.length_nil,Tryz.ntmps30];omega) JI rfl ?_
 refine JB.reg ?_
 iterate 2 (refine JA.o ?_)
 refine JA.nil (JB.assocS (JB.reg ?_))
 refine JA.o ?_
 refine JA.c1 (JLu l hl hz) JD JD ?_
 refine JA.o ?_
 refine JA.nil (JB.assocS (JB.reg ?_))
 iterate 2 (refine JA.o ?_)
 refine JA.nil ?_
 refine JB.cndS JD (fun hb15=>?_) (fun hb15=>?_)
 ·skip
  have hne:Yp l≠0:=by simpa using hb15
  have hr:Qq l=[]:=if_neg hne
  refine JB.assocS (JB.reg ?_)
  have X:=Fx.mk hr
  iterate 3 (refine JA.o1 JBf ?_)
  refine JA.nil (JB.retS ?_)
  exact Ends.fin [] (rs:=[.tmp 2,.tmp 3]) rfl JBf JGX
 ·skip
  have he0:Yp l=0:=by simpa using hb15
  have hr:Qq l=Qp l:=if_pos he0
  obtain ⟨h12,hok,_⟩:=JCR he0
  have hz0:Qp (l.take 0)=[]:=rfl
  refine JB.skipS (JB.reg ?_)
  refine JA.alcT 5990 JD JD (by omega) rfl JD ?_ 
  refine JA.arr0 5901 5 1 JD (by omega) (by omega) JD ?_ 
  refine JA.nil (JB.assocS (JB.reg ?_))
  iterate 3 (refine JA.o ?_)
  refine JA.nil (JB.blk ?_)
  have X:=Fx.mk hz0
  refine JB.forA [5,17,18,19] [5990,5901] (l.length) (fun k=>[.slot 19 (.int k),.obj 5990 (.cells (YL 5990 5901 (Qp (l.take k)))),.obj 5901 (.arr 5 1 (Jr (Qp (l.take k))))]) (fun _=>True) (fun k=>by simp only [go_sem]<;>rfl) (by simp only [go_sem,X.h,Int.natCast_zero,JHk,JEE]<;>rfl) ?_ (fun k hk hX=>?_)
  ·trivial
  ·skip
   refine JB.reg ?_
   refine JA.o ?_
   refine JA.nil ?_
   refine JB.cndS JD (fun hb20=>?_) (fun hb20=>?_)
   ·skip
    have hlt:=ZU hb20
    obtain ⟨x,hx⟩:=ZQ hb20
    have hxok:=JIQ hok hx
    have hxo:=hxok
    unfold Z3 at hxo
    simp only [Bool.and_eq_true,decide_eq_true_eq,ZD] at hxo
    obtain ⟨⟨hm0,htn⟩,hta⟩:=hxo
    have hm:0≤x.meter∧x.meter≤9223372036854775807:=by omega
    have hhl:=JI9 (m:=x.meter) (by omega) (by omega)
    have hpl:(pad 48 6 (Ji x.meter.toNat)).length=6:=JF1 _ (JAa (by omega) (by omega))
    have hbk:=JKI _ (JLF k hok)
    have hbl:(l.take k).length≤12:=by rw [List.length_take];omega
    have hhd:35::pad 48 6 (Ji x.meter.toNat)=Yy x.meter:=rfl
    have hfb:=JI5 (Yy x.meter)
    have hw0:=JWf (Qp (l.take k)) x
    refine JB.skipS (JB.blk (JB.reg ?_))
    have X:=((Fx.mk hx).a hhd).a hfb
    refine JA.o1 YE ?_
    iterate 3 (refine JA.o1 JC ?_)
    refine JA.nil (JB.reg ?_)
    iterate 2 (refine JA.o1 JC ?_)
    refine JA.c1 (JG3 x.meter 6 48 hm.1 hm.2 (by omega)) JC JC ?_
    refine JA.o1 J4 ?_
    refine JA.o1 JC ?_
    refine JA.nil (JB.reg ?_)
    iterate 2 (refine JA.o1 JC ?_)
    refine JA.c1 (JE8 (Yy x.meter) (by rw [hhl];omega)) JC JC ?_
    refine JA.o1 JC ?_
    refine JA.frz 30 JD ?_
    refine JA.lendG [(990,5990),(901,5901)] JD (JGw (Qp (l.take k)) [Yy x.meter,chk (Yy x.meter)] (by rw [JI5];simp [full]) (by simp) (by rw [JI5,JCV,hhl];omega)) JV (.inl ⟨[],by simp only [go_sem]<;>rfl,rfl⟩) JD V9 rfl (by decide) JDF ZZ V41 Zv JD ?_
    refine JA.nil (JB.reg ?_)
    iterate 4 (refine JA.o1 JC ?_)
    refine JA.nil (JB.blk1 ?_)
    have X:=X.a hw0
    refine JB.forA [5,17,18,19,33,34,35] [5990,5901] (x.tries.length) (fun j=>[.slot 35 (.int j),.obj 5990 (.cells (YL 5990 5901 (wrT (Qp (l.take k)) x j))),.obj 5901 (.arr 5 1 (Jr (wrT (Qp (l.take k)) x j)))]) (fun _=>True) (fun j=>by simp only [go_sem]<;>rfl) (by simp only [go_sem,X.h,Int.natCast_zero]<;>rfl) ?_ (fun j hj Xj=>?_)
    ·trivial
    ·skip
     refine JB.reg ?_
     have X:=((Fx.mk hx).a hhd).a hfb
     refine JA.o1 JC ?_
     refine JA.nil ?_
     refine JB.cndS JC (fun hb36=>?_) (fun hb36=>?_)
     ·skip
      have hlt2:=ZU hb36
      obtain ⟨t,ht0⟩:=ZQ hb36
      have ht:=JIQ hta ht0
      have htl:=JKC ht
      have hj:=JJD (ZK t)
      rw [JPw] at hj
      have hwb:=JWc (b:=(Qp (l.take k))) hxok j
      have hws:=JWe (b:=(Qp (l.take k))) ht0
      have hrb:=JKB t
      refine JB.skipS (JB.blk (JB.reg ?_))
      have X:=((X.a ht0).a hj).a hrb
      refine JA.o1 YE ?_
      iterate 3 (refine JA.o1 JC ?_)
      refine JA.nil (JB.reg ?_)
      refine JA.o1 JC ?_
      refine JA.c1 (JIc t (JT9 ht)) JC JC ?_
      iterate 2 (refine JA.o1 JC ?_)
      refine JA.nil ?_
      refine JB.opk1 9 ?_
      iterate 2 (refine JF.o1 YE ?_)
      refine JF.calC 11 (ds:=(ZK t).map fun x=>D.raw (.string (bs x))) (args:=[.str [32]]) (args0:=[.str [32]]) (show Ja Tryz.prog 84 [.leaf (.d (JGF (ZK t))),.str [32]] (.str (Lib.join (ZK t) [32])) [] from JLg (ZK t) [32] (by simp [ZK]) (by rw [hj,htl];omega)) JV JD JD JD (fun B=>rfl) JD JD ?_
      refine JF.cal (JE8 (Bk.Qn t) (by rw [htl];omega)) JV JC J6 (Qm) JC JD JD ?_
      refine JF.o1 JC ?_
      refine JF.appF 11 45 (ds:=(ZK t).map fun x=>D.raw (.string (bs x))) (es:=[[D.raw (.string (bs (chk (Bk.Qn t))))]]) (i:=Tryz.t9) (z:=.string ⟨#[]⟩) ⟨JD,JD,JD,JD,JD,Tryz.underlying92,JI,⟨by kernel_rfl,by kernel_rfl,rfl⟩,by simp,⟨by simp [ZK],by rw [show Tryz.t9.bytes=16 by kernel_rfl];simp [ZK]⟩⟩ JD JD ?_ 
      refine JF.lendG (ds:=[]) [(990,5990),(901,5901)] JD (JGw (wrT (Qp (l.take k)) x j) (ZK t++[chk (Bk.Qn t)]) (by rw [JKB];simp [full]) (by simp [ZK]) (by rw [JKB,JMm ht];omega)) JV JD JD V28 rfl (by decide) JDF ZZ V41 rfl JD JD JD ?_
      refine JF.nil (Qs.fin QB QB ?_)
      refine JY.nrm (JB.reg1 ?_)
      refine JA.o1 J4 ?_
      refine JA.o1 JC ?_
      refine JA.nil ?_
      refine Jb.nxt ?_ ?_ ?_
      ·omega
      ·exact JO.kp [5,17,18,19,33,34,35] [5990,5901] (by simp only [go_sem,X.h]<;>first|((repeat' (first|with_reducible_and_instances rfl|refine Q8 ?_ ?_ ?_|refine Q7 ?_|refine YN ?_|refine Q9 ?_ ?_|refine Q2 ?_|refine Q3 ?_|refine YO ?_|refine Q6 ?_ ?_|refine YK ?_ ?_|refine YM ?_|refine YH ?_|(refine Q4 ?_;omega)));all_goals (rw [hws]))|rfl)
      ·trivial
     ·skip
      have hje:j=x.tries.length:=by have:=ZS hb36;omega
      subst hje
      have hwe:=JWd hx
      refine JB.exitS (Jb.ext (Yi.hit (JY.nrm (JB.reg1 ?_))))
      have X:=X.a hwe
      refine JA.o1 J4 ?_
      refine JA.o1 JC ?_
      refine JA.nil ?_
      refine Jb.nxt ?_ ?_ ?_
      ·omega
      ·exact JO.kp [5,17,18,19] [5990,5901] ZI
      ·trivial
   ·skip
    have hke:l.length≤k:=ZS hb20
    have htk:l.take k=l:=List.take_of_length_le hke
    refine JB.exitS (Jb.ext (JY.hit (JB.reg ?_)))
    have X:=((Fx.mk htk).a hr).a he0
    refine JA.o1 JBf ?_
    have X:=Fx.mk htk
    refine JA.eat (r:=.str (Qp l)) JV (JNk (n:=5990) (q:=5901) JD JC JC) ?_ 
    have X:=(X.a hr).a he0
    iterate 2 (refine JA.o1 JBf ?_)
    refine JA.nil ?_
    exact Ends.fin [] (rs:=[.tmp 2,.tmp 3]) rfl JBf JGX
end Go.Mw
namespace Go.Mw
open Go.Proofs
open Go.Bk
attribute [local go_sem] decide_true beq_self_eq_true bne_self_eq_false
@[go_sem] def Zl (g:Nat × Int):List D:=[.i g.1,.i g.2]
theorem Zs {α:Type}{l:List α}{k:Nat}{x:α}(h:l[k]? = some x):l.take (k+1)=l.take k++[x]:=by rw [List.take_add_one,h];rfl
theorem JUx (l:List Int):runs (J0 (l.take 1))=[]:=by cases l<;>rfl
theorem JUw {l:List Int}{k:Nat}{x y:Int}(hx:l[k]? = some x)(hy:l[k-1]? = some y)(hk:0<k):runs (J0 (l.take (k+1)))=JCb (runs (J0 (l.take k))) (x-y):=by
 have hne:l.take k≠[]:=by
  intro h
  have:=congrArg List.length h
  rw [List.length_take] at this
  have:=(List.getElem?_eq_some_iff.1 hx).1
  simp only [List.length_nil] at *;omega
 have hl:ZT (l.take k)=y:=by
  unfold ZT
  rw [List.getLast?_eq_getElem?,List.length_take]
  have:=(List.getElem?_eq_some_iff.1 hx).1
  rw [show min k l.length-1=k-1 by omega,List.getElem?_take,if_pos (by omega),hy];rfl
 rw [Zs hx,JEI _ _ hne,JKH,hl]
theorem JUB (gs:List (Nat × Int))(d:Int):(JCb gs d).length≤gs.length+1:=by
 by_cases h0:gs=[]
 ·subst h0;exact Nat.le_refl 1
 ·obtain ⟨a,⟨n,e⟩,rfl⟩:∃a b,gs=a++[b]:=⟨_,_,(List.dropLast_concat_getLast h0).symm⟩
  rw [JEZ]
  split<;>simp
theorem JGB (ds:List Int):(runs ds).length≤ds.length:=by
 induction ds using JEk with
 |nil=>exact Nat.le_refl _
 |snoc ds d ih=>
  have:=JUB (runs ds) d
  rw [JKH,List.length_append,List.length_singleton];omega
theorem JU5 (gs:List (Nat × Int))(g h:Nat × Int):((gs++[g]).map Zl).set gs.length (Zl h)=(gs++[h]).map Zl:=by
 rw [List.map_append,List.map_append]
 have e:gs.length=(gs.map Zl).length:=by simp
 rw [e,List.set_append_right _ _ (Nat.le_refl _)]
 simp
theorem JSU (gs:List (Nat × Int))(g:Nat × Int):((gs++[g]).map Zl)[gs.length]? = some (Zl g):=by simp
theorem JST (l:List Int)(k:Nat)(gs:List (Nat × Int))(m:Nat)(e:Int)(h:runs (J0 (l.take k))=gs++[(m,e)]):m≤l.length:=by
 have h2:=(JOP (J0 (l.take k))).2
 have h3:=JOn (runs (J0 (l.take k)))
 rw [h2,h,JBo,List.length_take] at h3
 unfold Jp at h3
 simp at h3
 omega
theorem JQu (l:List Int)(hl:l.length≤1000)(hb:∀n∈l,0≤n∧n≤1073741824):Ja Tryz.prog 47 [.leaf (.d (Q5 l))] (.leaf (.own 1000 0 (runs (J0 l)).length (runs (J0 l)).length)) [(1000,.arr 96 2 ((runs (J0 l)).map Zl))]:=by
 have hz0:runs (J0 (l.take 0))=[]:=by simp [J0,runs]
 have hz1:=JUx l
 refine Js Jc Tryz.func47 rfl (by simp only [List.length_cons,List.length_nil,Tryz.ntmps47];omega) JI rfl ?_
 refine JB.reg ?_
 refine JA.o ?_
 refine JA.nil (JB.assocS (JB.reg ?_))
 refine JA.nilo 2 1000 96 2 JD JD (by omega) (by omega) JD ?_
 iterate 3 (refine JA.o ?_)
 refine JA.nil (JB.blk ?_)
 have X:=Fx.mk hz0
 refine JB.forA [0,2,6,7,8] [1000] (l.length) (fun k=>[.slot 8 (.int k),.slot 2 (.leaf (.own 1000 0 (runs (J0 (l.take k))).length (runs (J0 (l.take k))).length)),.obj 1000 (.arr 96 2 ((runs (J0 (l.take k))).map Zl))]) (fun _=>True) (fun k=>by simp only [go_sem]<;>rfl) (by simp only [go_sem,X.h,Int.natCast_zero,List.map_nil,List.length_nil]<;>rfl) ?_ (fun k hk hX=>?_)
 ·trivial
 ·skip
  refine JB.reg ?_
  refine JA.o ?_
  refine JA.nil ?_
  refine JB.cndS JD (fun hb9=>?_) (fun hb9=>?_)
  ·skip
   have hlt:=ZU hb9
   obtain ⟨x,hx⟩:=ZQ hb9
   refine JB.skipS (JB.blk (JB.reg ?_))
   have X:=Fx.mk hx
   iterate 2 (refine JA.o1 JC ?_)
   refine JA.nil (JB.assocS (JB.reg ?_))
   iterate 2 (refine JA.o1 JC ?_)
   refine JA.nil ?_
   refine JB.cndS JC (fun hb12=>?_) (fun hb12=>?_)
   ·skip
    have hk0:k=0:=by have:=of_decide_eq_true hb12;omega
    subst hk0
    refine JB.exitS (JY.hit (JB.reg1 ?_))
    have X:=(X.a hz0).a hz1
    refine JA.o1 J4 ?_
    refine JA.o1 JC ?_
    refine JA.nil ?_
    refine Jb.nxt ?_ ?_ ?_
    ·omega
    ·exact JO.kp [0,2,6,7,8] [1000] (by simp only [go_sem,X.h]<;>first|((repeat' (first|with_reducible_and_instances rfl|refine Q8 ?_ ?_ ?_|refine Q7 ?_|refine YN ?_|refine Q9 ?_ ?_|refine Q2 ?_|refine Q3 ?_|refine YO ?_|refine Q6 ?_ ?_|refine YK ?_ ?_|refine YM ?_|refine YH ?_|(refine Q4 ?_;omega)));all_goals (first|(rw [hz1];rfl)|omega))|rfl)
    ·trivial
   ·skip
    have hk0:0<k:=by have:=of_decide_eq_false hb12;omega
    obtain ⟨y,hy⟩:∃y,l[k-1]? = some y:=⟨_,List.getElem?_eq_getElem (by omega)⟩
    have hxb:=hb x (List.mem_of_getElem? hx)
    have hyb:=hb y (List.mem_of_getElem? hy)
    have t0:((k:Int)-1).toNat=k-1:=by omega
    have hw:IntKind.i64.wrap (x-y)=x-y:=IntWalk.i64_in _ (by omega)
    have hst:=JUw hx hy hk0
    refine JB.skipS ?_
    by_cases hz:runs (J0 (l.take k))=[]
    ·skip
     have hn:=hst
     rw [hz] at hn
     have hn:runs (J0 (l.take (k+1)))=[(1,x-y)]:=hn
     have g1:decide (((0:Nat):Int)>0)=false:=rfl
     refine JB.opk 13 ?_
     have X:=((((X.a hy).a t0).a hw).a hz).a g1
     iterate 2 (refine JF.o1 JC ?_)
     refine JF.o1 YE ?_
     iterate 3 (refine JF.o1 JC ?_)
     refine JF.o1 J4 ?_
     refine JF.o1 YE ?_
     refine JF.o1 JC ?_
     refine JF.o1 J4 ?_
     refine JF.o1 JC ?_
     refine JF.nil (Qs.fin QB QB ?_)
     refine JB.assocS (JB.reg ?_)
     iterate 3 (refine JA.o1 JC ?_)
     refine JA.nil (JB.assocS (JB.reg ?_))
     iterate 3 (refine JA.o1 JC ?_)
     iterate 8 (refine JA.s ?_)
     refine JA.o1 JC ?_
     refine JA.nil ?_
     refine JB.cndS JC (fun hb36=>?_) (fun hb36=>?_)
     ·exact absurd hb36 (by simp)
     ·skip
      refine JB.skipS (JB.reg1 ?_)
      iterate 4 (refine JA.o1 JC ?_)
      refine JA.o1 V8 ?_
      refine JA.o1 JC ?_
      refine JA.nil (JY.nrm (JB.reg1 ?_))
      refine JA.o1 J4 ?_
      refine JA.o1 JC ?_
      refine JA.nil ?_
      refine Jb.nxt ?_ ?_ ?_
      ·omega
      ·exact JO.kp [0,2,6,7,8] [1000] (by simp only [go_sem,X.h]<;>first|((repeat' (first|with_reducible_and_instances rfl|refine Q8 ?_ ?_ ?_|refine Q7 ?_|refine YN ?_|refine Q9 ?_ ?_|refine Q2 ?_|refine Q3 ?_|refine YO ?_|refine Q6 ?_ ?_|refine YK ?_ ?_|refine YM ?_|refine YH ?_|(refine Q4 ?_;omega)));all_goals (first|(rw [hn];rfl)|omega))|rfl)
      ·trivial
    ·skip
     obtain ⟨gs,⟨m,e⟩,hg⟩:∃a b,runs (J0 (l.take k))=a++[b]:=⟨_,_,(List.dropLast_concat_getLast hz).symm⟩
     have hgl:(gs++[(m,e)]).length=gs.length+1:=by simp
     have g1:decide (((gs.length+1:Nat):Int)>0)=true:=decide_eq_true (by omega)
     have g1b:decide ((gs.length:Int)+1>0)=true:=decide_eq_true (by omega)
     have t1:((gs.length:Int)+1-1).toNat=gs.length:=by omega
     have t2:(((gs.length+1:Nat):Int)-1).toNat=gs.length:=by omega
     have hget:=JSU gs (m,e)
     have hml:=JST l k gs m e hg
     have hrl:=JGB (J0 (l.take k))
     rw [hg,hgl,JBo,List.length_take] at hrl
     have hwn:IntKind.i64.wrap (((gs.length+1:Nat):Int)-1)=(gs.length:Int):=by rw [IntWalk.i64_in _ (by omega)];omega
     by_cases he:e=x-y
     ·skip
      subst he
      have hn:=hst
      rw [hg,JEZ,if_pos rfl] at hn
      have hset:=JU5 gs (m,x-y) (m+1,x-y)
      have hset2:Zl (m+1,x-y)=[.i ((m+1:Nat):Int),.i (x-y)]:=rfl
      rw [hset2] at hset
      have hn2:(gs++[(m+1,x-y)]).length=gs.length+1:=by simp
      have hbq:((x-y)==(x-y))=true:=beq_self_eq_true _
      have hmc:IntKind.i64.wrap ((m:Int)+1)=((m+1:Nat):Int):=by rw [IntWalk.i64_in _ (by omega)];omega
      refine JB.opk 13 ?_
      have X:=(((((((((((((X.a hy).a t0).a hw).a hg).a hgl).a g1).a g1b).a t1).a t2).a hget).a hwn).a hbq).a hmc).a hset
      iterate 2 (refine JF.o1 JC ?_)
      refine JF.o1 YE ?_
      iterate 3 (refine JF.o1 JC ?_)
      refine JF.o1 J4 ?_
      refine JF.o1 YE ?_
      refine JF.o1 JC ?_
      refine JF.o1 J4 ?_
      refine JF.o1 JC ?_
      refine JF.nil (Qs.fin QB QB ?_)
      refine JB.assocS (JB.reg ?_)
      iterate 3 (refine JA.o1 JC ?_)
      refine JA.nil (JB.assocS (JB.reg ?_))
      iterate 3 (refine JA.o1 JC ?_)
      iterate 2 (refine JA.y1 JC ?_)
      refine JA.y1 J4 ?_
      refine JA.y1 YE ?_
      iterate 4 (refine JA.y1 JC ?_)
      refine JA.o1 JC ?_
      refine JA.nil ?_
      refine JB.cndS JC (fun hb36=>?_) (fun hb36=>?_)
      ·skip
       refine JB.assocS (JB.reg ?_)
       iterate 2 (refine JA.o1 JC ?_)
       refine JA.o1 J4 ?_
       refine JA.o1 YE ?_
       iterate 2 (refine JA.o1 JC ?_)
       refine JA.o1 J4 ?_
       refine JA.o1 YE ?_
       iterate 2 (refine JA.o1 JC ?_)
       refine JA.nil (JB.exitS (JY.hit (JB.reg1 ?_)))
       refine JA.o1 J4 ?_
       refine JA.o1 JC ?_
       refine JA.nil ?_
       refine Jb.nxt ?_ ?_ ?_
       ·omega
       ·exact JO.kp [0,2,6,7,8] [1000] (by simp only [go_sem,X.h]<;>first|((repeat' (first|with_reducible_and_instances rfl|refine Q8 ?_ ?_ ?_|refine Q7 ?_|refine YN ?_|refine Q9 ?_ ?_|refine Q2 ?_|refine Q3 ?_|refine YO ?_|refine Q6 ?_ ?_|refine YK ?_ ?_|refine YM ?_|refine YH ?_|(refine Q4 ?_;omega)));all_goals (first|(rw [hn];done)|(rw [hn];simp;done)|omega))|rfl)
       ·trivial
      ·exact absurd hb36 (by simp)
     ·skip
      have hn:=hst
      rw [hg,JEZ,if_neg he] at hn
      have hbq:(e==(x-y))=false:=by simpa using he
      refine JB.opk 13 ?_
      have X:=(((((((((((X.a hy).a t0).a hw).a hg).a hgl).a g1).a g1b).a t1).a t2).a hget).a hwn).a hbq
      iterate 2 (refine JF.o1 JC ?_)
      refine JF.o1 YE ?_
      iterate 3 (refine JF.o1 JC ?_)
      refine JF.o1 J4 ?_
      refine JF.o1 YE ?_
      refine JF.o1 JC ?_
      refine JF.o1 J4 ?_
      refine JF.o1 JC ?_
      refine JF.nil (Qs.fin QB QB ?_)
      refine JB.assocS (JB.reg ?_)
      iterate 3 (refine JA.o1 JC ?_)
      refine JA.nil (JB.assocS (JB.reg ?_))
      iterate 3 (refine JA.o1 JC ?_)
      iterate 2 (refine JA.y1 JC ?_)
      refine JA.y1 J4 ?_
      refine JA.y1 YE ?_
      iterate 4 (refine JA.y1 JC ?_)
      refine JA.o1 JC ?_
      refine JA.nil ?_
      refine JB.cndS JC (fun hb36=>?_) (fun hb36=>?_)
      ·exact absurd hb36 (by simp)
      ·skip
       refine JB.skipS (JB.reg1 ?_)
       iterate 4 (refine JA.o1 JC ?_)
       refine JA.o1 V8 ?_
       refine JA.o1 JC ?_
       refine JA.nil (JY.nrm (JB.reg1 ?_))
       refine JA.o1 J4 ?_
       refine JA.o1 JC ?_
       refine JA.nil ?_
       refine Jb.nxt ?_ ?_ ?_
       ·omega
       ·exact JO.kp [0,2,6,7,8] [1000] (by simp only [go_sem,X.h]<;>first|((repeat' (first|with_reducible_and_instances rfl|refine Q8 ?_ ?_ ?_|refine Q7 ?_|refine YN ?_|refine Q9 ?_ ?_|refine Q2 ?_|refine Q3 ?_|refine YO ?_|refine Q6 ?_ ?_|refine YK ?_ ?_|refine YM ?_|refine YH ?_|(refine Q4 ?_;omega)));all_goals (first|(rw [hn];simp [Zl];done)|(rw [hn];simp;omega)|omega))|rfl)
       ·trivial
  ·skip
   have hke:l.length≤k:=ZS hb9
   have htk:l.take k=l:=List.take_of_length_le hke
   refine JB.exitS (Jb.ext (JY.hit (JB.reg ?_)))
   have X:=Fx.mk htk
   iterate 2 (refine JA.o1 JC ?_)
   refine JA.nil ?_
   exact Ends.fin [1000] (rs:=[.tmp 2]) rfl JC YV
theorem JLn (l:List Int)(hl:l.length≤1000)(hb:∀n∈l,0≤n∧n≤1073741824):Ja Tryz.prog 47 [.leaf (.d (Q5 l))] (.leaf (.d (.sl 2 ((runs (J0 l)).map Zl)))) []:=
 Ja.gho (JQu l hl hb) (by
  have ht:List.take (runs (J0 l)).length (List.map Zl (runs (J0 l)))=List.map Zl (runs (J0 l)):=List.take_of_length_le (by simp)
  have e:(JE.mk [(0,.leaf (.own 1000 0 (runs (J0 l)).length (runs (J0 l)).length))] [(1000,.arr 96 2 ((runs (J0 l)).map Zl))] (.ret (.leaf (.d (.sl 2 ((runs (J0 l)).map Zl)))) [])).frz 1000=⟨[(0,.leaf (.d (.sl 2 ((runs (J0 l)).map Zl))))],[],.ret (.leaf (.d (.sl 2 ((runs (J0 l)).map Zl)))) []⟩:=by
   simp only [go_sem,ht]<;>rfl
  exact e▸JO.frz _ 1000)
theorem JLw (g:Nat × Int)(h1:g.1≤1000)(h2:0≤g.2)(h3:g.2≤1073741824):Ja Tryz.prog 48 [.val true ((Zl g).map .d)] (.str (Zn g)) []:=by
 have hta:=JAa (n:=g.1) (k:=20) (by omega) (by omega)
 have htb:=JAa (n:=g.2.toNat) (k:=20) (by omega) (by omega)
 refine Js Jc Tryz.func48 rfl (by simp only [List.length_cons,List.length_nil,Tryz.ntmps48];omega) JI rfl ?_
 refine JB.reg ?_
 iterate 2 (refine JA.o ?_)
 refine JA.nil (JB.assocS (JB.reg ?_))
 iterate 3 (refine JA.o ?_)
 refine JA.nil ?_
 refine JB.cndS JD (fun hb5=>?_) (fun hb5=>?_)
 ·skip
  have h:g.1=1:=by have:=hb5;simp at this;omega
  have hr:Zn g=Ji g.2.toNat:=if_pos h
  refine JB.assocS (JB.reg ?_)
  have X:=Fx.mk hr
  iterate 2 (refine JA.o1 JC ?_)
  refine JA.c1 (JGs g.2 h2 (by omega)) JC JC ?_
  refine JA.o1 JC ?_
  refine JA.nil (JB.retS ?_)
  exact Ends.fin [] (rs:=[.tmp 2]) rfl JC YV
 ·skip
  have h:g.1≠1:=by have:=hb5;simp at this;omega
  have hr:Zn g=Ji g.1++120::Ji g.2.toNat:=if_neg h
  refine JB.skipS ?_
  refine JB.opk 11 ?_
  have X:=Fx.mk hr
  iterate 2 (refine JF.o1 JC ?_)
  refine JF.cal (JGt g.1 (by omega)) JV JC J6 (Qm) JC JD JD ?_
  refine JF.o1 J4 ?_
  iterate 2 (refine JF.o1 JC ?_)
  refine JF.cal (JGs g.2 h2 (by omega)) JV JC J6 (Qm) JC JD JD ?_
  refine JF.o1 J4 ?_
  refine JF.o1 JC ?_
  refine JF.nil (Qs.fin QB QB ?_)
  exact Ends.fin [] (rs:=[.tmp 2]) rfl JC (by simp only [go_sem,X.h]<;>first|rfl|((repeat' (first|with_reducible_and_instances rfl|refine Q8 ?_ ?_ ?_|refine Q7 ?_|refine YN ?_|refine Q9 ?_ ?_|refine Q2 ?_|refine Q3 ?_|refine YO ?_|refine Q6 ?_ ?_|refine YK ?_ ?_|refine YM ?_|refine YH ?_|(refine Q4 ?_;omega)));all_goals (simp;done)))
end Go.Mw
namespace Go.Mw
open Go.Proofs
open Go.Bk
attribute [local go_sem] decide_true beq_self_eq_true bne_self_eq_false
def JCi (x:Pg):List Bs:=Ji x.house.toNat::(match x.reads with
 |[]=>[]
 |r::_=>[Ji r.toNat])
def Z4 (x:Pg)(j:Nat):List Bs:=JCi x++((runs (J0 x.reads)).take j).map Zn
theorem JPO (x:Pg):Z4 x 0=JCi x:=by simp [Z4]
theorem JPN {x:Pg}{j:Nat}{g:Nat × Int}(h:(runs (J0 x.reads))[j]? = some g):Z4 x (j+1)=Z4 x j++[Zn g]:=by
 unfold Z4
 rw [Zs h,List.map_append,List.append_assoc];rfl
theorem JPL (x:Pg):Z4 x (runs (J0 x.reads)).length=Yh x:=by
 unfold Z4 JCi Yh
 rw [List.take_length]
 cases hr:x.reads with
 |nil=>rfl
 |cons r t=>simp
theorem JPM {x:Pg}(h:ZF x=true)(j:Nat):(Z4 x j).length≤100:=by
 unfold ZF at h
 simp only [Bool.and_eq_true,decide_eq_true_eq] at h
 have h2:=h.1.1.2
 have hrl:=JGB (J0 x.reads)
 rw [JBo] at hrl
 have hp:(JCi x).length≤2:=by unfold JCi;split<;>simp
 unfold Z4
 rw [List.length_append,List.length_map,List.length_take];omega
theorem JTp {l:List Pg}{k:Nat}{x:Pg}(h:l[k]? = some x):YZ (l.take (k+1))=YZ (l.take k)++Zf x++[10]:=by
 rw [Zs h,JTq];simp [YZ,ends]
theorem JM8 (x:Pg):Zf x≠[]:=by
 unfold Zf Yh
 split
 ·exact JGK _
 ·rw [JED _ (by simp)];simp
theorem JLQ:∀(ws:List Bs) (n:Nat),(∀w∈ws,w.length≤n)→(blanks ws).length≤ws.length*(n+1)
 |[],n,_=>by simp [blanks]
 |[a],n,h=>by have:=h a (by simp);simp [blanks];omega
 |a::b::l,n,h=>by
  have h1:=JLQ (b::l) n fun w hw=>h w (by simp [hw])
  have h2:=h a (by simp)
  rw [JED a (by simp),List.length_append,List.length_cons,List.length_cons,Nat.succ_mul]
  omega
theorem JKe {x:Pg}(h:ZF x=true):(Yh x).length≤17∧∀w∈Yh x,w.length≤24:=by
 have h':=h
 unfold ZF at h'
 simp only [Bool.and_eq_true,decide_eq_true_eq,ZD] at h'
 obtain ⟨⟨⟨h1,h2⟩,h3⟩,h4⟩:=h'
 have h3':=List.all_eq_true.1 h3
 unfold Yh
 cases hr:x.reads with
 |nil=>exact ⟨by simp,fun w hw=>by simp at hw;subst hw;have:=JAa (n:=x.house.toNat) (k:=20) (by omega) (by omega);omega⟩
 |cons r t=>
  have hp:=JF2 h hr
  have hrl:=JGB (J0 x.reads)
  rw [JBo,hr] at hrl
  rw [hr] at h2
  simp only [List.length_cons] at h2 hrl
  refine ⟨by simp only [List.length_cons,List.length_map];rw [←hr] at *;rw [hr] at hrl ⊢;omega,fun w hw=>?_⟩
  have hr0:=ZD.1 (h3' r (by rw [hr];simp))
  simp only [List.mem_cons] at hw
  rcases hw with rfl|rfl|hw
  ·have:=JAa (n:=x.house.toNat) (k:=20) (by omega) (by omega);omega
  ·have:=JAa (n:=r.toNat) (k:=20) (by omega) (by omega);omega
  ·obtain ⟨g,hg,rfl⟩:=List.mem_map.1 hw
   rw [←hr] at hg
   have hb:=hp.by0 g hg
   have hn:g.1≤16:=by
    have hl:=hp.len
    have:g.1≤Jp (runs (J0 x.reads)):=by
     have hm:g.1∈(runs (J0 x.reads)).map Prod.fst:=List.mem_map.2 ⟨g,hg,rfl⟩
     unfold Jp
     generalize (runs (J0 x.reads)).map Prod.fst=q at hm
     induction q with
     |nil=>cases hm
     |cons a q ih=>
      rcases List.mem_cons.1 hm with e|e
      ·subst e;simp
      ·have:=ih e;simp;omega
    omega
   have ha:=JAa (n:=g.1) (k:=2) (by omega) (by omega)
   have hb2:=JAa (n:=g.2.toNat) (k:=20) (by omega) (by omega)
   unfold Zn
   split
   ·omega
   ·simp only [List.length_append,List.length_cons];omega
theorem JJN {x:Pg}(h:ZF x=true):(Zf x).length≤425:=by
 obtain ⟨h1,h2⟩:=JKe h
 have:=JLQ (Yh x) 24 h2
 unfold Zf
 have h3:(Yh x).length*25≤17*25:=Nat.mul_le_mul_right _ h1
 omega
theorem JJr:∀(l:List Pg),l.all ZF=true→(YZ l).length≤426*l.length
 |[],_=>by simp [YZ,ends]
 |x::l,h=>by
  simp only [List.all_cons,Bool.and_eq_true] at h
  have:=JJr l h.2
  have h1:=JJN h.1
  have e:YZ (x::l)=Zf x++10::YZ l:=by unfold YZ;rw [List.map_cons,Zd]
  rw [e,List.length_append,List.length_cons,List.length_cons];omega
theorem JMo {x:Pg}(h:ZF x=true){r:Int}{t:List Int}(hr:x.reads=r::t){j:Nat}{g:Nat × Int}(hg:(runs (J0 x.reads))[j]? = some g):g.1≤16:=by
 have hp:=JF2 h hr
 have hl:=hp.len
 have:g.1≤Jp (runs (J0 x.reads)):=by
  have hm:g.1∈(runs (J0 x.reads)).map Prod.fst:=List.mem_map.2 ⟨g,List.mem_of_getElem? hg,rfl⟩
  unfold Jp
  generalize (runs (J0 x.reads)).map Prod.fst=q at hm
  induction q with
  |nil=>cases hm
  |cons a q ih=>
   rcases List.mem_cons.1 hm with e|e
   ·subst e;simp
   ·have:=ih e;simp;omega
 omega
theorem JLi (l:List Pg)(hl:l.length≤1000)(hz:∀x∈l,x.reads.length≤1000):Ja Tryz.prog 17 [.leaf (.d (JAU l))] (JHz (ZL l) (Yf l)) []:=by
 refine Js Jc Tryz.func17 rfl (by simp only [List.length_cons,List.length_nil,Tryz.ntmps17];omega) JI rfl ?_
 refine JB.reg ?_
 iterate 2 (refine JA.o ?_)
 refine JA.nil (JB.assocS (JB.reg ?_))
 refine JA.o ?_
 refine JA.c1 (JLs l hl hz) JD JD ?_
 refine JA.o ?_
 refine JA.nil (JB.assocS (JB.reg ?_))
 iterate 2 (refine JA.o ?_)
 refine JA.nil ?_
 refine JB.cndS JD (fun hb14=>?_) (fun hb14=>?_)
 ·skip
  have hne:Yf l≠0:=by simpa using hb14
  have hr:ZL l=[]:=if_neg hne
  refine JB.assocS (JB.reg ?_)
  have X:=Fx.mk hr
  iterate 3 (refine JA.o1 JBf ?_)
  refine JA.nil (JB.retS ?_)
  exact Ends.fin [] (rs:=[.tmp 2,.tmp 3]) rfl JBf JGX
 ·skip
  have he0:Yf l=0:=by simpa using hb14
  have hr:ZL l=YZ l:=if_pos he0
  obtain ⟨h32,hok,_⟩:=JCR he0
  have hz0:YZ (l.take 0)=[]:=rfl
  refine JB.skipS (JB.reg ?_)
  refine JA.alcT 5990 JD JD (by omega) rfl JD ?_ 
  refine JA.arr0 5901 5 1 JD (by omega) (by omega) JD ?_ 
  refine JA.nil (JB.assocS (JB.reg ?_))
  iterate 3 (refine JA.o ?_)
  refine JA.nil (JB.blk ?_)
  have X:=Fx.mk hz0
  refine JB.forA [5,16,17,18] [5990,5901] (l.length) (fun k=>[.slot 18 (.int k),.obj 5990 (.cells (YL 5990 5901 (YZ (l.take k)))),.obj 5901 (.arr 5 1 (Jr (YZ (l.take k))))]) (fun _=>True) (fun k=>by simp only [go_sem]<;>rfl) (by simp only [go_sem,X.h,Int.natCast_zero,JHk,JEE]<;>rfl) ?_ (fun k hk hX=>?_)
  ·trivial
  ·skip
   refine JB.reg ?_
   refine JA.o ?_
   refine JA.nil ?_
   refine JB.cndS JD (fun hb19=>?_) (fun hb19=>?_)
   ·skip
    have hlt:=ZU hb19
    obtain ⟨x,hx⟩:=ZQ hb19
    have hxok:=JIQ hok hx
    have hxo:=hxok
    unfold ZF at hxo
    simp only [Bool.and_eq_true,decide_eq_true_eq,ZD] at hxo
    obtain ⟨⟨⟨hh,hrn16⟩,hra⟩,_⟩:=hxo
    have hrd:=List.all_eq_true.1 hra
    have hbk:=JJr _ (JLF k hok)
    have hbl:(l.take k).length≤32:=by rw [List.length_take];omega
    have hps:=JTp hx
    refine JB.skipS (JB.blk (JB.reg ?_))
    have X:=Fx.mk hx
    refine JA.o1 YE ?_
    iterate 3 (refine JA.o1 JC ?_)
    refine JA.nil (JB.reg ?_)
    iterate 2 (refine JA.o1 JC ?_)
    refine JA.c1 (JGs x.house hh.1 (by omega)) JC JC ?_
    iterate 2 (refine JA.o1 JC ?_)
    refine JA.nil (JB.assocS ?_)
    by_cases hz1:x.reads=[]
    ·skip
     have hwp:JCi x=[Ji x.house.toNat]:=by unfold JCi;rw [hz1]
     have hp0:decide (((0:Nat):Int)>0)=false:=rfl
     have hrn:runs (J0 ([]:List Int))=[]:=by simp [J0,runs]
     have hw0:Z4 x 0=[Ji x.house.toNat]:=by rw [JPO,hwp]
     have hgd:decide ((x.reads.length:Int)>0)=false:=by rw [hz1];rfl
     refine JB.reg ?_
     have X:=X.a hgd
     iterate 4 (refine JA.o1 JC ?_)
     refine JA.nil ?_
     refine JB.cndS JC (fun hb29=>?_) (fun hb29=>?_)
     ·exact absurd hb29 (by simp)
     ·skip
      refine JB.skipS (JB.assocS (JB.reg ?_))
      iterate 2 (refine JA.o1 JC ?_)
      refine JA.c1 (JLn x.reads (hz x (List.mem_of_getElem? hx)) (fun n hn=>ZD.1 (hrd n hn))) JC JC ?_
      iterate 2 (refine JA.o1 JC ?_)
      refine JA.nil (JB.blk ?_)
      have X:=X.a hw0
      refine JB.forA [5,8,16,17,18,40,41,42] [5990,5901,25] ((runs (J0 x.reads)).length) (fun j=>[.slot 42 (.int j),.slot 8 (.leaf (.own 25 0 (Z4 x j).length (Z4 x j).length)),.obj 25 (.arr 9 1 ((Z4 x j).map encStr))]) (fun _=>True) (fun j=>by simp only [go_sem]<;>rfl) (by simp only [go_sem,X.h,Int.natCast_zero,List.map_cons,List.map_nil,List.length_cons,List.length_nil]<;>rfl) ?_ (fun j hj Xj=>?_)
      ·trivial
      ·skip
       refine JB.reg ?_
       have X:=(Fx.mk hx).a hgd
       refine JA.o1 JC ?_
       refine JA.nil ?_
       refine JB.cndS JC (fun hb43=>?_) (fun hb43=>?_)
       ·skip
        have hlt2:=ZU hb43
        obtain ⟨g,hg⟩:=ZQ hb43
        have hgs:=JPN hg
        obtain ⟨q0,q1,hq⟩:∃r t,x.reads=r::t:=by
         cases h:x.reads with
         |nil=>rw [h] at hg;simp [J0,runs] at hg
         |cons r t=>exact ⟨r,t,rfl⟩
        have hpr:=JF2 hxok hq
        have hgb:=hpr.by0 g (List.mem_of_getElem? hg)
        have hg1:=JEP _ hpr.good g (List.mem_of_getElem? hg)
        have hgm:=JMo hxok hq hg
        have hwl:=JPM hxok j
        have hrq:=JGB (J0 x.reads)
        rw [JBo] at hrq
        refine JB.skipS (JB.blk (JB.reg ?_))
        have X:=X.a hg
        refine JA.o1 YE ?_
        iterate 3 (refine JA.o1 JC ?_)
        refine JA.nil (JB.reg1 ?_)
        iterate 2 (refine JA.o1 JC ?_)
        refine JA.c1 (JLw g (by omega) hgb.1 hgb.2) JC JC ?_
        refine JA.o1 JC ?_
        refine JA.o1 V8 ?_
        refine JA.o1 JC ?_
        refine JA.nil (JY.nrm (JB.reg1 ?_))
        refine JA.o1 J4 ?_
        refine JA.o1 JC ?_
        refine JA.nil ?_
        refine Jb.nxt ?_ ?_ ?_
        ·omega
        ·exact JO.kp [5,8,16,17,18,40,41,42] [5990,5901,25] (by simp only [go_sem,X.h]<;>first|((repeat' (first|with_reducible_and_instances rfl|refine Q8 ?_ ?_ ?_|refine Q7 ?_|refine YN ?_|refine Q9 ?_ ?_|refine Q2 ?_|refine Q3 ?_|refine YO ?_|refine Q6 ?_ ?_|refine YK ?_ ?_|refine YM ?_|refine YH ?_|(refine Q4 ?_;omega)));all_goals (first|(rw [hgs];simp [encStr];done)|(rw [hgs];simp;omega)|omega))|rfl)
        ·trivial
       ·skip
        have hje:j=(runs (J0 x.reads)).length:=by have:=ZS hb43;omega
        subst hje
        have hwa:=JPL x
        have htw:List.take (Yh x).length (List.map encStr (Yh x))=List.map encStr (Yh x):=List.take_of_length_le (by simp)
        have hpl:blanks (Yh x)=Zf x:=rfl
        refine JB.exitS (Jb.ext (JY.hit (JB.reg1 ?_)))
        have X:=(X.a hwa).a hpl
        refine JA.o1 JC ?_
        have X:=(Fx.mk hwa).a htw
        refine JA.frz 25 JC ?_
        refine JA.lendG [(990,5990),(901,5901)] JD (JGw (YZ (l.take k)) (Yh x) (JM8 x) (by have:=(JKe hxok).1;omega) (by have:=JJN hxok;unfold Zf at this;omega)) JV (.inl ⟨[],by simp only [go_sem]<;>rfl,rfl⟩) JD V9 rfl (by decide) JDF ZZ V41 Zv JD ?_
        refine JA.nil (JY.nrm (JB.reg1 ?_))
        have X:=(((Fx.mk hx).a hgd).a hwa).a hpl
        refine JA.o1 J4 ?_
        refine JA.o1 JC ?_
        refine JA.nil ?_
        refine Jb.nxt ?_ ?_ ?_
        ·omega
        ·exact JO.kp [5,16,17,18] [5990,5901] (by simp only [go_sem,X.h]<;>first|((repeat' (first|with_reducible_and_instances rfl|refine Q8 ?_ ?_ ?_|refine Q7 ?_|refine YN ?_|refine Q9 ?_ ?_|refine Q2 ?_|refine Q3 ?_|refine YO ?_|refine Q6 ?_ ?_|refine YK ?_ ?_|refine YM ?_|refine YH ?_|(refine Q4 ?_;omega)));all_goals (rw [hps]))|rfl)
        ·trivial
    ·skip
     obtain ⟨r,rt,hz2⟩:∃r t,x.reads=r::t:=by cases h:x.reads with|nil=>exact absurd h hz1|cons r t=>exact ⟨r,t,rfl⟩
     have hwp:JCi x=[Ji x.house.toNat,Ji r.toNat]:=by unfold JCi;rw [hz2]
     have hw0:Z4 x 0=[Ji x.house.toNat,Ji r.toNat]:=by rw [JPO,hwp]
     have hrl0:0<x.reads.length:=by rw [hz2];simp
     have hgd:decide ((x.reads.length:Int)>0)=true:=decide_eq_true (by omega)
     have hr0:x.reads[0]? = some r:=by rw [hz2];rfl
     have hrb:=ZD.1 (hrd r (List.mem_of_getElem? hr0))
     refine JB.reg ?_
     have X:=(X.a hgd).a hr0
     iterate 4 (refine JA.o1 Y6 ?_)
     refine JA.nil ?_
     refine JB.cndS Y6 (fun hb29=>?_) (fun hb29=>?_)
     ·skip
      refine JB.reg ?_
      iterate 3 (refine JA.o1 Y6 ?_)
      refine JA.o1 V73 ?_
      refine JA.o1 Y6 ?_
      refine JA.c1 (JGs r hrb.1 (by omega)) Y6 Y6 ?_
      refine JA.o1 Y6 ?_
      refine JA.o1 V7 ?_
      refine JA.o1 Y6 ?_
      refine JA.nil (JB.assocS (JB.reg ?_))
      iterate 2 (refine JA.o1 Y6 ?_)
      refine JA.c1 (JLn x.reads (hz x (List.mem_of_getElem? hx)) (fun n hn=>ZD.1 (hrd n hn))) Y6 Y6 ?_
      iterate 2 (refine JA.o1 Y6 ?_)
      refine JA.nil (JB.blk ?_)
      have X:=X.a hw0
      refine JB.forA [5,8,16,17,18,40,41,42] [5990,5901,25] ((runs (J0 x.reads)).length) (fun j=>[.slot 42 (.int j),.slot 8 (.leaf (.own 25 0 (Z4 x j).length (Z4 x j).length)),.obj 25 (.arr 9 1 ((Z4 x j).map encStr))]) (fun _=>True) (fun j=>by simp only [go_sem]<;>rfl) (by simp only [go_sem,X.h,Int.toNat_zero,Int.natCast_zero,List.map_cons,List.map_nil,List.length_cons,List.length_nil]<;>rfl) ?_ (fun j hj Xj=>?_)
      ·trivial
      ·skip
       refine JB.reg ?_
       have X:=((Fx.mk hx).a hgd).a hr0
       refine JA.o1 Y6 ?_
       refine JA.nil ?_
       refine JB.cndS Y6 (fun hb43=>?_) (fun hb43=>?_)
       ·skip
        have hlt2:=ZU hb43
        obtain ⟨g,hg⟩:=ZQ hb43
        have hgs:=JPN hg
        obtain ⟨q0,q1,hq⟩:∃r t,x.reads=r::t:=by
         cases h:x.reads with
         |nil=>rw [h] at hg;simp [J0,runs] at hg
         |cons r t=>exact ⟨r,t,rfl⟩
        have hpr:=JF2 hxok hq
        have hgb:=hpr.by0 g (List.mem_of_getElem? hg)
        have hg1:=JEP _ hpr.good g (List.mem_of_getElem? hg)
        have hgm:=JMo hxok hq hg
        have hwl:=JPM hxok j
        have hrq:=JGB (J0 x.reads)
        rw [JBo] at hrq
        refine JB.skipS (JB.blk (JB.reg ?_))
        have X:=X.a hg
        refine JA.o1 V73 ?_
        iterate 3 (refine JA.o1 Y6 ?_)
        refine JA.nil (JB.reg1 ?_)
        iterate 2 (refine JA.o1 Y6 ?_)
        refine JA.c1 (JLw g (by omega) hgb.1 hgb.2) Y6 Y6 ?_
        refine JA.o1 Y6 ?_
        refine JA.o1 V7 ?_
        refine JA.o1 Y6 ?_
        refine JA.nil (JY.nrm (JB.reg1 ?_))
        refine JA.o1 V61 ?_
        refine JA.o1 Y6 ?_
        refine JA.nil ?_
        refine Jb.nxt ?_ ?_ ?_
        ·omega
        ·exact JO.kp [5,8,16,17,18,40,41,42] [5990,5901,25] (by simp only [go_sem,X.h,Int.toNat_zero]<;>first|((repeat' (first|with_reducible_and_instances rfl|refine Q8 ?_ ?_ ?_|refine Q7 ?_|refine YN ?_|refine Q9 ?_ ?_|refine Q2 ?_|refine Q3 ?_|refine YO ?_|refine Q6 ?_ ?_|refine YK ?_ ?_|refine YM ?_|refine YH ?_|(refine Q4 ?_;omega)));all_goals (first|(rw [hgs];simp [encStr];done)|(rw [hgs];simp;omega)|omega))|rfl)
        ·trivial
       ·skip
        have hje:j=(runs (J0 x.reads)).length:=by have:=ZS hb43;omega
        subst hje
        have hwa:=JPL x
        have htw:List.take (Yh x).length (List.map encStr (Yh x))=List.map encStr (Yh x):=List.take_of_length_le (by simp)
        have hpl:blanks (Yh x)=Zf x:=rfl
        refine JB.exitS (Jb.ext (JY.hit (JB.reg1 ?_)))
        have X:=(X.a hwa).a hpl
        refine JA.o1 Y6 ?_
        have X:=(Fx.mk hwa).a htw
        refine JA.frz 25 JC ?_
        refine JA.lendG [(990,5990),(901,5901)] JD (JGw (YZ (l.take k)) (Yh x) (JM8 x) (by have:=(JKe hxok).1;omega) (by have:=JJN hxok;unfold Zf at this;omega)) JV (.inl ⟨[],by simp only [go_sem]<;>rfl,rfl⟩) JD V9 rfl (by decide) JDF ZZ V41 Zv JD ?_
        refine JA.nil (JY.nrm (JB.reg1 ?_))
        have X:=((((Fx.mk hx).a hgd).a hr0).a hwa).a hpl
        refine JA.o1 V61 ?_
        refine JA.o1 Y6 ?_
        refine JA.nil ?_
        refine Jb.nxt ?_ ?_ ?_
        ·omega
        ·exact JO.kp [5,16,17,18] [5990,5901] (by simp only [go_sem,X.h,Int.toNat_zero]<;>first|((repeat' (first|with_reducible_and_instances rfl|refine Q8 ?_ ?_ ?_|refine Q7 ?_|refine YN ?_|refine Q9 ?_ ?_|refine Q2 ?_|refine Q3 ?_|refine YO ?_|refine Q6 ?_ ?_|refine YK ?_ ?_|refine YM ?_|refine YH ?_|(refine Q4 ?_;omega)));all_goals (rw [hps]))|rfl)
        ·trivial
     ·exact absurd hb29 (by simp)
   ·skip
    have hke:l.length≤k:=ZS hb19
    have htk:l.take k=l:=List.take_of_length_le hke
    refine JB.exitS (Jb.ext (JY.hit (JB.reg ?_)))
    have X:=((Fx.mk htk).a hr).a he0
    refine JA.o1 JBf ?_
    have X:=Fx.mk htk
    refine JA.eat (r:=.str (YZ l)) JV (JNk (n:=5990) (q:=5901) JD JC JC) ?_ 
    have X:=(X.a hr).a he0
    iterate 2 (refine JA.o1 JBf ?_)
    refine JA.nil ?_
    exact Ends.fin [] (rs:=[.tmp 2,.tmp 3]) rfl JBf JGX
end Go.Mw
namespace Go.Mw
open Go.Proofs Go.RowKit
section
variable {T b:Nat} {lr x y z:Value}
theorem JWB {g l cap:Nat}(w:World)(hbk:w.heap[b]? = some (.cells #[.slice (some ⟨g,0,none⟩) l cap,.int .i64 0,lr,x,y,z] T (0,0)))(hroom:l+1≤cap)(hcap:cap≤maxLen) :
  Calls Tryz.prog 157 #[.pointer (some ⟨b,0,none⟩),.int .i64 1] w fun e w'=>e=.returned (.tuple #[.int .i64 l,.bool true])∧w'=w.setCell ⟨b,0,none⟩ (.slice (some ⟨g,0,none⟩) (l+1) cap):=by
 unfold maxLen at hcap
 have c0:w.cell? ⟨b,0,none⟩=some (.slice (some ⟨g,0,none⟩) l cap):=by rw [Lib.cell_of_heap hbk];rfl
 have f0:w.frozen? ⟨b,0,none⟩=false:=Lib.frozen_of_heap hbk _
 go_enter Tryz.func157,Tryz.ntmps157
 go_wp2
 go_ret2
 exact ⟨rfl,rfl⟩
theorem JO4 {g l:Nat}(w:World)(hbk:w.heap[b]? = some (.cells #[.slice (some ⟨g,0,none⟩) l l,.int .i64 0,lr,x,y,z] T (0,0)))(hcap:l≤140737488355328) :
  Calls Tryz.prog 157 #[.pointer (some ⟨b,0,none⟩),.int .i64 1] w fun e w'=>e=.returned (.tuple #[.int .i64 0,.bool false])∧w'=w:=by
 have c0:w.cell? ⟨b,0,none⟩=some (.slice (some ⟨g,0,none⟩) l l):=by rw [Lib.cell_of_heap hbk];rfl
 go_enter Tryz.func157,Tryz.ntmps157
 go_wp2
 go_ret2
 exact ⟨rfl,rfl⟩
theorem JO5 (w:World)(hbk:w.heap[b]? = some (.cells #[.slice none 0 0,.int .i64 0,lr,x,y,z] T (0,0))) :
  Calls Tryz.prog 157 #[.pointer (some ⟨b,0,none⟩),.int .i64 1] w fun e w'=>e=.returned (.tuple #[.int .i64 0,.bool false])∧w'=w:=by
 have c0:w.cell? ⟨b,0,none⟩=some (.slice none 0 0):=by rw [Lib.cell_of_heap hbk];rfl
 go_enter Tryz.func157,Tryz.ntmps157
 go_wp2
 go_ret2
 exact ⟨rfl,rfl⟩
theorem len_nil (w:World)(hbk:w.heap[b]? = some (.cells #[.slice none 0 0,.int .i64 0,lr,x,y,z] T (0,0))) :
  Calls Tryz.prog 189 #[.pointer (some ⟨b,0,none⟩)] w fun e w'=>e=.returned (.int .i64 0)∧w'=w.drew:=by
 have c0:w.drew.cell? ⟨b,0,none⟩=some (.slice none 0 0):=by rw [Lib.cell_of_heap (w:=w.drew) hbk];rfl
 have c1:w.drew.cell? ⟨b,1,none⟩=some (.int .i64 0):=by rw [Lib.cell_of_heap (w:=w.drew) hbk];rfl
 go_enter Tryz.func189,Tryz.ntmps189
 go_wp2
 go_region
 all_goals (go_wp2;go_ret;exact ⟨rfl,rfl⟩)
theorem JSl {g l cap:Nat}(w:World)(hbk:w.heap[b]? = some (.cells #[.slice (some ⟨g,0,none⟩) l cap,.int .i64 0,lr,x,y,z] T (0,0)))(hl:l≤140737488355328) :
  Calls Tryz.prog 189 #[.pointer (some ⟨b,0,none⟩)] w fun e w'=>e=.returned (.int .i64 l)∧w'=w.drew:=by
 have c0:w.drew.cell? ⟨b,0,none⟩=some (.slice (some ⟨g,0,none⟩) l cap):=by rw [Lib.cell_of_heap (w:=w.drew) hbk];rfl
 have c1:w.drew.cell? ⟨b,1,none⟩=some (.int .i64 0):=by rw [Lib.cell_of_heap (w:=w.drew) hbk];rfl
 go_enter Tryz.func189,Tryz.ntmps189
 go_wp2
 go_region
 all_goals (go_wp2;go_ret;exact ⟨by simp,rfl⟩)
end
end Go.Mw
namespace Go.Mw
open Go.Proofs Go.RowKit
section
variable {T b:Nat} {lr x y z:Value}
theorem Y5 (w:World)(a:Addr)(v:Value):(w.setCell a v).heap.size=w.heap.size:=by simp [World.setCell]
theorem JSa (w:World)(hbk:w.heap[b]? = some (.cells #[.slice none 0 0,.int .i64 0,lr,x,y,z] T (0,0))) :
  Calls Tryz.prog 158 #[.pointer (some ⟨b,0,none⟩),.int .i64 1] w fun e w'=>e=.returned (.int .i64 0)∧∃cur,cur.size=64∧w'.heap[w.heap.size]? = some (.cells cur 5 (0,0)) ∧
   w'.heap[b]? = some (.cells #[.slice (some ⟨w.heap.size,0,none⟩) 1 64,.int .i64 0,lr,x,y,z] T (0,0))∧w.grownBy w' (some b):=by
 have hbd:w.drew.heap[b]? = some (.cells #[.slice none 0 0,.int .i64 0,lr,x,y,z] T (0,0)):=hbk
 have c0:w.drew.cell? ⟨b,0,none⟩=some (.slice none 0 0):=by rw [Lib.cell_of_heap hbd];rfl
 have c1:w.drew.cell? ⟨b,1,none⟩=some (.int .i64 0):=by rw [Lib.cell_of_heap hbd];rfl
 have f0:w.drew.frozen? ⟨b,0,none⟩=false:=Lib.frozen_of_heap hbd _
 have hlt:b<w.heap.size:=(Array.getElem?_eq_some_iff.1 hbk).1
 have hlt':b<w.drew.heap.size:=hlt
 have hba:∀o,(w.alloc o).heap[b]? = some (.cells #[.slice none 0 0,.int .i64 0,lr,x,y,z] T (0,0)):=fun o=>(Below.heap_alloc w o b hlt).trans hbk
 have hbad:∀o,(w.alloc o).drew.heap[b]? = some (.cells #[.slice none 0 0,.int .i64 0,lr,x,y,z] T (0,0)):=hba
 have c0a:∀o,(w.alloc o).drew.cell? ⟨b,0,none⟩=some (.slice none 0 0):=fun o=>by rw [Lib.cell_of_heap (hbad o)];rfl
 have f0a:∀o,(w.alloc o).drew.frozen? ⟨b,0,none⟩=false:=fun o=>Lib.frozen_of_heap (hbad o) _
 obtain ⟨M,hM⟩:∃M,M=madeCells (Value.int .u8 0).cells ((64:Int).toNat*Tryz.t5.size):=⟨_,rfl⟩
 have hz1:Tryz.t5.size=1:=by kernel_rfl
 have hMs:M.size=64:=by rw [hM,size_madeCells,hz1];rfl
 have hmk:∀W:World,(Instr.makeSlice 53 (.int .i64 1) (.int .i64 64)).run Tryz.prog W=.ok (.slice (some ⟨W.heap.size,0,none⟩) 1 64) (W.alloc (.cells M 5)):=fun W=>by
  have h:=run_makeSlice (P:=Tryz.prog) W 53 5 Tryz.t5 (.int .u8 0) Tryz.underlying53 JI JI .i64 .i64 1 64 (by omega) (by omega) (by rw [hz1];decide) (by rw [show Tryz.t5.bytes=1 by kernel_rfl];decide) (by decide)
  rw [←hM] at h
  simpa using h
 clear hM
 have hnil:∀W,(binOp .eql 53 (.slice none 0 0) (.slice none 0 0)).run Tryz.prog W=.ok (.bool true) W:=fun W=>Lib.run_eql_slice_nil_nil W _ _ Tryz.underlying53
 go_enter Tryz.func158,Tryz.ntmps158
 go_wp2_with (go_at_call 189;refine (len_nil w hbk).mono ?_)
 rintro e w1 ⟨rfl,rfl⟩
 go_wp2_with (go_at_call 157;refine (JO5 w.drew hbd).mono ?_;rintro e w1 ⟨rfl,rfl⟩)
 go_ret
 refine ⟨rfl,M,hMs,?_,?_,?_⟩
 ·have h:=heap_alloc_new (w.setCell ⟨b,0,none⟩ (.slice (some ⟨w.heap.size,0,none⟩) 1 64)) (.cells M 5)
  rw [Y5] at h
  exact h
 ·have h:=Below.heap_alloc (w.setCell ⟨b,0,none⟩ (.slice (some ⟨w.heap.size,0,none⟩) 1 64)) (.cells M 5) b (by rw [Y5];exact hlt)
  exact h.trans ((Lib.heap_setCell_same hbk _).trans rfl)
 ·refine ⟨rfl,rfl,rfl,?_,fun k hk hne=>?_⟩
  ·show _≤((w.setCell ⟨b,0,none⟩ (.slice (some ⟨w.heap.size,0,none⟩) 1 64)).alloc (.cells M 5)).heap.size
   rw [World.alloc,Array.size_push,Y5];omega
  ·have h:=Below.heap_alloc (w.setCell ⟨b,0,none⟩ (.slice (some ⟨w.heap.size,0,none⟩) 1 64)) (.cells M 5) k (by rw [Y5];exact hk)
   exact h.trans (Below.heap_setCell w ⟨b,0,none⟩ _ k fun e=>hne (by rw [e]))
theorem JSY {w w2:World}{v0:Value}{cells:Array Value}(hbk2:w2.heap[b]? = some (.cells #[v0,.int .i64 0,lr,x,y,z] T (0,0)))(hN:w2.heap[w.heap.size]? = some (.cells cells 5 (0,0)))(hlt:b<w.heap.size)
  (hbel:Below w.heap.size w w2) (v1 v:Value) :
  (((w2.setCell ⟨b,0,none⟩ v1).setCell ⟨b,1,none⟩ (.int .i64 0)).setCell ⟨b,0,none⟩ v).heap[w.heap.size]? = some (.cells cells 5 (0,0)) ∧
  (((w2.setCell ⟨b,0,none⟩ v1).setCell ⟨b,1,none⟩ (.int .i64 0)).setCell ⟨b,0,none⟩ v).heap[b]? = some (.cells #[v,.int .i64 0,lr,x,y,z] T (0,0)) ∧
  w.grownBy (((w2.setCell ⟨b,0,none⟩ v1).setCell ⟨b,1,none⟩ (.int .i64 0)).setCell ⟨b,0,none⟩ v) (some b):=by
 have hot:∀k,k≠b→(((w2.setCell ⟨b,0,none⟩ v1).setCell ⟨b,1,none⟩ (.int .i64 0)).setCell ⟨b,0,none⟩ v).heap[k]? = w2.heap[k]? :=fun k hk=>by
  rw [Below.heap_setCell _ _ _ _ hk,Below.heap_setCell _ _ _ _ hk,Below.heap_setCell _ _ _ _ hk]
 refine ⟨(hot _ (by omega)).trans hN,(Lib.heap_setCell_same (i:=0) (Lib.heap_setCell_same (i:=1) (Lib.heap_setCell_same (i:=0) hbk2 v1) (.int .i64 0)) v).trans rfl,?_⟩
 refine ⟨hbel.os,hbel.tape,hbel.output,?_,fun k hk hne=>?_⟩
 ·rw [Y5,Y5,Y5];exact hbel.size
 ·exact (hot k fun e=>hne (by rw [e])).trans (hbel.block k hk)
theorem JHe:Tryz.prog.follows Departure.mixedOrders=true:=by kernel_rfl
theorem JSZ {g l:Nat}{cur:Array Value}(w:World)(hbk:w.heap[b]? = some (.cells #[.slice (some ⟨g,0,none⟩) l l,.int .i64 0,lr,x,y,z] T (0,0)))
  (hg:w.heap[g]? = some (.cells cur 5 (0,0))) (hgb:g≠b) (hcs:cur.size=l) (h0:1≤l) (hl:l≤1048576) (h1:∀v∈cur.toList,v.oneCell'=true) :
  Calls Tryz.prog 158 #[.pointer (some ⟨b,0,none⟩),.int .i64 1] w fun e w'=>e=.returned (.int .i64 l)∧∃cells cap2,cells.size=cap2∧cells.toList.take l=cur.toList∧l+1≤cap2∧cap2≤maxLen ∧
   w'.heap[w.heap.size]? = some (.cells cells 5 (0,0))∧w'.heap[b]? = some (.cells #[.slice (some ⟨w.heap.size,0,none⟩) (l+1) cap2,.int .i64 0,lr,x,y,z] T (0,0))∧w.grownBy w' (some b):=by
 have mixed:=JHe
 have hnil:∀W:World,(binOp .eql 53 (.slice (some ⟨g,0,none⟩) l l) (.slice none 0 0)).run Tryz.prog W=.ok (.bool false) W:=fun W=>Lib.run_eql_slice_some_nil W _ _ _ Tryz.underlying53
 go_enter Tryz.func158,Tryz.ntmps158
 go_wp2_with (go_at_call 189;refine (JSl w hbk (by omega)).mono ?_)
 rintro e W0 ⟨rfl,hW0⟩
 have hbk0:W0.heap[b]? = some (.cells #[.slice (some ⟨g,0,none⟩) l l,.int .i64 0,lr,x,y,z] T (0,0)):=by rw [hW0];exact hbk
 have hg0:W0.heap[g]? = some (.cells cur 5 (0,0)):=by rw [hW0];exact hg
 have c0:W0.cell? ⟨b,0,none⟩=some (.slice (some ⟨g,0,none⟩) l l):=by rw [Lib.cell_of_heap hbk0];rfl
 have c1:W0.cell? ⟨b,1,none⟩=some (.int .i64 0):=by rw [Lib.cell_of_heap hbk0];rfl
 have f0:W0.frozen? ⟨b,0,none⟩=false:=Lib.frozen_of_heap hbk0 0
 have f1:W0.frozen? ⟨b,1,none⟩=false:=Lib.frozen_of_heap hbk0 1
 have HW0:=Lib.hid hW0
 clear hW0
 go_wp2_with (go_at_call 157;refine (JO4 _ hbk0 (by omega)).mono ?_;rintro e w' ⟨rfl,rfl⟩)
 have hbW:=Lib.lt_of_heap hbk0
 have hw1:IntKind.i64.wrap ((l:Int)+1)=l+1:=by rw [IntKind.wrap_i64];omega
 have htk0:cur.toList.take l=cur.toList:=List.take_of_length_le (by rw [Array.length_toList,hcs];exact Nat.le_refl _)
 have h1':∀v∈cur.toList.take l,v.oneCell'=true:=by rw [htk0];exact h1
 go_region_with_o (
   go_at_call 191
   refine (Any.bytes_growSlice_row Tryz.lays290 g l l 1 cur _ ?_ hcs (Nat.le_refl _) (Nat.le_refl _) (by omega) (by omega) h1').mono ?_
   exact hg0
   rintro e w2 ⟨cap2,cells,rfl,hN,hcsz,htk,hcap2,hcm2,hbel⟩
   have hbk2:w2.heap[b]? = some (.cells #[.slice (some ⟨g,0,none⟩) l l,.int .i64 0,lr,x,y,z] T (0,0)):=(hbel.block b hbW).trans hbk0
   have d0:w2.cell? ⟨b,0,none⟩=some (.slice (some ⟨g,0,none⟩) l l):=by rw [Lib.cell_of_heap hbk2];rfl
   have d1:w2.cell? ⟨b,1,none⟩=some (.int .i64 0):=by rw [Lib.cell_of_heap hbk2];rfl
   have e0:w2.frozen? ⟨b,0,none⟩=false:=Lib.frozen_of_heap hbk2 0
   have e1:w2.frozen? ⟨b,1,none⟩=false:=Lib.frozen_of_heap hbk2 1)
 all_goals (
  go_wp2
  go_ret
  refine ⟨rfl,cells,cap2,hcsz,htk.trans htk0,hcap2,hcm2,?_⟩
  have hw:w'=w.drew:=HW0.out
  rw [hw]
  rw [hw] at hN hbel hbW
  obtain ⟨r1,r2,r3⟩:=JSY hbk2 hN hbW hbel (.slice (some ⟨w.heap.size,0,none⟩) l cap2) (.slice (some ⟨w.heap.size,0,none⟩) (l+1) cap2)
  exact ⟨r1,r2,⟨r3.os,r3.tape,r3.output,r3.size,r3.block⟩⟩)
end
end Go.Mw
namespace Go.Mw
open Go.Proofs Go.RowKit
section
variable {T b:Nat} {lr x y z:Value}
theorem JWY {g l cap:Nat}{cur:Array Value}(c:Int)(w:World)(hbk:w.heap[b]? = some (.cells #[.slice (some ⟨g,0,none⟩) l cap,.int .i64 0,lr,x,y,z] T (0,0)))
  (hg:w.heap[g]? = some (.cells cur 5 (0,0))) (hgb:g≠b) (hcs:cur.size=cap) (hl:l<cap) (hcm:cap≤maxLen) :
  Calls Tryz.prog 122 #[.pointer (some ⟨b,0,none⟩),.int .u8 c] w fun e w'=>e=.returned .nilIface∧w'=((w.setCell ⟨b,2,none⟩ (.int .i8 0)).setCell ⟨b,0,none⟩ (.slice (some ⟨g,0,none⟩) (l+1) cap)).setCell ⟨g,l,none⟩ (.int .u8 c):=by
 unfold maxLen at hcm
 have hlt:=(Array.getElem?_eq_some_iff.1 hbk).1
 have hltg:=(Array.getElem?_eq_some_iff.1 hg).1
 have f2:w.frozen? ⟨b,2,none⟩=false:=Lib.frozen_of_heap hbk _
 have c2:w.cell? ⟨b,2,none⟩=some lr:=by rw [Lib.cell_of_heap hbk];rfl
 have hb1:(w.setCell ⟨b,2,none⟩ (.int .i8 0)).heap[b]? = some (.cells #[.slice (some ⟨g,0,none⟩) l cap,.int .i64 0,.int .i8 0,x,y,z] T (0,0)):=(Lib.heap_setCell_same (i:=2) hbk (.int .i8 0)).trans rfl
 have hg1:(w.setCell ⟨b,2,none⟩ (.int .i8 0)).heap[g]? = some (.cells cur 5 (0,0)):=(Below.heap_setCell w ⟨b,2,none⟩ _ g hgb).trans hg
 have hb2:((w.setCell ⟨b,2,none⟩ (.int .i8 0)).setCell ⟨b,0,none⟩ (.slice (some ⟨g,0,none⟩) (l+1) cap)).heap[b]? = some (.cells #[.slice (some ⟨g,0,none⟩) (l+1) cap,.int .i64 0,.int .i8 0,x,y,z] T (0,0)):=(Lib.heap_setCell_same (i:=0) hb1 (.slice (some ⟨g,0,none⟩) (l+1) cap)).trans rfl
 have hg2:((w.setCell ⟨b,2,none⟩ (.int .i8 0)).setCell ⟨b,0,none⟩ (.slice (some ⟨g,0,none⟩) (l+1) cap)).heap[g]? = some (.cells cur 5 (0,0)):=(Below.heap_setCell _ ⟨b,0,none⟩ _ g hgb).trans hg1
 have d0:((w.setCell ⟨b,2,none⟩ (.int .i8 0)).setCell ⟨b,0,none⟩ (.slice (some ⟨g,0,none⟩) (l+1) cap)).cell? ⟨b,0,none⟩=some (.slice (some ⟨g,0,none⟩) (l+1) cap):=by rw [Lib.cell_of_heap hb2];rfl
 obtain ⟨v0,hv0⟩:∃v,cur[l]? = some v:=⟨_,Array.getElem?_eq_getElem (by omega)⟩
 have cg:((w.setCell ⟨b,2,none⟩ (.int .i8 0)).setCell ⟨b,0,none⟩ (.slice (some ⟨g,0,none⟩) (l+1) cap)).cell? ⟨g,l,none⟩=some v0:=by rw [Lib.cell_of_heap hg2];exact hv0
 have fg:((w.setCell ⟨b,2,none⟩ (.int .i8 0)).setCell ⟨b,0,none⟩ (.slice (some ⟨g,0,none⟩) (l+1) cap)).frozen? ⟨g,l,none⟩=false:=Lib.frozen_of_heap hg2 _
 go_enter Tryz.func122,Tryz.ntmps122
 go_wp2_with (go_at_call 157;refine (JWB _ hb1 (by omega) (by unfold maxLen;omega)).mono ?_;rintro e w' ⟨rfl,rfl⟩)
 go_ret
 exact ⟨rfl,rfl⟩
theorem JWX (c:Int)(w:World)(hbk:w.heap[b]? = some (.cells #[.slice none 0 0,.int .i64 0,lr,x,y,z] T (0,0))) :
  Calls Tryz.prog 122 #[.pointer (some ⟨b,0,none⟩),.int .u8 c] w fun e w'=>e=.returned .nilIface∧∃w2 cur,cur.size=64∧w2.heap[w.heap.size]? = some (.cells cur 5 (0,0)) ∧
   w2.heap[b]? = some (.cells #[.slice (some ⟨w.heap.size,0,none⟩) 1 64,.int .i64 0,.int .i8 0,x,y,z] T (0,0))∧w.grownBy w2 (some b)∧w'=w2.setCell ⟨w.heap.size,0,none⟩ (.int .u8 c):=by
 have hlt:=(Array.getElem?_eq_some_iff.1 hbk).1
 have f2:w.frozen? ⟨b,2,none⟩=false:=Lib.frozen_of_heap hbk _
 have c2:w.cell? ⟨b,2,none⟩=some lr:=by rw [Lib.cell_of_heap hbk];rfl
 have hb1:(w.setCell ⟨b,2,none⟩ (.int .i8 0)).heap[b]? = some (.cells #[.slice none 0 0,.int .i64 0,.int .i8 0,x,y,z] T (0,0)):=(Lib.heap_setCell_same (i:=2) hbk (.int .i8 0)).trans rfl
 go_enter Tryz.func122,Tryz.ntmps122
 go_wp2_with (go_at_call 157;refine (JO5 _ hb1).mono ?_;rintro e w' ⟨rfl,rfl⟩)
 go_wp2_with (go_at_call 158;refine (JSa _ hb1).mono ?_)
 rintro e w2 ⟨rfl,cur,hcur,hN,hb2,hg2⟩
 rw [Y5] at hN hb2
 have d0:w2.cell? ⟨b,0,none⟩=some (.slice (some ⟨w.heap.size,0,none⟩) 1 64):=by rw [Lib.cell_of_heap hb2];rfl
 obtain ⟨v0,hv0⟩:∃v,cur[0]? = some v:=⟨_,Array.getElem?_eq_getElem (by omega)⟩
 have cg:w2.cell? ⟨w.heap.size,0,none⟩=some v0:=by rw [Lib.cell_of_heap hN];exact hv0
 have fg:w2.frozen? ⟨w.heap.size,0,none⟩=false:=Lib.frozen_of_heap hN _
 have hgr:w.grownBy w2 (some b):=⟨hg2.os,hg2.tape,hg2.output,by have:=hg2.size;rwa [Y5] at this,fun k hk hne=>(hg2.block k (by rwa [Y5]) hne).trans (Below.heap_setCell w ⟨b,2,none⟩ _ k fun e=>hne (by rw [e]))⟩
 go_wp2
 trace_state
 go_ret
 exact ⟨rfl,w2,cur,hcur,hN,hb2,hgr,rfl⟩
theorem JWW {g l:Nat}{cur:Array Value}(c:Int)(w:World)(hbk:w.heap[b]? = some (.cells #[.slice (some ⟨g,0,none⟩) l l,.int .i64 0,lr,x,y,z] T (0,0)))
  (hg:w.heap[g]? = some (.cells cur 5 (0,0))) (hgb:g≠b) (hcs:cur.size=l) (h0:1≤l) (hl:l≤1048576) (h1:∀v∈cur.toList,v.oneCell'=true) :
  Calls Tryz.prog 122 #[.pointer (some ⟨b,0,none⟩),.int .u8 c] w fun e w'=>e=.returned .nilIface∧∃w2 cells cap2,cells.size=cap2∧cells.toList.take l=cur.toList∧l+1≤cap2∧cap2≤maxLen ∧
   w2.heap[w.heap.size]? = some (.cells cells 5 (0,0))∧w2.heap[b]? = some (.cells #[.slice (some ⟨w.heap.size,0,none⟩) (l+1) cap2,.int .i64 0,.int .i8 0,x,y,z] T (0,0)) ∧
   w.grownBy w2 (some b)∧w'=w2.setCell ⟨w.heap.size,l,none⟩ (.int .u8 c):=by
 have hlt:=(Array.getElem?_eq_some_iff.1 hbk).1
 have f2:w.frozen? ⟨b,2,none⟩=false:=Lib.frozen_of_heap hbk _
 have c2:w.cell? ⟨b,2,none⟩=some lr:=by rw [Lib.cell_of_heap hbk];rfl
 have hb1:(w.setCell ⟨b,2,none⟩ (.int .i8 0)).heap[b]? = some (.cells #[.slice (some ⟨g,0,none⟩) l l,.int .i64 0,.int .i8 0,x,y,z] T (0,0)):=(Lib.heap_setCell_same (i:=2) hbk (.int .i8 0)).trans rfl
 have hg1:(w.setCell ⟨b,2,none⟩ (.int .i8 0)).heap[g]? = some (.cells cur 5 (0,0)):=(Below.heap_setCell w ⟨b,2,none⟩ _ g hgb).trans hg
 go_enter Tryz.func122,Tryz.ntmps122
 go_wp2_with (go_at_call 157;refine (JO4 _ hb1 (by omega)).mono ?_;rintro e w' ⟨rfl,rfl⟩)
 go_wp2_with (go_at_call 158;refine (JSZ _ hb1 hg1 hgb hcs h0 hl h1).mono ?_)
 rintro e w2 ⟨rfl,cells,cap2,hcsz,htk,hcap2,hcm2,hN,hb2,hg2⟩
 rw [Y5] at hN hb2
 have d0:w2.cell? ⟨b,0,none⟩=some (.slice (some ⟨w.heap.size,0,none⟩) (l+1) cap2):=by rw [Lib.cell_of_heap hb2];rfl
 obtain ⟨v0,hv0⟩:∃v,cells[l]? = some v:=⟨_,Array.getElem?_eq_getElem (by omega)⟩
 have cg:w2.cell? ⟨w.heap.size,l,none⟩=some v0:=by rw [Lib.cell_of_heap hN];exact hv0
 have fg:w2.frozen? ⟨w.heap.size,l,none⟩=false:=Lib.frozen_of_heap hN _
 have hgr:w.grownBy w2 (some b):=⟨hg2.os,hg2.tape,hg2.output,by have:=hg2.size;rwa [Y5] at this,fun k hk hne=>(hg2.block k (by rwa [Y5]) hne).trans (Below.heap_setCell w ⟨b,2,none⟩ _ k fun e=>hne (by rw [e]))⟩
 go_wp2
 go_ret
 exact ⟨rfl,w2,cells,cap2,hcsz,htk,hcap2,hcm2,hN,hb2,hgr,rfl⟩
end
end Go.Mw
namespace Go.Mw
open Go.Proofs Go.RowKit
theorem JKY {cur:Array Value}{n:Nat}{xs:List Value}(v:Value)(hn:n<cur.size)(ht:cur.toList.take n=xs):(cur.setIfInBounds n v).toList.take (n+1)=xs++[v]:=by
 rw [Array.toList_setIfInBounds,List.take_succ_eq_append_getElem (by simpa using hn)]
 congr 1
 ·rw [List.take_set_of_le (Nat.le_refl _)];exact ht
 ·simp
section
variable {T b:Nat} {lr x y z:Value}
theorem JP2 {v:Value}{n:Nat}{xs:List Value}(c:Int)(w:World)(hbk:w.heap[b]? = some (.cells #[v,.int .i64 0,lr,x,y,z] T (0,0)))(hrow:w.ownsRow 0 5 1 v n xs)(hz:n=0→v=.slice none 0 0)
  (hvb:blk v≠some b) (h1:∀u∈xs,u.oneCell'=true) (hn:n≤1048576) :
  Calls Tryz.prog 122 #[.pointer (some ⟨b,0,none⟩),.int .u8 c] w fun e w'=>e=.returned .nilIface∧∃v' g,w'.ownsRow 0 5 1 v' (n+1) (xs++[.int .u8 c])∧v'.oneCell'=true∧blk v'=some g∧(blk v=some g∨w.heap.size≤g)∧g≠b ∧
   w'.heap[b]? = some (.cells #[v',.int .i64 0,.int .i8 0,x,y,z] T (0,0))∧w'.os=w.os∧w'.tape=w.tape∧w'.output=w.output∧w.heap.size≤w'.heap.size∧∀k,k<w.heap.size→k≠b→blk v≠some k→w'.heap[k]? = w.heap[k]? :=by
 have hlt:=(Array.getElem?_eq_some_iff.1 hbk).1
 rcases hrow.2 with ⟨rfl,rfl⟩|⟨g,cap,cur,rfl,_,hg,hnc,hcm,hcs,htk⟩
 ·have hxs:xs=[]:=List.eq_nil_of_length_eq_zero (by have:=hrow.1;omega)
  subst hxs
  refine (JWX c w hbk).mono ?_
  rintro e w' ⟨rfl,w2,cur,hcur,hN,hb2,hgr,rfl⟩
  have hNb:b≠w.heap.size:=by omega
  have hN2:(w2.setCell ⟨w.heap.size,0,none⟩ (.int .u8 c)).heap[w.heap.size]? = some (.cells (cur.setIfInBounds 0 (.int .u8 c)) 5 (0,0)):=Lib.heap_setCell_same (i:=0) hN (.int .u8 c)
  refine ⟨rfl,.slice (some ⟨w.heap.size,0,none⟩) 1 64,w.heap.size,⟨rfl,.inr ⟨_,64,_,rfl,Nat.zero_le _,hN2,by omega,by decide,by simp [hcur],?_⟩⟩,rfl,rfl,.inr (Nat.le_refl _),fun h=>hNb h.symm,?_,hgr.os,hgr.tape,hgr.output,?_,fun k hk hkb _=>?_⟩
  ·exact JKY (n:=0) _ (by omega) (by simp)
  ·exact (Below.heap_setCell w2 ⟨w.heap.size,0,none⟩ _ b hNb).trans hb2
  ·rw [Y5];exact hgr.size
  ·exact (Below.heap_setCell w2 ⟨w.heap.size,0,none⟩ _ k (by show k≠w.heap.size;omega)).trans (hgr.block k hk fun e=>hkb (Option.some.inj e))
 ·have hn0:0<n:=Nat.pos_of_ne_zero fun e=>by have:=hz e;simp at this
  rw [Nat.mul_one] at hcs htk
  have hgb:g≠b:=fun e=>hvb (by simp [blk,e])
  have hgl:=(Array.getElem?_eq_some_iff.1 hg).1
  by_cases hr:n<cap
  ·refine (JWY c w hbk hg hgb hcs hr hcm).mono ?_
   rintro e w' ⟨rfl,rfl⟩
   have hb2:((w.setCell ⟨b,2,none⟩ (.int .i8 0)).setCell ⟨b,0,none⟩ (.slice (some ⟨g,0,none⟩) (n+1) cap)).heap[b]? = some (.cells #[.slice (some ⟨g,0,none⟩) (n+1) cap,.int .i64 0,.int .i8 0,x,y,z] T (0,0)):=
    (Lib.heap_setCell_same (i:=0) ((Lib.heap_setCell_same (i:=2) hbk (.int .i8 0)).trans rfl) (.slice (some ⟨g,0,none⟩) (n+1) cap)).trans rfl
   have hg2:((w.setCell ⟨b,2,none⟩ (.int .i8 0)).setCell ⟨b,0,none⟩ (.slice (some ⟨g,0,none⟩) (n+1) cap)).heap[g]? = some (.cells cur 5 (0,0)):=by
    rw [Below.heap_setCell _ ⟨b,0,none⟩ _ g hgb,Below.heap_setCell _ ⟨b,2,none⟩ _ g hgb];exact hg
   refine ⟨rfl,.slice (some ⟨g,0,none⟩) (n+1) cap,g,⟨by simp [hrow.1],.inr ⟨g,cap,_,rfl,Nat.zero_le _,Lib.heap_setCell_same (i:=n) hg2 (.int .u8 c),by omega,hcm,by simp [hcs],?_⟩⟩,rfl,rfl,.inl rfl,hgb,?_,rfl,rfl,rfl,?_,fun k hk hkb hkg=>?_⟩
   ·rw [Nat.mul_one];exact JKY _ (by omega) htk
   ·exact (Below.heap_setCell _ ⟨g,n,none⟩ _ b fun h=>hgb h.symm).trans hb2
   ·rw [Y5,Y5,Y5];exact Nat.le_refl _
   ·have hkg':k≠g:=fun e=>hkg (by rw [e];rfl)
    rw [Below.heap_setCell _ ⟨g,n,none⟩ _ k hkg',Below.heap_setCell _ ⟨b,0,none⟩ _ k hkb,Below.heap_setCell _ ⟨b,2,none⟩ _ k hkb]
  ·have hnc':cap=n:=by omega
   subst hnc'
   have hcl:cur.toList=xs:=by rw [←htk,List.take_of_length_le (by simp [hcs])]
   refine (JWW c w hbk hg hgb hcs hn0 hn (by rw [hcl];exact h1)).mono ?_
   rintro e w' ⟨rfl,w2,cells,cap2,hcsz,htk2,hcap2,hcm2,hN,hb2,hgr,rfl⟩
   have hNb:b≠w.heap.size:=by omega
   have hN2:(w2.setCell ⟨w.heap.size,cap,none⟩ (.int .u8 c)).heap[w.heap.size]? = some (.cells (cells.setIfInBounds cap (.int .u8 c)) 5 (0,0)):=Lib.heap_setCell_same (i:=cap) hN (.int .u8 c)
   refine ⟨rfl,.slice (some ⟨w.heap.size,0,none⟩) (cap+1) cap2,w.heap.size,⟨by simp [hrow.1],.inr ⟨_,cap2,_,rfl,Nat.zero_le _,hN2,by omega,hcm2,by simp [hcsz],?_⟩⟩,rfl,rfl,.inr (Nat.le_refl _),fun h=>hNb h.symm,?_,hgr.os,hgr.tape,hgr.output,?_,fun k hk hkb _=>?_⟩
   ·rw [Nat.mul_one];exact JKY _ (by omega) (htk2.trans hcl)
   ·exact (Below.heap_setCell w2 ⟨w.heap.size,cap,none⟩ _ b hNb).trans hb2
   ·rw [Y5];exact hgr.size
   ·exact (Below.heap_setCell w2 ⟨w.heap.size,cap,none⟩ _ k (by show k≠w.heap.size;omega)).trans (hgr.block k hk fun e=>hkb (Option.some.inj e))
end
end Go.Mw
namespace Go.Mw
open Go.Proofs Go.RowKit
def Qu (o:Nat)(l:List UInt8):AL:=if l=[] then .d (.raw (.slice none 0 0)) else .own o 0 l.length l.length
theorem JPk (o:Nat):Qu o []=.d (.raw (.slice none 0 0)):=rfl
theorem JIS {l:List UInt8}(h:l≠[])(o:Nat):Qu o l=.own o 0 l.length l.length:=if_neg h
@[go_sem ↓ high] theorem JPl (o:Nat)(l:List UInt8)(r:Nat→Nat):AL.ren r (Qu o l)=Qu (r o) l:=by unfold Qu;split<;>rfl
@[go_sem ↓ high] theorem JPj (o:Nat)(l:List UInt8)(os:List Nat)(h:os.contains o=true):AL.keep os (Qu o l)=Qu o l:=by
 unfold Qu
 split
 ·rfl
 ·simp only [AL.keep,h,if_true]
@[go_sem ↓ high] theorem JWo (o k:Nat)(es:List (List D))(b:Nat)(l:List UInt8)(h:(b==o)=false):AL.frz o k es (Qu b l)=Qu b l:=by
 have hb:¬b=o:=by simpa using h
 unfold Qu
 split
 ·rfl
 ·simp only [AL.frz,if_neg hb]
@[go_sem ↓ high] theorem JWp (o:Nat)(ds:List D)(b:Nat)(l:List UInt8):AL.frzc o ds (Qu b l)=Qu b l:=by
 unfold Qu
 split<;>rfl
theorem JPi (o:Nat)(l:List UInt8)(ns:List Nat)(h:ns.contains o=true):AL.inn ns (Qu o l)=true:=by
 unfold Qu
 split
 ·rfl
 ·exact h
@[go_sem ↓ high] theorem JP1 (o:Nat)(l:List UInt8)(ls:List AL)(r:Nat→Nat):(AO.cells (Qu o l::ls)).ren r=.cells (Qu (r o) l::ls.map (AL.ren r)):=by
 show AO.cells (AL.ren r (Qu o l)::_)=_
 rw [JPl]
@[go_sem ↓ high] theorem JWr (o:Nat)(l:List UInt8)(ls:List AL)(r:Nat→Nat)(n:Nat):AO.ren r ((n,AO.cells (Qu o l::ls)):Nat × AO).2=.cells (Qu (r o) l::ls.map (AL.ren r)):=JP1 o l ls r
@[go_sem ↓ high] theorem JWq (o:Nat)(l:List UInt8)(ls:List AL)(os:List Nat)(h:os.contains o=true):(AO.cells (Qu o l::ls)).keep os=.cells (Qu o l::ls.map (AL.keep os)):=by
 show AO.cells (AL.keep os (Qu o l)::_)=_
 rw [JPj _ _ _ h]
def JDJ (o q:Nat)(l:List UInt8)(lr:AL)(x y z:D):List (Nat × AO):=[(o,.cells [Qu q l,.d (.raw (.int .i64 0)),lr,.d x,.d y,.d z]),(q,.arr 5 1 (Jr l))]
theorem JP9 {S:Jd}{w:World}{l:List UInt8}{xs:List Value}(h:JR (RepD S w) (Jr l).flatten xs):xs=l.map fun c=>.int .u8 (c.toNat:Int):=by
 induction l generalizing xs with
 |nil=>cases xs with
  |nil=>rfl
  |cons _ _=>exact h.elim
 |cons c l ih=>cases xs with
  |nil=>exact h.elim
  |cons u xs=>
   have h1:=h.1
   have h2:=ih h.2
   cases h1
   rw [h2];rfl
theorem JP5 {S:Jd}{w:World}(l:List UInt8):JR (RepD S w) (Jr l).flatten (l.map fun c=>.int .u8 (c.toNat:Int)):=by
 induction l with
 |nil=>trivial
 |cons c l ih=>exact ⟨.raw _ rfl,ih⟩
theorem JC0 {o q:Nat}{a b x:AO}{n:Nat}(h:look [(o,a),(q,b)] n=some x):n=o∧x=a∨n≠o∧n=q∧x=b:=by
 by_cases h1:n=o
 ·subst h1;simp [look] at h;exact .inl ⟨rfl,h.symm⟩
 ·by_cases h2:n=q
  ·subst h2;simp [look,h1] at h;exact .inr ⟨h1,rfl,h.symm⟩
  ·simp [look,h1,h2] at h
theorem JQk (l:List UInt8)(c:UInt8)(hl:l.length≤1000000)(x y z:D) :
  Qr Tryz.prog 122 [.leaf (.ptr 910 0),.leaf (.d (.raw (.int .u8 c.toNat)))] (JDJ 910 901 l .dead x y z) (.ret (.leaf (.d (.raw .nilIface))) (JDJ 910 901 (l++[c]) .dead x y z)):=by
 intro E S M ι w vs hin hmin hobj hdis hown htok hargs hJ
 obtain ⟨p,cs,el,hp,hpc,hcs,hpS,htg⟩:=hobj 910 _ rfl
 obtain ⟨xs,hrow,hxs,_,_,hrS⟩:=hobj 901 _ rfl
 have hxv:=JP9 hxs
 subst hxv
 rw [Y2] at hrow
 match cs,hcs with
 |[v,i0,lr,vx,vy,vz],⟨r0,r1,r2,r3,r4,r5,_⟩=>
 have e1:i0=.int .i64 0:=by cases r1;rfl
 subst e1
 have hv:w.ownsRow 0 5 1 v l.length (l.map fun c=>.int .u8 (c.toNat:Int))∧(l.length=0→v=.slice none 0 0)∧(blk v=none∨blk v=blk (ι 901)):=by
  by_cases h0:l=[]
  ·subst h0
   have e:v=.slice none 0 0:=by rw [JPk] at r0;cases r0;rfl
   subst e
   exact ⟨World.ownsRow_nil w 0 5 1,fun _=>rfl,.inl rfl⟩
  ·rw [JIS h0] at r0
   obtain ⟨_,e',k',es',j1,_,j2⟩:=r0
   have j1':some (AO.arr 5 1 (Jr l))=some (.arr e' k' es'):=j1
   cases j1'
   have e:=(j2 (Y2 l)).2.1 rfl rfl
   subst e
   exact ⟨hrow,fun h=>absurd (List.eq_nil_of_length_eq_zero h) h0,.inr rfl⟩
 obtain ⟨hv1,hv2,hv3⟩:=hv
 have hvb:blk v≠some p:=fun h=>by
  rcases hv3 with h'|h'
  ·rw [h'] at h;cases h
  ·exact hdis 910 901 _ _ p rfl rfl (by decide) (by rw [hp];rfl) (h'.symm.trans h)
 have hvS:∀b off,S b off→blk v≠some b:=fun b off hs h=>by
  rcases hv3 with h'|h'
  ·rw [h'] at h;cases h
  ·exact hrS b (h'.symm.trans h) off hs
 have hvM:∀b,blk v=some b→M b:=fun b h=>by
  rcases hv3 with h'|h'
  ·rw [h'] at h;cases h
  ·exact hown 901 _ b rfl (h'.symm.trans h)
 have hpM:M p:=hown 910 _ p rfl (by rw [hp];rfl)
 match vs,hargs with
 |[a0,a1],⟨q0,q1,_⟩=>
 obtain ⟨ls,pb,g1,g2,g3⟩:=Jn q0
 rw [hp] at g2
 cases g2
 subst g3
 have e2:=Jn q1
 have e2':a1=.int .u8 c.toNat:=by cases e2;rfl
 subst e2'
 have hc:=JP2 (c:=(c.toNat:Int)) w hpc hv1 hv2 hvb (fun u hu=>by obtain ⟨_,_,rfl⟩:=List.mem_map.1 hu;rfl) (by omega)
 rw [←callsIn_wide] at hc
 refine hc.mono fun e w' ⟨he,v',g,hrow',hone,hg,hg2,hgp,hp',hos,htape,hout,hsz,hfr⟩=>?_
 have hblk:∀b o,S b o→w'.heap[b]? = w.heap[b]? :=fun b o hs=>hfr b (hin b o hs) (fun h=>hpS o (h▸hs)) (hvS b o hs)
 have hcell:∀b o,S b o→w'.cell? ⟨b,o,none⟩=w.cell? ⟨b,o,none⟩:=fun b o hs=>World.cell?_of_block (hblk b o hs)
 have hgl:g<w'.heap.size:=by
  rcases hrow'.2 with ⟨rfl,h⟩|⟨g',cap,cur,rfl,_,hcur,_⟩
  ·cases hg
  ·cases hg;exact (Array.getElem?_eq_some_iff.1 hcur).1
 refine ⟨_,_,_,S,fun b=>M b∨(w.heap.size≤b∧b<w'.heap.size),fun o=>if o=901 then v' else ι o,he,.ret _ _,
  E.step hJ ⟨hos,htape,hout,hsz,fun b hbl hnm=>hfr b hbl (fun h=>hnm (h▸hpM)) (fun h=>hnm (hvM b h)),hcell⟩ (fun _ h=>.inl h) (fun _ h=>h) (fun _ _ h=>h) (fun _ _ h=>.inl h),?_⟩
 have hgS:∀off,¬S g off:=fun off hs=>by
  rcases hg2 with h|h
  ·exact hvS g off hs h
  ·have:=hin g off hs;omega
 exact {
  sub:=fun _ _ h=>h,new:=fun _ _ h=>.inl h,inn:=fun b o h=>Nat.lt_of_lt_of_le (hin b o h) hsz
  minn:=fun b h=>h.elim (fun h=>Nat.lt_of_lt_of_le (hmin b h) hsz) (·.2)
  res:=Qx (.raw _ rfl)
  objs:=fun o ob h=>by
   rcases JC0 h with ⟨rfl,rfl⟩|⟨_,rfl,rfl⟩
   ·refine ⟨p,[v',.int .i64 0,.int .i8 0,vx,vy,vz],el,by simp [hp],hp',⟨?_,.raw _ rfl,rfl,RepD.mono (fun _ _ h=>h) hcell r3,RepD.mono (fun _ _ h=>h) hcell r4,RepD.mono (fun _ _ h=>h) hcell r5,trivial⟩,hpS,htg⟩
    rw [JIS (by simp)]
    refine ⟨hone,5,1,Jr (l++[c]),rfl,by rw [Y2];exact Nat.le_refl _,fun _=>⟨by omega,?_⟩⟩
    have:=JAx.tip hrow'
    rw [List.length_append]
    simpa using this
   ·refine ⟨(l++[c]).map fun c=>.int .u8 (c.toNat:Int),?_,JP5 _,JLb _,by decide,fun b hb off=>?_⟩
    ·rw [Y2,List.length_append,List.map_append]
     simpa using hrow'
    ·have hb':blk v'=some b:=by simpa using hb
     rw [hg] at hb'
     cases hb'
     exact hgS off
  dis:=fun o o' a a' b h h' hne hb hb'=>by
   rcases JC0 h with ⟨rfl,rfl⟩|⟨_,rfl,rfl⟩<;>rcases JC0 h' with ⟨rfl,rfl⟩|⟨_,rfl,rfl⟩
   ·exact hne rfl
   ·simp [hp,blk] at hb hb'
    have hb':blk v'=some b:=hb'
    rw [hg] at hb'
    exact hgp ((Option.some.inj hb').trans hb.symm)
   ·simp [hp,blk] at hb hb'
    have hb:blk v'=some b:=hb
    rw [hg] at hb
    exact hgp ((Option.some.inj hb).trans hb'.symm)
   ·exact hne rfl
  own:=fun o a b h hb=>by
   rcases JC0 h with ⟨rfl,rfl⟩|⟨_,rfl,rfl⟩
   ·simp [hp,blk] at hb
    exact .inl (hb▸hpM)
   ·have hb':blk v'=some b:=by simpa using hb
    rw [hg] at hb'
    cases hb'
    rcases hg2 with h|h
    ·exact .inl (hvM g h)
    ·exact .inr ⟨h,hgl⟩
  tok:=fun o h=>by rcases JC0 h with ⟨_,h⟩|⟨_,_,h⟩<;>cases h
  same:=fun o a a' h h'=>by
   rcases JC0 h with ⟨rfl,rfl⟩|⟨hn,rfl,rfl⟩
   ·rcases JC0 h' with ⟨_,rfl⟩|⟨hn,_⟩
    ·show ι 910=_;rfl
    ·exact absurd rfl hn
   ·rcases JC0 h' with ⟨h,_⟩|⟨_,_,rfl⟩
    ·exact absurd h hn
    ·refine ⟨by simp [Y2],fun h=>?_⟩
     simp [Y2] at h }
end Go.Mw
namespace Go.Bk
open Go.Mw
def Yc (s:Bits):Bits:=s.drop (8*(s.length / 8))
theorem JUi (s:Bits):(Yc s).length=s.length%8:=by unfold Yc;rw [List.length_drop];omega
theorem JWR (s:Bits):QG (Yc s)<128:=by
 have h:=JBb (Yc s)
 have h2:2^(Yc s).length≤2^7:=Nat.pow_le_pow_right (by omega) (by rw [JUi];omega)
 omega
theorem JJp:∀(k:Nat) (s t:Bits),8*k≤s.length→Z2 k (s++t)=Z2 k s
 |0,_,_,_=>rfl
 |k+1,s,t,h=>by
  unfold Z2
  rw [List.take_append_of_le_length (by omega),List.drop_append_of_le_length (by omega),JJp k _ t (by rw [List.length_drop];omega)]
theorem JNX:∀(k:Nat) (s:Bits),Z2 (k+1) s=Z2 k s++[JCN ((s.drop (8*k)).take 8)]
 |0,s=>rfl
 |k+1,s=>by
  have h:=JNX k (s.drop 8)
  rw [Z2,h,Z2,List.drop_drop,List.cons_append]
  congr 4
  rw [Nat.mul_succ,Nat.add_comm]
theorem JVn {s:Bits}(b:Bool)(h:(s.length+1)%8≠0):pack (s++[b])=pack s∧Yc (s++[b])=Yc s++[b]:=by
 have e:(s++[b]).length / 8=s.length / 8:=by rw [List.length_append,List.length_singleton];omega
 unfold pack Yc
 rw [e]
 exact ⟨JJp _ _ _ (by omega),List.drop_append_of_le_length (by omega)⟩
theorem JVm {s:Bits}(b:Bool)(h:(s.length+1)%8=0):pack (s++[b])=pack s++[JCN (Yc s++[b])]∧Yc (s++[b])=[]:=by
 have e:(s++[b]).length / 8=s.length / 8+1:=by rw [List.length_append,List.length_singleton];omega
 unfold pack Yc
 rw [e,JNX,JJp _ _ _ (by omega),List.drop_append_of_le_length (by omega)]
 refine ⟨?_,List.drop_eq_nil_of_le (by rw [List.length_append,List.length_singleton];omega)⟩
 congr 2
 rw [List.take_of_length_le]
 rw [List.length_append,List.length_drop,List.length_singleton];omega
theorem JF0 (s:Bits):(pack s).length=s.length / 8:=by
 have:∀(k:Nat) (s:Bits),(Z2 k s).length=k:=fun k=>by
  induction k with
  |zero=>intro s;rfl
  |succ k ih=>intro s;rw [Z2,List.length_cons,ih]
 exact this _ _
theorem JAT (s:Bits):JS s≤s.length:=List.count_le_length ..
theorem JFw:JS []=0:=rfl
theorem JBw (b:Bool):JS [b]=b.toNat:=by cases b<;>rfl
def JAL (k many n:Nat):Bits:=JW k (n / 2^(many-k))
theorem JV9 (many n:Nat):JAL 0 many n=[]:=rfl
theorem JV6 (many n:Nat):JAL many many n=JW many n:=by unfold JAL;rw [Nat.sub_self,Nat.pow_zero,Nat.div_one]
theorem JV7 (k many n:Nat):(JAL k many n).length=k:=Qk _ _
theorem JV8 {k many n:Nat}(h:k<many):JAL (k+1) many n=JAL k many n++[n / 2^(many-1-k)%2==1]:=by
 unfold JAL
 rw [JW,Nat.div_div_eq_div_mul,←Nat.pow_succ,show (many-(k+1)).succ=many-k by omega,show many-(k+1)=many-1-k by omega]
theorem or_bit {v:Nat}(h:v<128)(b:Bool):IntKind.u8.wrap ((BitVec.ofInt 8 ((2*v:Nat):Int) ||| BitVec.ofInt 8 ((b.toNat:Nat):Int)).toNat:Int)=((2*v+b.toNat:Nat):Int):=by
 have:∀v:Fin 128,∀b:Bool,(BitVec.ofInt 8 ((2*v.1:Nat):Int) ||| BitVec.ofInt 8 ((b.toNat:Nat):Int)).toNat=2*v.1+b.toNat:=by decide
 rw [this ⟨v,h⟩ b,IntKind.wrap_u8]
 have:b.toNat≤1:=by cases b<;>decide
 show (((2*v+b.toNat:Nat):Int))%256=_
 omega
theorem and_one {x:Nat}(h:x<9223372036854775808):IntKind.i64.wrap ((BitVec.ofInt 64 (x:Int) &&& BitVec.ofInt 64 1).toNat:Int)=((x%2:Nat):Int):=by
 have e:(BitVec.ofInt 64 (x:Int) &&& BitVec.ofInt 64 1).toNat=x%2:=by
  rw [BitVec.toNat_and]
  have h1:(BitVec.ofInt 64 (x:Int)).toNat=x:=by
   rw [BitVec.toNat_ofInt];omega
  have h2:(BitVec.ofInt 64 1).toNat=1:=by decide
  rw [h1,h2,Nat.and_one_is_mod]
 rw [e,IntKind.wrap_i64];omega
theorem JR3 (x i:Nat)(h:i≤64):(x:Int).fdiv (2^min i 64)=((x / 2^i:Nat):Int):=by
 rw [Nat.min_eq_left h,Int.fdiv_eq_ediv_of_nonneg _ (Int.le_of_lt (Int.pow_pos (by decide)))]
 norm_cast
def J1:Int→List Pl→Int
 |a,[]=>a
 |_,x::l=>J1 x.num l
def JAt:Int→Int→List Pl→Int
 |_,o,[]=>o
 |a,_,x::l=>JAt x.num (JS (Qc x a):Nat) l
theorem JFk:∀(l:List Pl) (a:Int) (x:Pl),J8 a (l++[x])=J8 a l++Qc x (J1 a l)
 |[],a,x=>by simp [J8,J1]
 |y::l,a,x=>by
  rw [List.cons_append,J8,J8,JFk l,List.append_assoc];rfl
theorem JJI:∀(l:List Pl) (a:Int) (x:Pl),J1 a (l++[x])=x.num
 |[],_,_=>rfl
 |y::l,_,x=>JJI l y.num x
theorem JM0:∀(l:List Pl) (a o:Int) (x:Pl),JAt a o (l++[x])=((JS (Qc x (J1 a l)):Nat):Int)
 |[],_,_,_=>rfl
 |y::l,_,_,x=>JM0 l y.num _ x
theorem JNm {x:Pl}{a:Int}(h:fits x a):(Qc x a).length≤53:=by
 obtain ⟨⟨f1,f2⟩,_,_⟩:=h
 have h1:=(JA5 (x.num-a).toNat).1
 have h2:=JAi (n:=(x.num-a).toNat) (k:=16) (by omega) (by omega)
 unfold Qc QJ Qb
 simp only [List.length_append,List.length_singleton,Qk];omega
theorem JG5:∀(l:List Pl) (a:Int),chain a l→0≤a∧a≤65535→(∀x∈l,x.num≤65535)→∀(k:Nat),(J8 a (l.take k)).length≤53*k∧(0≤J1 a (l.take k)∧J1 a (l.take k)≤65535)∧(∀o:Int,0≤o∧o≤60→0≤JAt a o (l.take k)∧JAt a o (l.take k)≤60)∧∀x,l[k]? = some x→fits x (J1 a (l.take k))
 |[],a,_,ha,_,k=>by simp [J8,J1,JAt,ha]
 |y::l,a,hc,ha,hn,0=>by
  refine ⟨by simp [J8],by simpa [J1] using ha,fun o ho=>by simpa [JAt] using ho,fun x hx=>?_⟩
  simp at hx;subst hx;exact hc.1
 |y::l,a,hc,ha,hn,k+1=>by
  have hl:=JNm hc.1
  have ho:=JAT (Qc y a)
  have hy:=hn y (by simp)
  obtain ⟨⟨f1,f2⟩,_,_⟩:=hc.1
  obtain ⟨h1,h2,h3,h4⟩:=JG5 l y.num hc.2 ⟨by omega,by omega⟩ (fun x hx=>hn x (by simp [hx])) k
  refine ⟨?_,h2,fun o _=>h3 _ ⟨by omega,by omega⟩,fun x hx=>h4 x (by simpa using hx)⟩
  rw [List.take_succ_cons,J8,List.length_append];omega
end Go.Bk
namespace Go.Mw
open Go.Bk
theorem JCC (k:IntKind)(a b:Int):Q1 .add k a b=some (.int k (k.wrap (a+b))):=rfl
theorem JCL (k:IntKind)(a b:Int):Q1 .sub k a b=some (.int k (k.wrap (a-b))):=rfl
theorem JCI (k:IntKind)(a b:Int):Q1 .mul k a b=some (.int k (k.wrap (a*b))):=rfl
theorem JCK (k:IntKind)(a b:Int):Q1 .rem k a b=if b=0 then none else some (.int k (a.tmod b)):=rfl
theorem JCD (k:IntKind)(a b:Int):Q1 .eql k a b=some (.bool (a==b)):=rfl
theorem JCJ (k:IntKind)(a b:Int):Q1 .neq k a b=some (.bool (a != b)):=rfl
theorem JCH (k:IntKind)(a b:Int):Q1 .lss k a b=some (.bool (decide (a<b))):=rfl
theorem JCG (k:IntKind)(a b:Int):Q1 .leq k a b=some (.bool (decide (a≤b))):=rfl
theorem JCF (k:IntKind)(a b:Int):Q1 .gtr k a b=some (.bool (decide (a>b))):=rfl
theorem JCE (k:IntKind)(a b:Int):Q1 .geq k a b=some (.bool (decide (a≥b))):=rfl
theorem JPe {v:Nat}(h:v<128):Q1 .shl .u8 (v:Int) 1=some (.int .u8 ((2*v:Nat):Int)):=by
 have e:IntKind.u8.wrap ((v:Int)*2^min (Int.toNat 1) IntKind.u8.bits)=((2*v:Nat):Int):=by rw [show min (Int.toNat 1) IntKind.u8.bits=1 from rfl,IntKind.wrap_u8];omega
 exact congrArg (fun z=>some (Value.int .u8 z)) e
theorem JPb {v:Nat}(h:v<128)(b:Bool):Q1 .or .u8 ((2*v:Nat):Int) ((b.toNat:Nat):Int)=some (.int .u8 ((2*v+b.toNat:Nat):Int)):=congrArg (fun z=>some (Value.int .u8 z)) (or_bit h b)
theorem JPa {x:Nat}(h:x<9223372036854775808):Q1 .and .i64 (x:Int) 1=some (.int .i64 ((x%2:Nat):Int)):=congrArg (fun z=>some (Value.int .i64 z)) (and_one h)
theorem JPf (k:IntKind)(hk:k.bits=64)(x:Nat)(a:Int){i:Nat}(ha:a=i)(h:i≤64):Q1 .shr k (x:Int) a=some (.int k ((x / 2^i:Nat):Int)):=by
 subst ha
 show (if (i:Int)<0 then none else some (Value.int k ((x:Int).fdiv (2^(min (i:Int).toNat k.bits)))))=_
 rw [if_neg (by omega),Int.toNat_natCast,hk,JR3 x i h]
end Go.Mw

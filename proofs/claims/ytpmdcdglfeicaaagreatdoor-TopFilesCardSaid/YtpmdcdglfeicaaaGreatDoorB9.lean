/- What a pen has written, as a string: the law of String; no condition but those in each. -/
import Derived.Test.YtpmdcdglfeicaaaGreatDoorD1
import Derived.Test.YtpmdcdglfeicaaaGreatDoorB7
import Derived.Test.YtpmdcdglfeicaaaGreatDoorB5
import Derived.Test.YtpmdcdglfeicaaaGreatDoorB8
import Derived.Shelf.Bytes.GrowSlice
import Derived.Lib.BufferAt
set_option maxHeartbeats 16000000
set_option maxRecDepth 100000
set_option linter.unusedSimpArgs false
set_option linter.unusedVariables false
set_option linter.unusedSectionVars false
set_option linter.deprecated false
namespace Go.Mw
open Go.Proofs Go.RowKit
theorem JU4 {T b g cap:Nat}{p:Value}{l:List UInt8}{cur:Array Value}(w:World)(hbk:w.heap[b]? = some (.cells #[p,.slice (some ⟨g,0,none⟩) l.length cap] T (0,0)))(hg:w.heap[g]? = some (.cells cur 5 (0,0)))(hl:l≠[])(hcap:l.length≤cap)(hcm:cap≤maxLen)(hcs:cur.size=cap)
  (hcells:∀j u,(Lib.byteCells l)[j]? = some u→w.cell? ⟨g,j,none⟩=some u) :
  Calls Tryz.prog 50 #[.pointer (some ⟨b,0,none⟩)] w fun e w'=>e=.returned (.string ⟨l.toArray⟩)∧w'=w.drew.freeze ⟨g,0,none⟩ l.length:=by
 have hl0:l.length≠0:=fun h=>hl (List.eq_nil_of_length_eq_zero h)
 have c1:w.drew.cell? ⟨b,1,none⟩=some (.slice (some ⟨g,0,none⟩) l.length cap):=by
  have:w.drew.heap[b]? = some (.cells #[p,.slice (some ⟨g,0,none⟩) l.length cap] T (0,0)):=hbk
  rw [Lib.cell_of_heap this];rfl
 have hSD:(Builtin.unsafeSliceData_ #[53] 170 #[.slice (some ⟨g,0,none⟩) l.length cap]).run Tryz.prog w.drew=.ok (.pointer (some ⟨g,0,none⟩)) w.drew:=Lib.run_unsafeSliceData_row _ _ _ _ _ _ (by omega)
 have hUS:(Builtin.unsafeString_ #[170,3] 9 #[.pointer (some ⟨g,0,none⟩),.int .i64 l.length]).run Tryz.prog w.drew=.ok (.string ⟨l.toArray⟩) (w.drew.freeze ⟨g,0,none⟩ l.length):=by
  refine Lib.run_unsafeString_row w.drew 170 3 9 5 Tryz.underlying170 JL g cur.size (by have hg':w.drew.heap[g]? = some (.cells cur 5 (0,0)):=hg;simp [World.shape?,hg']) l hl (by omega) (by unfold maxLen at hcm;omega) ?_
  intro j x hx
  have:=hcells j (.int .u8 x.toNat) (by simp [Lib.byteCells,hx])
  rw [Addr.add_lit,Nat.zero_add]
  exact this
 go_enter Tryz.func50,Tryz.ntmps50
 go_wp2
 go_region
 all_goals (go_wp2;go_ret;exact ⟨rfl,rfl⟩)
theorem JU5 {T b:Nat}{p:Value}(w:World)(hbk:w.heap[b]? = some (.cells #[p,.slice none 0 0] T (0,0))) :
  Calls Tryz.prog 50 #[.pointer (some ⟨b,0,none⟩)] w fun e w'=>e=.returned (.string ⟨#[]⟩)∧w'=w.drew:=by
 have hUS:(Builtin.unsafeString_ #[170,3] 9 #[.pointer none,.int .i64 0]).run Tryz.prog w.drew=.ok (.string .empty) w.drew:=Lib.run_unsafeString_none w.drew _ _ _ none
 have hSD:(Builtin.unsafeSliceData_ #[53] 170 #[.slice none 0 0]).run Tryz.prog w.drew=.ok (.pointer none) w.drew:=Lib.run_unsafeSliceData_nil _ _ _ _ _
 have c1:w.drew.cell? ⟨b,1,none⟩=some (.slice none 0 0):=by
  have:w.drew.heap[b]? = some (.cells #[p,.slice none 0 0] T (0,0)):=hbk
  rw [Lib.cell_of_heap this];rfl
 go_enter Tryz.func50,Tryz.ntmps50
 go_wp2
 go_region
 all_goals (go_wp2;go_ret;exact ⟨rfl,rfl⟩)
theorem JRZ (w:World)(p q:Addr)(n:Nat):(w.freeze p n).cell? q=w.cell? q:=by
 unfold World.freeze
 split
 ·rfl
 ·unfold World.cell?
  simp only [Array.getElem?_modify]
  by_cases h:p.block=q.block
  ·rw [if_pos h]
   cases hb:w.heap[q.block]? with
   |none=>rfl
   |some x=>cases x<;>rfl
  ·rw [if_neg h]
theorem JLl {S:JZ}{w:World}:∀ {l:List UInt8} {xs:List Value},JO (RepD S w) (l.map fun c=>D.raw (.int .u8 c.toNat)) xs→xs=Lib.byteCells l
 |[],[],_=>rfl
 |[],_::_,h=>h.elim
 |_::_,[],h=>h.elim
 |c::l,v::xs,h=>by rw [Qd h.1,JLl h.2];rfl
theorem JTP {A:JD}{x:Operand}{n q:Nat}{l:List UInt8}(hx:A.ev x=.leaf (.ptr n 0))(hn:A.obj n=some (.cells (Qu n q l)))(hq:A.obj q=some (.arr 5 1 (Qp l))) :
  ∀(C:Ctx Tryz.prog) (S:JZ) (M:J3) (ι:Nat→Value) (a:Act) (w:World),Jb C S M ι A a w→Calls Tryz.prog 50 ([x].map a.eval).toArray w fun e w'=>∃v,e=.returned v∧(∀S ι H w,Jk S ι H w (.str l) v) ∧
   ∃U:J3,(∀k,U k→∃o x,A.obj o=some x∧blk (ι o)=some k)∧Fr S U w w':=by
 intro C S M ι a w hR
 obtain ⟨b,vs,el,h1,h2,h3,h4,_⟩:=JEK hR hx hn
 have ea:([x].map a.eval).toArray=#[.pointer (some ⟨b,0,none⟩)]:=by simp [h2]
 rw [ea]
 by_cases hl:l=[]
 ·subst hl
  rw [JJ1] at h4
  match vs,h4 with
  |[p,s],h4=>
   have hs:=Qd h4.2.1
   subst hs
   refine (JU5 w h3).mono fun e w' ⟨he,hw⟩=>⟨_,he,fun S ι H w=>⟨_,rfl,RepD.raw _ rfl⟩,fun _=>False,fun k h=>h.elim,?_⟩
   subst hw
   exact ⟨rfl,rfl,rfl,Nat.le_refl _,fun _ _ _=>rfl,fun _ _ _=>rfl⟩
 ·rw [JEI hl] at h4
  match vs,h4 with
  |[p,s],h4=>
   obtain ⟨_,e',k',es,hob,_,hval⟩:=h4.2.1
   rw [hq] at hob;cases hob
   have hs:s=ι q:=(hval (JDp l)).2.1 rfl rfl
   obtain ⟨xs,hown,hall,hkk,_,hS⟩:=hR.objs q _ hq
   rw [JDp] at hown
   rcases hown.2 with ⟨_,hz⟩|⟨g,cap,cur,u1,u2,u3,u4,u5,u6,u7⟩
   ·exact absurd (List.eq_nil_of_length_eq_zero hz) hl
   ·rw [u1] at hs
    subst hs
    have hcs:=hown.cells (g:=g) (by rw [u1];rfl)
    have hxs:xs=Lib.byteCells l:=by
     rw [JPn] at hall
     exact JLl hall
    rw [hxs] at hcs
    refine (JU4 w h3 u3 hl u4 u5 (by rw [u6,Nat.mul_one]) (fun j u hj=>by have:=hcs j u hj;rw [Addr.add_lit] at this;simpa using this)).mono fun e w' ⟨he,hw⟩=>⟨_,he,fun S ι H w=>⟨_,rfl,RepD.raw _ rfl⟩,fun k=>k=g,fun k h=>⟨q,_,hq,by rw [u1,h];rfl⟩,?_⟩
    subst hw
    refine ⟨?_,?_,?_,?_,fun k hk hne=>?_,fun b o _=>JRZ _ _ _ _⟩
    ·unfold World.freeze;split<;>rfl
    ·unfold World.freeze;split<;>rfl
    ·unfold World.freeze;split<;>rfl
    ·unfold World.freeze;split
     ·exact Nat.le_refl _
     ·simp
    ·unfold World.freeze
     split
     ·rfl
     ·simp only [Array.getElem?_modify]
      rw [if_neg (fun e=>hne e.symm)]
      rfl
end Go.Mw
namespace Go.Mw
open Go.Proofs
open Go.Bk
attribute [local go_sem] decide_true beq_self_eq_true bne_self_eq_false
def rk (b:Bool)(x:Bs):AL:=.d (.raw (.string (bs (bif b then x else []))))
def pos (t:Tr):Prop:=(0≤t.flow∧t.flow≤1000000000000000)∧(0≤t.pour∧t.pour≤1000000000000000)∧0≤t.shown∧t.shown≤1000000000000000
@[go_sem] theorem JXx (b:Bool)(x:Bs)(os:List Nat):AL.keep os (rk b x)=rk b x:=rfl
theorem JPL {α:Type}{p:α→Bool}{l:List α}{k:Nat}{x:α}(h:l.all p=true)(hx:l[k]? = some x):p x=true:=List.all_eq_true.1 h x (List.mem_of_getElem? hx)
theorem JPM {α:Type}{p:α→Bool}{l:List α}(k:Nat)(h:l.all p=true):(l.take k).all p=true:=List.all_eq_true.2 fun x hx=>List.all_eq_true.1 h x (List.mem_of_mem_take hx)
def JHj (l:Bs)(e:Int):AV:=.tup [(false,[.d (.raw (.string (bs l)))]),(false,[.d (.i e)])]
end Go.Mw
namespace Go.Mw
open Go.Proofs
open Go.Bk
attribute [local go_sem] decide_true beq_self_eq_true bne_self_eq_false
@[go_sem] def Zf (g:Nat × Int):List D:=[.i g.1,.i g.2]
theorem JCp {α:Type}{l:List α}{k:Nat}{x:α}(h:l[k]? = some x):l.take (k+1)=l.take k++[x]:=by rw [List.take_add_one,h];rfl
theorem JUC (l:List Int):runs (Js (l.take 1))=[]:=by cases l<;>rfl
theorem JUB {l:List Int}{k:Nat}{x y:Int}(hx:l[k]? = some x)(hy:l[k-1]? = some y)(hk:0<k):runs (Js (l.take (k+1)))=JB1 (runs (Js (l.take k))) (x-y):=by
 have hne:l.take k≠[]:=by
  intro h
  have:=congrArg List.length h
  rw [List.length_take] at this
  have:=(List.getElem?_eq_some_iff.1 hx).1
  simp only [List.length_nil] at *;omega
 have hl:ZR (l.take k)=y:=by
  unfold ZR
  rw [List.getLast?_eq_getElem?,List.length_take]
  have:=(List.getElem?_eq_some_iff.1 hx).1
  rw [show min k l.length-1=k-1 by omega,List.getElem?_take,if_pos (by omega),hy];rfl
 rw [JCp hx,JDu _ _ hne,JKR,hl]
theorem JTT (gs:List (Nat × Int))(d:Int):(JB1 gs d).length≤gs.length+1:=by
 by_cases h0:gs=[]
 ·subst h0;exact Nat.le_refl 1
 ·obtain ⟨a,⟨n,e⟩,rfl⟩:∃a b,gs=a++[b]:=⟨_,_,(List.dropLast_concat_getLast h0).symm⟩
  rw [JEL]
  split<;>simp
theorem JFp (ds:List Int):(runs ds).length≤ds.length:=by
 induction ds using JHf with
 |nil=>exact Nat.le_refl _
 |snoc ds d ih=>
  have:=JTT (runs ds) d
  rw [JKR,List.length_append,List.length_singleton];omega
theorem JUF (gs:List (Nat × Int))(g h:Nat × Int):((gs++[g]).map Zf).set gs.length (Zf h)=(gs++[h]).map Zf:=by
 rw [List.map_append,List.map_append]
 have e:gs.length=(gs.map Zf).length:=by simp
 rw [e,List.set_append_right _ _ (Nat.le_refl _)]
 simp
theorem JRh (gs:List (Nat × Int))(g:Nat × Int):((gs++[g]).map Zf)[gs.length]? = some (Zf g):=by simp
theorem JRf (l:List Int)(k:Nat)(gs:List (Nat × Int))(m:Nat)(e:Int)(h:runs (Js (l.take k))=gs++[(m,e)]):m≤l.length:=by
 have h2:=(JOK (Js (l.take k))).2
 have h3:=JOr (runs (Js (l.take k)))
 rw [h2,h,JBV,List.length_take] at h3
 unfold Ji at h3
 simp at h3
 omega
theorem JQN (l:List Int)(hl:l.length≤1000)(hb:∀n∈l,0≤n∧n≤1073741824):Jf Tryz.prog 47 [.leaf (.d (JDC l))] (.leaf (.own 1000 0 (runs (Js l)).length (runs (Js l)).length)) [(1000,.arr 96 2 ((runs (Js l)).map Zf))]:=by
 have hz0:runs (Js (l.take 0))=[]:=by simp [Js,runs]
 have hz1:=JUC l
 refine Jq Jj Tryz.func47 rfl (by simp only [List.length_cons,List.length_nil,Tryz.ntmps47];omega) JL rfl ?_
 refine JB.reg ?_
 refine JA.o ?_
 refine JA.nil (JB.assocS (JB.reg ?_))
 refine JA.nilo 2 1000 96 2 JF JF (by omega) (by omega) JF ?_
 iterate 3 (refine JA.o ?_)
 refine JA.nil (JB.blk ?_)
 have X:=Fx.mk hz0
 refine JB.forA [0,2,6,7,8] [1000] (l.length) (fun k=>[.slot 8 (.int k),.slot 2 (.leaf (.own 1000 0 (runs (Js (l.take k))).length (runs (Js (l.take k))).length)),.obj 1000 (.arr 96 2 ((runs (Js (l.take k))).map Zf))]) (fun _=>True) (fun k=>by simp only [go_sem]<;>rfl) (by simp only [go_sem,X.h,Int.natCast_zero,List.map_nil,List.length_nil]<;>rfl) ?_ (fun k hk hX=>?_)
 ·trivial
 ·skip
  refine JB.reg ?_
  refine JA.o ?_
  refine JA.nil ?_
  refine JB.cndS JF (fun hb9=>?_) (fun hb9=>?_)
  ·skip
   have hlt:=Yo hb9
   obtain ⟨x,hx⟩:=JAh hb9
   refine JB.skipS (JB.blk (JB.reg ?_))
   have X:=Fx.mk hx
   iterate 2 (refine JA.o1 JC ?_)
   refine JA.nil (JB.assocS (JB.reg ?_))
   iterate 2 (refine JA.o1 JC ?_)
   refine JA.nil ?_
   refine JB.cndS JC (fun hb12=>?_) (fun hb12=>?_)
   ·skip
    have hk0:k=0:=by have:=of_decide_eq_true hb12;omega
    subst hk0
    refine JB.exitS (JR.hit (JB.reg1 ?_))
    have X:=(X.a hz0).a hz1
    refine JA.o1 Jx ?_
    refine JA.o1 JC ?_
    refine JA.nil ?_
    refine JU.nxt ?_ ?_ ?_
    ·omega
    ·exact JN.kp [0,2,6,7,8] [1000] (by simp only [go_sem,X.h]<;>first|((repeat' (first|with_reducible_and_instances rfl|refine Q6 ?_ ?_ ?_|refine Q4 ?_|refine Q8 ?_|refine Q7 ?_ ?_|refine Qw ?_|refine Qy ?_|refine Q9 ?_|refine Q1 ?_ ?_|refine Q3 ?_ ?_|refine Q5 ?_|refine Qx ?_|(refine Qz ?_;omega)));all_goals (first|(rw [hz1];rfl)|omega))|rfl)
    ·trivial
   ·skip
    have hk0:0<k:=by have:=of_decide_eq_false hb12;omega
    obtain ⟨y,hy⟩:∃y,l[k-1]? = some y:=⟨_,List.getElem?_eq_getElem (by omega)⟩
    have hxb:=hb x (List.mem_of_getElem? hx)
    have hyb:=hb y (List.mem_of_getElem? hy)
    have t0:((k:Int)-1).toNat=k-1:=by omega
    have hw:IntKind.i64.wrap (x-y)=x-y:=IntWalk.i64_in _ (by omega)
    have hst:=JUB hx hy hk0
    refine JB.skipS ?_
    by_cases hz:runs (Js (l.take k))=[]
    ·skip
     have hn:=hst
     rw [hz] at hn
     have hn:runs (Js (l.take (k+1)))=[(1,x-y)]:=hn
     have g1:decide (((0:Nat):Int)>0)=false:=rfl
     refine JB.opk 13 ?_
     have X:=((((X.a hy).a t0).a hw).a hz).a g1
     iterate 2 (refine JG.o1 JC ?_)
     refine JG.o1 QG ?_
     iterate 3 (refine JG.o1 JC ?_)
     refine JG.o1 Jx ?_
     refine JG.o1 QG ?_
     refine JG.o1 JC ?_
     refine JG.o1 Jx ?_
     refine JG.o1 JC ?_
     refine JG.nil (QK.fin Qb Qb ?_)
     refine JB.assocS (JB.reg ?_)
     iterate 3 (refine JA.o1 JC ?_)
     refine JA.nil (JB.assocS (JB.reg ?_))
     iterate 3 (refine JA.o1 JC ?_)
     iterate 8 (refine JA.s ?_)
     refine JA.o1 JC ?_
     refine JA.nil ?_
     refine JB.cndS JC (fun hb36=>?_) (fun hb36=>?_)
     ·exact absurd hb36 (by simp)
     ·skip
      refine JB.skipS (JB.reg1 ?_)
      iterate 4 (refine JA.o1 JC ?_)
      refine JA.o1 V6 ?_
      refine JA.o1 JC ?_
      refine JA.nil (JR.nrm (JB.reg1 ?_))
      refine JA.o1 Jx ?_
      refine JA.o1 JC ?_
      refine JA.nil ?_
      refine JU.nxt ?_ ?_ ?_
      ·omega
      ·exact JN.kp [0,2,6,7,8] [1000] (by simp only [go_sem,X.h]<;>first|((repeat' (first|with_reducible_and_instances rfl|refine Q6 ?_ ?_ ?_|refine Q4 ?_|refine Q8 ?_|refine Q7 ?_ ?_|refine Qw ?_|refine Qy ?_|refine Q9 ?_|refine Q1 ?_ ?_|refine Q3 ?_ ?_|refine Q5 ?_|refine Qx ?_|(refine Qz ?_;omega)));all_goals (first|(rw [hn];rfl)|omega))|rfl)
      ·trivial
    ·skip
     obtain ⟨gs,⟨m,e⟩,hg⟩:∃a b,runs (Js (l.take k))=a++[b]:=⟨_,_,(List.dropLast_concat_getLast hz).symm⟩
     have hgl:(gs++[(m,e)]).length=gs.length+1:=by simp
     have g1:decide (((gs.length+1:Nat):Int)>0)=true:=decide_eq_true (by omega)
     have g1b:decide ((gs.length:Int)+1>0)=true:=decide_eq_true (by omega)
     have t1:((gs.length:Int)+1-1).toNat=gs.length:=by omega
     have t2:(((gs.length+1:Nat):Int)-1).toNat=gs.length:=by omega
     have hget:=JRh gs (m,e)
     have hml:=JRf l k gs m e hg
     have hrl:=JFp (Js (l.take k))
     rw [hg,hgl,JBV,List.length_take] at hrl
     have hwn:IntKind.i64.wrap (((gs.length+1:Nat):Int)-1)=(gs.length:Int):=by rw [IntWalk.i64_in _ (by omega)];omega
     by_cases he:e=x-y
     ·skip
      subst he
      have hn:=hst
      rw [hg,JEL,if_pos rfl] at hn
      have hset:=JUF gs (m,x-y) (m+1,x-y)
      have hset2:Zf (m+1,x-y)=[.i ((m+1:Nat):Int),.i (x-y)]:=rfl
      rw [hset2] at hset
      have hn2:(gs++[(m+1,x-y)]).length=gs.length+1:=by simp
      have hbq:((x-y)==(x-y))=true:=beq_self_eq_true _
      have hmc:IntKind.i64.wrap ((m:Int)+1)=((m+1:Nat):Int):=by rw [IntWalk.i64_in _ (by omega)];omega
      refine JB.opk 13 ?_
      have X:=(((((((((((((X.a hy).a t0).a hw).a hg).a hgl).a g1).a g1b).a t1).a t2).a hget).a hwn).a hbq).a hmc).a hset
      iterate 2 (refine JG.o1 JC ?_)
      refine JG.o1 QG ?_
      iterate 3 (refine JG.o1 JC ?_)
      refine JG.o1 Jx ?_
      refine JG.o1 QG ?_
      refine JG.o1 JC ?_
      refine JG.o1 Jx ?_
      refine JG.o1 JC ?_
      refine JG.nil (QK.fin Qb Qb ?_)
      refine JB.assocS (JB.reg ?_)
      iterate 3 (refine JA.o1 JC ?_)
      refine JA.nil (JB.assocS (JB.reg ?_))
      iterate 3 (refine JA.o1 JC ?_)
      iterate 2 (refine JA.y1 JC ?_)
      refine JA.y1 Jx ?_
      refine JA.y1 QG ?_
      iterate 4 (refine JA.y1 JC ?_)
      refine JA.o1 JC ?_
      refine JA.nil ?_
      refine JB.cndS JC (fun hb36=>?_) (fun hb36=>?_)
      ·skip
       refine JB.assocS (JB.reg ?_)
       iterate 2 (refine JA.o1 JC ?_)
       refine JA.o1 Jx ?_
       refine JA.o1 QG ?_
       iterate 2 (refine JA.o1 JC ?_)
       refine JA.o1 Jx ?_
       refine JA.o1 QG ?_
       iterate 2 (refine JA.o1 JC ?_)
       refine JA.nil (JB.exitS (JR.hit (JB.reg1 ?_)))
       refine JA.o1 Jx ?_
       refine JA.o1 JC ?_
       refine JA.nil ?_
       refine JU.nxt ?_ ?_ ?_
       ·omega
       ·exact JN.kp [0,2,6,7,8] [1000] (by simp only [go_sem,X.h]<;>first|((repeat' (first|with_reducible_and_instances rfl|refine Q6 ?_ ?_ ?_|refine Q4 ?_|refine Q8 ?_|refine Q7 ?_ ?_|refine Qw ?_|refine Qy ?_|refine Q9 ?_|refine Q1 ?_ ?_|refine Q3 ?_ ?_|refine Q5 ?_|refine Qx ?_|(refine Qz ?_;omega)));all_goals (first|(rw [hn];done)|(rw [hn];simp;done)|omega))|rfl)
       ·trivial
      ·exact absurd hb36 (by simp)
     ·skip
      have hn:=hst
      rw [hg,JEL,if_neg he] at hn
      have hbq:(e==(x-y))=false:=by simpa using he
      refine JB.opk 13 ?_
      have X:=(((((((((((X.a hy).a t0).a hw).a hg).a hgl).a g1).a g1b).a t1).a t2).a hget).a hwn).a hbq
      iterate 2 (refine JG.o1 JC ?_)
      refine JG.o1 QG ?_
      iterate 3 (refine JG.o1 JC ?_)
      refine JG.o1 Jx ?_
      refine JG.o1 QG ?_
      refine JG.o1 JC ?_
      refine JG.o1 Jx ?_
      refine JG.o1 JC ?_
      refine JG.nil (QK.fin Qb Qb ?_)
      refine JB.assocS (JB.reg ?_)
      iterate 3 (refine JA.o1 JC ?_)
      refine JA.nil (JB.assocS (JB.reg ?_))
      iterate 3 (refine JA.o1 JC ?_)
      iterate 2 (refine JA.y1 JC ?_)
      refine JA.y1 Jx ?_
      refine JA.y1 QG ?_
      iterate 4 (refine JA.y1 JC ?_)
      refine JA.o1 JC ?_
      refine JA.nil ?_
      refine JB.cndS JC (fun hb36=>?_) (fun hb36=>?_)
      ·exact absurd hb36 (by simp)
      ·skip
       refine JB.skipS (JB.reg1 ?_)
       iterate 4 (refine JA.o1 JC ?_)
       refine JA.o1 V6 ?_
       refine JA.o1 JC ?_
       refine JA.nil (JR.nrm (JB.reg1 ?_))
       refine JA.o1 Jx ?_
       refine JA.o1 JC ?_
       refine JA.nil ?_
       refine JU.nxt ?_ ?_ ?_
       ·omega
       ·exact JN.kp [0,2,6,7,8] [1000] (by simp only [go_sem,X.h]<;>first|((repeat' (first|with_reducible_and_instances rfl|refine Q6 ?_ ?_ ?_|refine Q4 ?_|refine Q8 ?_|refine Q7 ?_ ?_|refine Qw ?_|refine Qy ?_|refine Q9 ?_|refine Q1 ?_ ?_|refine Q3 ?_ ?_|refine Q5 ?_|refine Qx ?_|(refine Qz ?_;omega)));all_goals (first|(rw [hn];simp [Zf];done)|(rw [hn];simp;omega)|omega))|rfl)
       ·trivial
  ·skip
   have hke:l.length≤k:=Ys hb9
   have htk:l.take k=l:=List.take_of_length_le hke
   refine JB.exitS (JU.ext (JR.hit (JB.reg ?_)))
   have X:=Fx.mk htk
   iterate 2 (refine JA.o1 JC ?_)
   refine JA.nil ?_
   exact Ends.fin [1000] (rs:=[.tmp 2]) rfl JC Qk
theorem JLx (l:List Int)(hl:l.length≤1000)(hb:∀n∈l,0≤n∧n≤1073741824):Jf Tryz.prog 47 [.leaf (.d (JDC l))] (.leaf (.d (.sl 2 ((runs (Js l)).map Zf)))) []:=
 Jf.gho (JQN l hl hb) (by
  have ht:List.take (runs (Js l)).length (List.map Zf (runs (Js l)))=List.map Zf (runs (Js l)):=List.take_of_length_le (by simp)
  have e:(JD.mk [(0,.leaf (.own 1000 0 (runs (Js l)).length (runs (Js l)).length))] [(1000,.arr 96 2 ((runs (Js l)).map Zf))] (.ret (.leaf (.d (.sl 2 ((runs (Js l)).map Zf)))) [])).frz 1000=⟨[(0,.leaf (.d (.sl 2 ((runs (Js l)).map Zf))))],[],.ret (.leaf (.d (.sl 2 ((runs (Js l)).map Zf)))) []⟩:=by
   simp only [go_sem,ht]<;>rfl
  exact e▸JN.frz _ 1000)
theorem JL3 (g:Nat × Int)(h1:g.1≤1000)(h2:0≤g.2)(h3:g.2≤1073741824):Jf Tryz.prog 48 [.val true ((Zf g).map .d)] (.str (Zh g)) []:=by
 have hta:=JCq (n:=g.1) (k:=20) (by omega) (by omega)
 have htb:=JCq (n:=g.2.toNat) (k:=20) (by omega) (by omega)
 refine Jq Jj Tryz.func48 rfl (by simp only [List.length_cons,List.length_nil,Tryz.ntmps48];omega) JL rfl ?_
 refine JB.reg ?_
 iterate 2 (refine JA.o ?_)
 refine JA.nil (JB.assocS (JB.reg ?_))
 iterate 3 (refine JA.o ?_)
 refine JA.nil ?_
 refine JB.cndS JF (fun hb5=>?_) (fun hb5=>?_)
 ·skip
  have h:g.1=1:=by have:=hb5;simp at this;omega
  have hr:Zh g=QR g.2.toNat:=if_pos h
  refine JB.assocS (JB.reg ?_)
  have X:=Fx.mk hr
  iterate 2 (refine JA.o1 JC ?_)
  refine JA.c1 (JGf g.2 h2 (by omega)) JC JC ?_
  refine JA.o1 JC ?_
  refine JA.nil (JB.retS ?_)
  exact Ends.fin [] (rs:=[.tmp 2]) rfl JC Qk
 ·skip
  have h:g.1≠1:=by have:=hb5;simp at this;omega
  have hr:Zh g=QR g.1++120::QR g.2.toNat:=if_neg h
  refine JB.skipS ?_
  refine JB.opk 11 ?_
  have X:=Fx.mk hr
  iterate 2 (refine JG.o1 JC ?_)
  refine JG.cal (JLp g.1 (by omega)) Jr JC YQ (Yr) JC JF JF ?_
  refine JG.o1 Jx ?_
  iterate 2 (refine JG.o1 JC ?_)
  refine JG.cal (JGf g.2 h2 (by omega)) Jr JC YQ (Yr) JC JF JF ?_
  refine JG.o1 Jx ?_
  refine JG.o1 JC ?_
  refine JG.nil (QK.fin Qb Qb ?_)
  exact Ends.fin [] (rs:=[.tmp 2]) rfl JC (by simp only [go_sem,X.h]<;>first|rfl|((repeat' (first|with_reducible_and_instances rfl|refine Q6 ?_ ?_ ?_|refine Q4 ?_|refine Q8 ?_|refine Q7 ?_ ?_|refine Qw ?_|refine Qy ?_|refine Q9 ?_|refine Q1 ?_ ?_|refine Q3 ?_ ?_|refine Q5 ?_|refine Qx ?_|(refine Qz ?_;omega)));all_goals (simp;done)))
end Go.Mw
namespace Go.Mw
open Go.Proofs
open Go.Bk
attribute [local go_sem] decide_true beq_self_eq_true bne_self_eq_false
def JB8 (x:Pg):List Bs:=QR x.house.toNat::(match x.reads with
 |[]=>[]
 |r::_=>[QR r.toNat])
def Zx (x:Pg)(j:Nat):List Bs:=JB8 x++((runs (Js x.reads)).take j).map Zh
theorem JO9 (x:Pg):Zx x 0=JB8 x:=by simp [Zx]
theorem JO8 {x:Pg}{j:Nat}{g:Nat × Int}(h:(runs (Js x.reads))[j]? = some g):Zx x (j+1)=Zx x j++[Zh g]:=by
 unfold Zx
 rw [JCp h,List.map_append,List.append_assoc];rfl
theorem JO6 (x:Pg):Zx x (runs (Js x.reads)).length=YV x:=by
 unfold Zx JB8 YV
 rw [List.take_length]
 cases hr:x.reads with
 |nil=>rfl
 |cons r t=>simp
theorem JO7 {x:Pg}(h:Yb x=true)(j:Nat):(Zx x j).length≤100:=by
 unfold Yb at h
 simp only [Bool.and_eq_true,decide_eq_true_eq] at h
 have h2:=h.1.1.2
 have hrl:=JFp (Js x.reads)
 rw [JBV] at hrl
 have hp:(JB8 x).length≤2:=by unfold JB8;split<;>simp
 unfold Zx
 rw [List.length_append,List.length_map,List.length_take];omega
theorem JTE {l:List Pg}{k:Nat}{x:Pg}(h:l[k]? = some x):Yd (l.take (k+1))=Yd (l.take k)++Zk x++[10]:=by
 rw [JCp h,JTF];simp [Yd,ends]
theorem JNH (x:Pg):Zk x≠[]:=by
 unfold Zk YV
 split
 ·exact JKj _
 ·rw [JDo _ (by simp)];simp
theorem JLi:∀(ws:List Bs) (n:Nat),(∀w∈ws,w.length≤n)→(blanks ws).length≤ws.length*(n+1)
 |[],n,_=>by simp [blanks]
 |[a],n,h=>by have:=h a (by simp);simp [blanks];omega
 |a::b::l,n,h=>by
  have h1:=JLi (b::l) n fun w hw=>h w (by simp [hw])
  have h2:=h a (by simp)
  rw [JDo a (by simp),List.length_append,List.length_cons,List.length_cons,Nat.succ_mul]
  omega
theorem JKs {x:Pg}(h:Yb x=true):(YV x).length≤17∧∀w∈YV x,w.length≤24:=by
 have h':=h
 unfold Yb at h'
 simp only [Bool.and_eq_true,decide_eq_true_eq,JAj] at h'
 obtain ⟨⟨⟨h1,h2⟩,h3⟩,h4⟩:=h'
 have h3':=List.all_eq_true.1 h3
 unfold YV
 cases hr:x.reads with
 |nil=>exact ⟨by simp,fun w hw=>by simp at hw;subst hw;have:=JCq (n:=x.house.toNat) (k:=20) (by omega) (by omega);omega⟩
 |cons r t=>
  have hp:=JFg h hr
  have hrl:=JFp (Js x.reads)
  rw [JBV,hr] at hrl
  rw [hr] at h2
  simp only [List.length_cons] at h2 hrl
  refine ⟨by simp only [List.length_cons,List.length_map];rw [←hr] at *;rw [hr] at hrl ⊢;omega,fun w hw=>?_⟩
  have hr0:=JAj.1 (h3' r (by rw [hr];simp))
  simp only [List.mem_cons] at hw
  rcases hw with rfl|rfl|hw
  ·have:=JCq (n:=x.house.toNat) (k:=20) (by omega) (by omega);omega
  ·have:=JCq (n:=r.toNat) (k:=20) (by omega) (by omega);omega
  ·obtain ⟨g,hg,rfl⟩:=List.mem_map.1 hw
   rw [←hr] at hg
   have hb:=hp.by0 g hg
   have hn:g.1≤16:=by
    have hl:=hp.len
    have:g.1≤Ji (runs (Js x.reads)):=by
     have hm:g.1∈(runs (Js x.reads)).map Prod.fst:=List.mem_map.2 ⟨g,hg,rfl⟩
     unfold Ji
     generalize (runs (Js x.reads)).map Prod.fst=q at hm
     induction q with
     |nil=>cases hm
     |cons a q ih=>
      rcases List.mem_cons.1 hm with e|e
      ·subst e;simp
      ·have:=ih e;simp;omega
    omega
   have ha:=JCq (n:=g.1) (k:=2) (by omega) (by omega)
   have hb2:=JCq (n:=g.2.toNat) (k:=20) (by omega) (by omega)
   unfold Zh
   split
   ·omega
   ·simp only [List.length_append,List.length_cons];omega
theorem JJW {x:Pg}(h:Yb x=true):(Zk x).length≤425:=by
 obtain ⟨h1,h2⟩:=JKs h
 have:=JLi (YV x) 24 h2
 unfold Zk
 have h3:(YV x).length*25≤17*25:=Nat.mul_le_mul_right _ h1
 omega
theorem JJy:∀(l:List Pg),l.all Yb=true→(Yd l).length≤426*l.length
 |[],_=>by simp [Yd,ends]
 |x::l,h=>by
  simp only [List.all_cons,Bool.and_eq_true] at h
  have:=JJy l h.2
  have h1:=JJW h.1
  have e:Yd (x::l)=Zk x++10::Yd l:=by unfold Yd;rw [List.map_cons,JBW]
  rw [e,List.length_append,List.length_cons,List.length_cons];omega
theorem JMi {x:Pg}(h:Yb x=true){r:Int}{t:List Int}(hr:x.reads=r::t){j:Nat}{g:Nat × Int}(hg:(runs (Js x.reads))[j]? = some g):g.1≤16:=by
 have hp:=JFg h hr
 have hl:=hp.len
 have:g.1≤Ji (runs (Js x.reads)):=by
  have hm:g.1∈(runs (Js x.reads)).map Prod.fst:=List.mem_map.2 ⟨g,List.mem_of_getElem? hg,rfl⟩
  unfold Ji
  generalize (runs (Js x.reads)).map Prod.fst=q at hm
  induction q with
  |nil=>cases hm
  |cons a q ih=>
   rcases List.mem_cons.1 hm with e|e
   ·subst e;simp
   ·have:=ih e;simp;omega
 omega
theorem JLq (l:List Pg)(hl:l.length≤1000)(hz:∀x∈l,x.reads.length≤1000):Jf Tryz.prog 17 [.leaf (.d (JA7 l))] (JHj (JB6 l) (Yg l)) []:=by
 refine Jq Jj Tryz.func17 rfl (by simp only [List.length_cons,List.length_nil,Tryz.ntmps17];omega) JL rfl ?_
 refine JB.reg ?_
 iterate 2 (refine JA.o ?_)
 refine JA.nil (JB.assocS (JB.reg ?_))
 refine JA.o ?_
 refine JA.c1 (JL1 l hl hz) JF JF ?_
 refine JA.o ?_
 refine JA.nil (JB.assocS (JB.reg ?_))
 iterate 2 (refine JA.o ?_)
 refine JA.nil ?_
 refine JB.cndS JF (fun hb14=>?_) (fun hb14=>?_)
 ·skip
  have hne:Yg l≠0:=by simpa using hb14
  have hr:JB6 l=[]:=if_neg hne
  refine JB.assocS (JB.reg ?_)
  have X:=Fx.mk hr
  iterate 3 (refine JA.o1 JEg ?_)
  refine JA.nil (JB.retS ?_)
  exact Ends.fin [] (rs:=[.tmp 2,.tmp 3]) rfl JEg (by simp only [go_sem,X.h,JHj]<;>first|rfl|exact QB)
 ·skip
  have he0:Yg l=0:=by simpa using hb14
  have hr:JB6 l=Yd l:=if_pos he0
  obtain ⟨h32,hok,_⟩:=JIs he0
  have hz0:Yd (l.take 0)=[]:=rfl
  refine JB.skipS (JB.reg ?_)
  refine JA.alcT 5990 JF JF (by omega) rfl JF ?_ 
  refine JA.arr0 5901 5 1 JF (by omega) (by omega) JF ?_ 
  refine JA.nil (JB.assocS (JB.reg ?_))
  iterate 3 (refine JA.o ?_)
  refine JA.nil (JB.blk ?_)
  have X:=Fx.mk hz0
  refine JB.forA [5,16,17,18] [5990,5901] (l.length) (fun k=>[.slot 18 (.int k),.obj 5990 (.cells (Qu 5990 5901 (Yd (l.take k)))),.obj 5901 (.arr 5 1 (Qp (Yd (l.take k))))]) (fun _=>True) (fun k=>by simp only [go_sem]<;>rfl) (by simp only [go_sem,X.h,Int.natCast_zero,JJ1,JPo]<;>rfl) ?_ (fun k hk hX=>?_)
  ·trivial
  ·skip
   refine JB.reg ?_
   refine JA.o ?_
   refine JA.nil ?_
   refine JB.cndS JF (fun hb19=>?_) (fun hb19=>?_)
   ·skip
    have hlt:=Yo hb19
    obtain ⟨x,hx⟩:=JAh hb19
    have hxok:=JPL hok hx
    have hxo:=hxok
    unfold Yb at hxo
    simp only [Bool.and_eq_true,decide_eq_true_eq,JAj] at hxo
    obtain ⟨⟨⟨hh,hrn16⟩,hra⟩,_⟩:=hxo
    have hrd:=List.all_eq_true.1 hra
    have hbk:=JJy _ (JPM k hok)
    have hbl:(l.take k).length≤32:=by rw [List.length_take];omega
    have hps:=JTE hx
    refine JB.skipS (JB.blk (JB.reg ?_))
    have X:=Fx.mk hx
    refine JA.o1 QG ?_
    iterate 3 (refine JA.o1 JC ?_)
    refine JA.nil (JB.reg ?_)
    iterate 2 (refine JA.o1 JC ?_)
    refine JA.c1 (JGf x.house hh.1 (by omega)) JC JC ?_
    iterate 2 (refine JA.o1 JC ?_)
    refine JA.nil (JB.assocS ?_)
    by_cases hz1:x.reads=[]
    ·skip
     have hwp:JB8 x=[QR x.house.toNat]:=by unfold JB8;rw [hz1]
     have hp0:decide (((0:Nat):Int)>0)=false:=rfl
     have hrn:runs (Js ([]:List Int))=[]:=by simp [Js,runs]
     have hw0:Zx x 0=[QR x.house.toNat]:=by rw [JO9,hwp]
     have hgd:decide ((x.reads.length:Int)>0)=false:=by rw [hz1];rfl
     refine JB.reg ?_
     have X:=X.a hgd
     iterate 4 (refine JA.o1 JC ?_)
     refine JA.nil ?_
     refine JB.cndS JC (fun hb29=>?_) (fun hb29=>?_)
     ·exact absurd hb29 (by simp)
     ·skip
      refine JB.skipS (JB.assocS (JB.reg ?_))
      iterate 2 (refine JA.o1 JC ?_)
      refine JA.c1 (JLx x.reads (hz x (List.mem_of_getElem? hx)) (fun n hn=>JAj.1 (hrd n hn))) JC JC ?_
      iterate 2 (refine JA.o1 JC ?_)
      refine JA.nil (JB.blk ?_)
      have X:=X.a hw0
      refine JB.forA [5,8,16,17,18,40,41,42] [5990,5901,25] ((runs (Js x.reads)).length) (fun j=>[.slot 42 (.int j),.slot 8 (.leaf (.own 25 0 (Zx x j).length (Zx x j).length)),.obj 25 (.arr 9 1 ((Zx x j).map encStr))]) (fun _=>True) (fun j=>by simp only [go_sem]<;>rfl) (by simp only [go_sem,X.h,Int.natCast_zero,List.map_cons,List.map_nil,List.length_cons,List.length_nil]<;>rfl) ?_ (fun j hj Xj=>?_)
      ·trivial
      ·skip
       refine JB.reg ?_
       have X:=(Fx.mk hx).a hgd
       refine JA.o1 JC ?_
       refine JA.nil ?_
       refine JB.cndS JC (fun hb43=>?_) (fun hb43=>?_)
       ·skip
        have hlt2:=Yo hb43
        obtain ⟨g,hg⟩:=JAh hb43
        have hgs:=JO8 hg
        obtain ⟨q0,q1,hq⟩:∃r t,x.reads=r::t:=by
         cases h:x.reads with
         |nil=>rw [h] at hg;simp [Js,runs] at hg
         |cons r t=>exact ⟨r,t,rfl⟩
        have hpr:=JFg hxok hq
        have hgb:=hpr.by0 g (List.mem_of_getElem? hg)
        have hg1:=JD1 _ hpr.good g (List.mem_of_getElem? hg)
        have hgm:=JMi hxok hq hg
        have hwl:=JO7 hxok j
        have hrq:=JFp (Js x.reads)
        rw [JBV] at hrq
        refine JB.skipS (JB.blk (JB.reg ?_))
        have X:=X.a hg
        refine JA.o1 QG ?_
        iterate 3 (refine JA.o1 JC ?_)
        refine JA.nil (JB.reg1 ?_)
        iterate 2 (refine JA.o1 JC ?_)
        refine JA.c1 (JL3 g (by omega) hgb.1 hgb.2) JC JC ?_
        refine JA.o1 JC ?_
        refine JA.o1 V6 ?_
        refine JA.o1 JC ?_
        refine JA.nil (JR.nrm (JB.reg1 ?_))
        refine JA.o1 Jx ?_
        refine JA.o1 JC ?_
        refine JA.nil ?_
        refine JU.nxt ?_ ?_ ?_
        ·omega
        ·exact JN.kp [5,8,16,17,18,40,41,42] [5990,5901,25] (by simp only [go_sem,X.h]<;>first|((repeat' (first|with_reducible_and_instances rfl|refine Q6 ?_ ?_ ?_|refine Q4 ?_|refine Q8 ?_|refine Q7 ?_ ?_|refine Qw ?_|refine Qy ?_|refine Q9 ?_|refine Q1 ?_ ?_|refine Q3 ?_ ?_|refine Q5 ?_|refine Qx ?_|(refine Qz ?_;omega)));all_goals (first|(rw [hgs];simp [encStr];done)|(rw [hgs];simp;omega)|omega))|rfl)
        ·trivial
       ·skip
        have hje:j=(runs (Js x.reads)).length:=by have:=Ys hb43;omega
        subst hje
        have hwa:=JO6 x
        have htw:List.take (YV x).length (List.map encStr (YV x))=List.map encStr (YV x):=List.take_of_length_le (by simp)
        have hpl:blanks (YV x)=Zk x:=rfl
        refine JB.exitS (JU.ext (JR.hit (JB.reg1 ?_)))
        have X:=(X.a hwa).a hpl
        refine JA.o1 JC ?_
        have X:=(Fx.mk hwa).a htw
        refine JA.frz 25 JC ?_
        refine JA.lendG [(990,5990),(901,5901)] JF (JLy (Yd (l.take k)) (YV x) (JNH x) (by have:=(JKs hxok).1;omega) (by have:=JJW hxok;unfold Zk at this;omega)) Jr (.inl ⟨[],by simp only [go_sem]<;>rfl,rfl⟩) JF V7 rfl (by decide) JGD V55 V37 V77 JF ?_
        refine JA.nil (JR.nrm (JB.reg1 ?_))
        have X:=(((Fx.mk hx).a hgd).a hwa).a hpl
        refine JA.o1 Jx ?_
        refine JA.o1 JC ?_
        refine JA.nil ?_
        refine JU.nxt ?_ ?_ ?_
        ·omega
        ·exact JN.kp [5,16,17,18] [5990,5901] (by simp only [go_sem,X.h]<;>first|((repeat' (first|with_reducible_and_instances rfl|refine Q6 ?_ ?_ ?_|refine Q4 ?_|refine Q8 ?_|refine Q7 ?_ ?_|refine Qw ?_|refine Qy ?_|refine Q9 ?_|refine Q1 ?_ ?_|refine Q3 ?_ ?_|refine Q5 ?_|refine Qx ?_|(refine Qz ?_;omega)));all_goals (rw [hps]))|rfl)
        ·trivial
    ·skip
     obtain ⟨r,rt,hz2⟩:∃r t,x.reads=r::t:=by cases h:x.reads with|nil=>exact absurd h hz1|cons r t=>exact ⟨r,t,rfl⟩
     have hwp:JB8 x=[QR x.house.toNat,QR r.toNat]:=by unfold JB8;rw [hz2]
     have hw0:Zx x 0=[QR x.house.toNat,QR r.toNat]:=by rw [JO9,hwp]
     have hrl0:0<x.reads.length:=by rw [hz2];simp
     have hgd:decide ((x.reads.length:Int)>0)=true:=decide_eq_true (by omega)
     have hr0:x.reads[0]? = some r:=by rw [hz2];rfl
     have hrb:=JAj.1 (hrd r (List.mem_of_getElem? hr0))
     refine JB.reg ?_
     have X:=(X.a hgd).a hr0
     iterate 4 (refine JA.o1 Yq ?_)
     refine JA.nil ?_
     refine JB.cndS Yq (fun hb29=>?_) (fun hb29=>?_)
     ·skip
      refine JB.reg ?_
      iterate 3 (refine JA.o1 Yq ?_)
      refine JA.o1 V70 ?_
      refine JA.o1 Yq ?_
      refine JA.c1 (JGf r hrb.1 (by omega)) Yq Yq ?_
      refine JA.o1 Yq ?_
      refine JA.o1 V4 ?_
      refine JA.o1 Yq ?_
      refine JA.nil (JB.assocS (JB.reg ?_))
      iterate 2 (refine JA.o1 Yq ?_)
      refine JA.c1 (JLx x.reads (hz x (List.mem_of_getElem? hx)) (fun n hn=>JAj.1 (hrd n hn))) Yq Yq ?_
      iterate 2 (refine JA.o1 Yq ?_)
      refine JA.nil (JB.blk ?_)
      have X:=X.a hw0
      refine JB.forA [5,8,16,17,18,40,41,42] [5990,5901,25] ((runs (Js x.reads)).length) (fun j=>[.slot 42 (.int j),.slot 8 (.leaf (.own 25 0 (Zx x j).length (Zx x j).length)),.obj 25 (.arr 9 1 ((Zx x j).map encStr))]) (fun _=>True) (fun j=>by simp only [go_sem]<;>rfl) (by simp only [go_sem,X.h,Int.toNat_zero,Int.natCast_zero,List.map_cons,List.map_nil,List.length_cons,List.length_nil]<;>rfl) ?_ (fun j hj Xj=>?_)
      ·trivial
      ·skip
       refine JB.reg ?_
       have X:=((Fx.mk hx).a hgd).a hr0
       refine JA.o1 Yq ?_
       refine JA.nil ?_
       refine JB.cndS Yq (fun hb43=>?_) (fun hb43=>?_)
       ·skip
        have hlt2:=Yo hb43
        obtain ⟨g,hg⟩:=JAh hb43
        have hgs:=JO8 hg
        obtain ⟨q0,q1,hq⟩:∃r t,x.reads=r::t:=by
         cases h:x.reads with
         |nil=>rw [h] at hg;simp [Js,runs] at hg
         |cons r t=>exact ⟨r,t,rfl⟩
        have hpr:=JFg hxok hq
        have hgb:=hpr.by0 g (List.mem_of_getElem? hg)
        have hg1:=JD1 _ hpr.good g (List.mem_of_getElem? hg)
        have hgm:=JMi hxok hq hg
        have hwl:=JO7 hxok j
        have hrq:=JFp (Js x.reads)
        rw [JBV] at hrq
        refine JB.skipS (JB.blk (JB.reg ?_))
        have X:=X.a hg
        refine JA.o1 V70 ?_
        iterate 3 (refine JA.o1 Yq ?_)
        refine JA.nil (JB.reg1 ?_)
        iterate 2 (refine JA.o1 Yq ?_)
        refine JA.c1 (JL3 g (by omega) hgb.1 hgb.2) Yq Yq ?_
        refine JA.o1 Yq ?_
        refine JA.o1 V4 ?_
        refine JA.o1 Yq ?_
        refine JA.nil (JR.nrm (JB.reg1 ?_))
        refine JA.o1 V59 ?_
        refine JA.o1 Yq ?_
        refine JA.nil ?_
        refine JU.nxt ?_ ?_ ?_
        ·omega
        ·exact JN.kp [5,8,16,17,18,40,41,42] [5990,5901,25] (by simp only [go_sem,X.h,Int.toNat_zero]<;>first|((repeat' (first|with_reducible_and_instances rfl|refine Q6 ?_ ?_ ?_|refine Q4 ?_|refine Q8 ?_|refine Q7 ?_ ?_|refine Qw ?_|refine Qy ?_|refine Q9 ?_|refine Q1 ?_ ?_|refine Q3 ?_ ?_|refine Q5 ?_|refine Qx ?_|(refine Qz ?_;omega)));all_goals (first|(rw [hgs];simp [encStr];done)|(rw [hgs];simp;omega)|omega))|rfl)
        ·trivial
       ·skip
        have hje:j=(runs (Js x.reads)).length:=by have:=Ys hb43;omega
        subst hje
        have hwa:=JO6 x
        have htw:List.take (YV x).length (List.map encStr (YV x))=List.map encStr (YV x):=List.take_of_length_le (by simp)
        have hpl:blanks (YV x)=Zk x:=rfl
        refine JB.exitS (JU.ext (JR.hit (JB.reg1 ?_)))
        have X:=(X.a hwa).a hpl
        refine JA.o1 Yq ?_
        have X:=(Fx.mk hwa).a htw
        refine JA.frz 25 JC ?_
        refine JA.lendG [(990,5990),(901,5901)] JF (JLy (Yd (l.take k)) (YV x) (JNH x) (by have:=(JKs hxok).1;omega) (by have:=JJW hxok;unfold Zk at this;omega)) Jr (.inl ⟨[],by simp only [go_sem]<;>rfl,rfl⟩) JF V7 rfl (by decide) JGD V55 V37 V77 JF ?_
        refine JA.nil (JR.nrm (JB.reg1 ?_))
        have X:=((((Fx.mk hx).a hgd).a hr0).a hwa).a hpl
        refine JA.o1 V59 ?_
        refine JA.o1 Yq ?_
        refine JA.nil ?_
        refine JU.nxt ?_ ?_ ?_
        ·omega
        ·exact JN.kp [5,16,17,18] [5990,5901] (by simp only [go_sem,X.h,Int.toNat_zero]<;>first|((repeat' (first|with_reducible_and_instances rfl|refine Q6 ?_ ?_ ?_|refine Q4 ?_|refine Q8 ?_|refine Q7 ?_ ?_|refine Qw ?_|refine Qy ?_|refine Q9 ?_|refine Q1 ?_ ?_|refine Q3 ?_ ?_|refine Q5 ?_|refine Qx ?_|(refine Qz ?_;omega)));all_goals (rw [hps]))|rfl)
        ·trivial
     ·exact absurd hb29 (by simp)
   ·skip
    have hke:l.length≤k:=Ys hb19
    have htk:l.take k=l:=List.take_of_length_le hke
    refine JB.exitS (JU.ext (JR.hit (JB.reg ?_)))
    have X:=((Fx.mk htk).a hr).a he0
    refine JA.o1 JEg ?_
    have X:=Fx.mk htk
    refine JA.eat (r:=.str (Yd l)) Jr (JTP (n:=5990) (q:=5901) JF JC JC) ?_ 
    have X:=(X.a hr).a he0
    iterate 2 (refine JA.o1 JEg ?_)
    refine JA.nil ?_
    exact Ends.fin [] (rs:=[.tmp 2,.tmp 3]) rfl JEg (by simp only [go_sem,X.h,JHj]<;>first|rfl|exact QB)
end Go.Mw
namespace Go.Mw
open Go.Proofs Go.RowKit
section
variable {T b:Nat} {lr x y z:Value}
end
end Go.Mw
namespace Go.Mw
open Go.Proofs Go.RowKit
section
variable {T b:Nat} {lr x y z:Value}
theorem JOv (w:World)(a:Addr)(v:Value):(w.setCell a v).heap.size=w.heap.size:=by simp [World.setCell]
theorem JSe:Tryz.prog.follows Departure.mixedOrders=true:=by kernel_rfl
end
end Go.Mw
namespace Go.Mw
open Go.Proofs Go.RowKit
section
variable {T b:Nat} {lr x y z:Value}
end
end Go.Mw
namespace Go.Mw
open Go.Proofs Go.RowKit
section
variable {T b:Nat} {lr x y z:Value}
end
end Go.Mw
namespace Go.Mw
open Go.Proofs Go.RowKit
def ZE (o:Nat)(l:List UInt8):AL:=if l=[] then .d (.raw (.slice none 0 0)) else .own o 0 l.length l.length
@[go_sem ↓ high] theorem JPb (o:Nat)(l:List UInt8)(r:Nat→Nat):AL.ren r (ZE o l)=ZE (r o) l:=by unfold ZE;split<;>rfl
@[go_sem ↓ high] theorem JPa (o:Nat)(l:List UInt8)(os:List Nat)(h:os.contains o=true):AL.keep os (ZE o l)=ZE o l:=by
 unfold ZE
 split
 ·rfl
 ·simp only [AL.keep,h,if_true]
@[go_sem ↓ high] theorem JVu (o k:Nat)(es:List (List D))(b:Nat)(l:List UInt8)(h:(b==o)=false):AL.frz o k es (ZE b l)=ZE b l:=by
 have hb:¬b=o:=by simpa using h
 unfold ZE
 split
 ·rfl
 ·simp only [AL.frz,if_neg hb]
@[go_sem ↓ high] theorem JVv (o:Nat)(ds:List D)(b:Nat)(l:List UInt8):AL.frzc o ds (ZE b l)=ZE b l:=by
 unfold ZE
 split<;>rfl
@[go_sem ↓ high] theorem JPl (o:Nat)(l:List UInt8)(ls:List AL)(r:Nat→Nat):(AO.cells (ZE o l::ls)).ren r=.cells (ZE (r o) l::ls.map (AL.ren r)):=by
 show AO.cells (AL.ren r (ZE o l)::_)=_
 rw [JPb]
@[go_sem ↓ high] theorem JVx (o:Nat)(l:List UInt8)(ls:List AL)(r:Nat→Nat)(n:Nat):AO.ren r ((n,AO.cells (ZE o l::ls)):Nat × AO).2=.cells (ZE (r o) l::ls.map (AL.ren r)):=JPl o l ls r
@[go_sem ↓ high] theorem JVw (o:Nat)(l:List UInt8)(ls:List AL)(os:List Nat)(h:os.contains o=true):(AO.cells (ZE o l::ls)).keep os=.cells (ZE o l::ls.map (AL.keep os)):=by
 show AO.cells (AL.keep os (ZE o l)::_)=_
 rw [JPa _ _ _ h]
end Go.Mw
namespace Go.Bk
open Go.Mw
def rst (s:Bits):Bits:=s.drop (8*(s.length / 8))
end Go.Bk
namespace Go.Mw
open Go.Bk
theorem JCM (k:IntKind)(a b:Int):YJ .add k a b=some (.int k (k.wrap (a+b))):=rfl
theorem JCV (k:IntKind)(a b:Int):YJ .sub k a b=some (.int k (k.wrap (a-b))):=rfl
theorem JCS (k:IntKind)(a b:Int):YJ .mul k a b=some (.int k (k.wrap (a*b))):=rfl
theorem JCU (k:IntKind)(a b:Int):YJ .rem k a b=if b=0 then none else some (.int k (a.tmod b)):=rfl
theorem JCN (k:IntKind)(a b:Int):YJ .eql k a b=some (.bool (a==b)):=rfl
theorem JCT (k:IntKind)(a b:Int):YJ .neq k a b=some (.bool (a != b)):=rfl
theorem JCR (k:IntKind)(a b:Int):YJ .lss k a b=some (.bool (decide (a<b))):=rfl
theorem JCQ (k:IntKind)(a b:Int):YJ .leq k a b=some (.bool (decide (a≤b))):=rfl
theorem JCP (k:IntKind)(a b:Int):YJ .gtr k a b=some (.bool (decide (a>b))):=rfl
theorem JCO (k:IntKind)(a b:Int):YJ .geq k a b=some (.bool (decide (a≥b))):=rfl
end Go.Mw

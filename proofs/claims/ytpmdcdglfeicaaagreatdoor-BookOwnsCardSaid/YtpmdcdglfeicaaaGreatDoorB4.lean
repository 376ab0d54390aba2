/- Calls that are lent several objects; values of which less is known; no condition but those in each. -/
import Derived.Test.YtpmdcdglfeicaaaGreatDoorD1
import Derived.Test.YtpmdcdglfeicaaaGreatDoorB3
import Derived.Laws.Strings
import Derived.Below
import Derived.Lib.AppendStr
import Derived.Lib.Builder
import Derived.Lib.UnsafeStr
import Derived.Laws.Externs
import Derived.Laws.IdiomStrings
import Derived.Laws.BytesArg
import Derived.Lib.BufferMore
set_option linter.unusedSimpArgs false
set_option linter.unusedVariables false
set_option linter.unusedSectionVars false
set_option linter.deprecated false
namespace Go.Mw
open Go.RowKit
def FLe (l l':FL):Prop:=l'=l∨l'=.dead
theorem JRn {S:Jc}{ι:Nat→Value}{H:Nat→Option AO}{w:World}{fs fs':List FL}{v:Value}(h:JS FLe (fs.take fs'.length) fs')(hr:Jd S ι H w (.fpt fs) v):Jd S ι H w (.fpt fs') v:=by
 obtain ⟨b,off,rfl,hf⟩:=hr
 refine ⟨b,off,rfl,fun j f hj=>?_⟩
 obtain ⟨g,hg,hle⟩:=h.get2 hj
 rw [List.getElem?_take] at hg
 split at hg
 ·obtain ⟨h1,u,h2,h3⟩:=hf j g hg
  refine ⟨h1,u,h2,?_⟩
  rcases hle with rfl|rfl
  ·exact h3
  ·exact ZQ.one S ι H w h3
 ·cases hg
theorem Jj.fptW {r:Nat→Nat}{ns:List Nat}{fs fs':List FL}(hi:fs'.all (FL.inn ns)=true)(h:JS FLe (fs.take fs'.length) (fs'.map (FL.ren r))):Jj r ns (.leaf (.fpt fs)) (.leaf (.fpt fs')):=by
 refine ⟨?_,fun S ι H w v ⟨l,hl,hr⟩=>?_⟩
 ·show [AL.fpt fs'].all (AL.inn ns)=true
  simp only [List.all_cons,List.all_nil,Bool.and_true]
  exact hi
 ·simp at hl;subst hl
  exact ⟨_,rfl,JRn (by simpa using h) hr⟩
def JDb (r:Nat→Nat):List (Nat × AO)→List (Nat × AO)
 |[]=>[]
 |p::l=>(r p.1,p.2.ren r)::JDb r l
theorem JNg (r:Nat→Nat):∀l:List (Nat × AO),JDb r l=l.map fun p=>(r p.1,p.2.ren r)
 |[]=>rfl
 |p::l=>by rw [JDb,JNg r l];rfl
@[go_sem] theorem JXu (r:Nat→Nat):JDb r []=[]:=rfl
@[go_sem] theorem JXt (r:Nat→Nat)(q:Nat)(x:AO)(l:List (Nat × AO)):JDb r ((q,x)::l)=(r q,x.ren r)::JDb r l:=rfl
@[go_sem ↓] theorem JVz (A:JE)(d:Nat)(r:Nat→Nat)(res:AV)(obs:List (Nat × AO))(b:Jh):after A d r res obs b=⟨(d,res.ren r)::A.tm,JDb r obs++A.ob,b⟩:=by
 rw [JNg];rfl
section
variable {P:Program} {ops:Array Oper} {Φ:JE→Prop} {r:List Oper} {A A':JE}
theorem JLe {B:Nat}{lend:List (Nat × Nat)}{pre obs:List (Nat × AO)}{res:AV}(hdom:lend.map Prod.fst=pre.map Prod.fst)(hinj:(lend.map Prod.snd).Nodup)(hin:pre.all (fun p=>p.2.inn (Ql pre))=true)
  (hob:∀p∈pre,∀n,look lend p.1=some n→A.obj n=some (p.2.ren (rn lend B))) (hback:∀p∈pre,∃x',look obs p.1=some x' ∧ Z8 p.2 x') (hnew:∀p∈obs,look lend p.1=none→A.obj (B+p.1)=none) (htg:(lend.all fun p=>ZF (p.2%1000)==ZF (p.1%1000))=true:=by rfl):Z0 A B lend pre (.ret res obs):=by
 have h0:Z0 A B lend pre (yB [] (JJ0 pre)):=JQ2 hdom hinj hin hob htg
 refine ⟨h0.lent,h0.only,h0.inj,h0.tag,fun res' obs' hl=>?_⟩
 obtain ⟨rfl,rfl⟩:=hl.inv
 exact ⟨fun q x hx=>hback _ (JBP hx),fun q x' hx hn=>hnew _ (JBP hx) hn⟩
theorem JA.lendG {d:Nat}{f:Operand}{as:List Operand}{tys:Array TypeId}{ty:TypeId}{pos:String}{af:Array Edge}{gd:Option (Nat × Bool)}{g:FuncId}{caps:List AL}{args:List AV}{pre obs:List (Nat × AO)}{res:AV}{vs:List AV}(lend:List (Nat × Nat))
  (hw:J5 ops gd A=some true) (hcon:Qq P g args pre (.ret res obs)) (hcan:JO P g=true) (hf:JDp A (A.ev f) g caps) (hv:as.map A.ev=vs) (hwk:JS (Jj (rn lend (1000*(d+1))) (Ql pre)) (vs++caps.map .leaf) args)
  (hdom:lend.map Prod.fst=pre.map Prod.fst) (hinj:(lend.map Prod.snd).Nodup) (hin:pre.all (fun p=>p.2.inn (Ql pre))=true)
  (hob:∀p∈pre,∀n,look lend p.1=some n→A.obj n=some (p.2.ren (rn lend (1000*(d+1))))) (hback:∀p∈pre,∃x',look obs p.1=some x' ∧ Z8 p.2 x') (hnew:∀p∈obs,look lend p.1=none→A.obj (1000*(d+1)+p.1)=none)
  (hp:after A d (rn lend (1000*(d+1))) res obs A.bh=A') (h':JA P ops Φ r A') (htg:(lend.all fun p=>ZF (p.2%1000)==ZF (p.1%1000))=true:=by rfl) :
  JA P ops Φ (⟨some d,.call { callee:=.value f,args:=as.toArray,argTypes:=tys },ty,pos,af,gd⟩::r) A:=
 .cally (f:=f) (as:=as) (κ:=fun _ _=>A.bh) rfl hw (by simp [Yy]) hf hcan (by rw [hv];exact hwk) hcon (JLe hdom hinj hin hob hback hnew htg) rfl fun res' obs' hl=>by
  obtain ⟨rfl,rfl⟩:=hl.inv
  exact hp▸h'
end
end Go.Mw
namespace Go.Mw
open Go.RowKit
def AL.frs (o:Nat)(ds:List D):AL→AL
 |.csl q i n=>if q=o then (if i+n≤ds.length then .d (.sl 1 (((ds.drop i).take n).map fun x=>[x])) else .dead) else .csl q i n
 |.ptr q i=>if q=o then .dead else .ptr q i
 |l=>l
def JE.frs (A:JE)(o:Nat):JE:=match A.obj o with
 |some (.cells ls)=>match J6 ls with
  |some ds=>A.settle o (AL.frs o ds)
  |none=>A
 |_=>A
theorem JN.frs (A:JE)(o:Nat):JN A (A.frs o):=by
 unfold JE.frs
 split
 ·rename_i ls ho
  split
  case h_2=>exact JN.refl A
  rename_i ds hp
  refine JN.settle A o _ ho _ ds.length id (fun f=>by cases f<;>rfl) (fun fs=>by simp [AL.frs]) fun S S' ι w H' hok hS hT hH l v hne h=>?_
  obtain ⟨b,vs,el,hι,hheap,hall,_⟩:=hok
  have h1:=Jd.one S ι A.obj w h
  have hd:∀x v,RepD S w x v→RepD S' w x v:=fun x v h=>RepD.mono (S':=S') (w:=w) (w':=w) hS (fun _ _ _=>rfl) h
  have hds:=JDa hp hall
  cases l with
  |d x=>exact hd _ _ h
  |ptr q i=>
   simp only [AL.frs]
   split
   ·exact h1
   ·rename_i hqo
    obtain ⟨ls0,b',hq,hι',hv⟩:=h
    exact ⟨_,b',hH q _ hq hqo,hι',hv⟩
  |eptr q i j t=>
   obtain ⟨_,e',k',es',hq,hv⟩:=h
   have hqo:q≠o:=fun e=>by rw [e,ho] at hq;cases hq
   exact ⟨h1,e',k',es',hH q _ hq hqo,hv⟩
  |own q i n t=>
   obtain ⟨_,e',k',es',hq,hv⟩:=h
   have hqo:q≠o:=fun e=>by rw [e,ho] at hq;cases hq
   exact ⟨h1,e',k',es',hH q _ hq hqo,hv⟩
  |obj q=>
   obtain ⟨_,hv,x,hq,hx⟩:=h
   have hqo:q≠o:=fun e=>by rw [e,ho] at hq;cases hq;cases hx
   exact ⟨h1,hv,_,hH q _ hq hqo,by cases x<;>first|rfl|simp [AO.whole] at hx⟩
  |fpt fs=>exact absurd rfl (hne fs)
  |csl q i n=>
   simp only [AL.frs]
   split
   ·rename_i hqo
    have hqo:=hqo.symm
    subst hqo
    obtain ⟨ls0,b',c',hq,hι',rfl,hnc⟩:=h
    have hnc:=Nat.le_of_eq hnc
    rw [hι] at hι'
    simp only [Value.pointer.injEq,Option.some.injEq,Addr.mk.injEq,and_true] at hι'
    subst hι'
    split
    ·rename_i hin
     have hlen:(((ds.drop i).take n).map fun x=>[x]).length=n:=by simp;omega
     have key:∀(j q:Nat) (y:List D) (d:D),(((ds.drop i).take n).map fun x=>[x])[j]? = some y→y[q]? = some d→q=0∧ds[i+j]? = some d:=by
      intro j q y d hy hq
      rw [List.getElem?_map,List.getElem?_take] at hy
      split at hy
      ·rw [List.getElem?_drop] at hy
       cases hx:ds[i+j]? with
       |none=>simp [hx] at hy
       |some x=>
        simp only [hx,Option.map_some,Option.some.injEq] at hy
        subst hy
        cases q with
        |zero=>simp only [List.getElem?_cons_zero,Option.some.injEq] at hq;subst hq;exact ⟨rfl,rfl⟩
        |succ q=>simp at hq
      ·cases hy
     have:=RepD.sl (S:=S') (w:=w) 1 (((ds.drop i).take n).map fun x=>[x]) b i c' (fun j q=>vs.getD (i+j) undef) (by rw [hlen];exact hnc)
      (fun j y hy=>by
       obtain ⟨x,_,rfl⟩:=List.mem_map.1 (List.mem_of_getElem? hy)
       rfl)
      (fun j y q d hy hq=>by
       obtain ⟨rfl,hx⟩:=key j q y d hy hq
       have:=(List.getElem?_eq_some_iff.1 hx).1
       exact hT b _ (by rw [hι];rfl) (by omega))
      (fun j y q d hy hq=>by
       obtain ⟨rfl,hx⟩:=key j q y d hy hq
       obtain ⟨v,hv,_⟩:=hds.get' hx
       rw [show i+j*1+0=i+j by omega,JEG (H:=A.obj) hheap]
       simp [List.getD,hv])
      (fun j y q d hy hq=>by
       obtain ⟨rfl,hx⟩:=key j q y d hy hq
       obtain ⟨v,hv,hr⟩:=hds.get' hx
       have e:vs.getD (i+j) undef=v:=by simp [List.getD,hv]
       rw [e];exact hd _ _ hr)
     rw [hlen] at this
     exact this
    ·exact h1
   ·rename_i hqo
    obtain ⟨ls0,b',c',hq,hι',hv⟩:=h
    exact ⟨_,b',c',hH q _ hq hqo,hι',hv⟩
  |dead=>exact h
 ·exact JN.refl A
def JIy (tm:List (Nat × AV))(ob:List (Nat × AO))(bh:Jh)(o:Nat):Option AO→JE
 |some (.cells ls)=>match J6 ls with
  |some ds=>⟨JBu (AL.frs o ds) tm,JA4 o (AL.frs o ds) ob,bh⟩
  |none=>⟨tm,ob,bh⟩
 |_=>⟨tm,ob,bh⟩
attribute [go_sem] JIy AL.frs
@[go_sem] theorem JXV (tm:List (Nat × AV))(ob:List (Nat × AO))(bh:Jh)(o:Nat):(JE.mk tm ob bh).frs o=JIy tm ob bh o (look ob o):=by
 unfold JE.frs
 simp only [JE.obj,JE.settle]
 cases h:look ob o with
 |none=>rfl
 |some x=>cases x<;>first|rfl|(rename_i ls;cases hp:J6 ls<;>simp [JIy,hp])
theorem JA.frs {P:Program}{ops:Array Oper}{Φ:JE→Prop}{A A':JE}{l:List Oper}(o:Nat)(hp:A.frs o=A')(h':JA P ops Φ l A'):JA P ops Φ l A:=.ghost (JN.frs A o) (hp▸h')
end Go.Mw
namespace Go.Mw
open Go.RowKit
def Env.oth {P:Program}(E:Env P)(b0:Jh):Env P where
 l:=E.l
 J b S M w:=(∃r o,b=.ret r o)∧E.J b0 S M w
 glob:=fun h=>E.glob h.2
 step:=fun ⟨h1,h2⟩ hf hM hN hS hT=>⟨h1,E.step h2 hf hM hN hS hT⟩
 yld:=fun ⟨⟨_,_,h⟩,_⟩ _=>by cases h
theorem Jb.gho {P:Program}{g:FuncId}{args:List AV}{res res':AV}{obs obs':List (Nat × AO)}(h:Jb P g args res obs)
  (hgo:JN ⟨[(0,res)],obs,.ret res' obs'⟩ ⟨[(0,res')],obs',.ret res' obs'⟩):Jb P g args res' obs':=by
 intro E S M ι w vs hin hmin hobj hdis hown htok hargs hJ
 refine (h (E.oth (.ret res' obs')) S M ι w vs hin hmin hobj hdis hown htok hargs ⟨⟨_,_,rfl⟩,hJ⟩).mono fun e w' ⟨v,res1,obs1,S',M',ι',he,hl,⟨_,hJ'⟩,hp⟩=>?_
 obtain ⟨rfl,rfl⟩:=Jh.Leaf.inv hl
 let C:Ctx P:=⟨E,S,1,fun _=>none,none,fun _=>none,by omega⟩
 have hR:Jg C S' M' ι' ⟨[(0,res1)],obs1,.ret res' obs'⟩ { tmps:=#[v],defers:=[] } w':={
  sub:=hp.sub,new:=hp.new,inn:=hp.inn,minn:=hp.minn
  sz:=rfl
  tms:=fun s=>by
   cases s with
   |zero=>exact hp.res
   |succ s=>trivial
  objs:=hp.objs,dis:=hp.dis,own:=hp.own
  env:=hJ'
  tok:=hp.tok
  fixed:=fun s v h=>by cases h
  marks:=⟨[],rfl,List.nodup_nil,by simp⟩
  rdok:=fun l r h=>by cases h
  pinned:=fun q u n x h=>by cases h
  pinN:=fun q h=>absurd rfl h }
 obtain ⟨S2,M2,ι2,hR2⟩:=hgo P C _ w' ⟨S',M',ι',hR⟩
 exact ⟨v,res',obs',S2,M2,ι2,he,.ret _ _,hR2.env,{
  sub:=hR2.sub,new:=hR2.new,inn:=hR2.inn,minn:=hR2.minn
  res:=hR2.tms 0
  objs:=hR2.objs,dis:=hR2.dis,own:=hR2.own,tok:=hR2.tok
  same:=fun o x x' h=>by cases h }⟩
theorem Jb.weak {P:Program}{g:FuncId}{args:List AV}{res res':AV}{obs:List (Nat × AO)}(h:Jb P g args res obs)(hw:Wk res res'):Jb P g args res' obs:=by
 intro E S M ι w vs hin hmin hobj hdis hown htok hargs hJ
 refine (h (E.oth (.ret res' obs)) S M ι w vs hin hmin hobj hdis hown htok hargs ⟨⟨_,_,rfl⟩,hJ⟩).mono fun e w' ⟨v,res1,obs1,S',M',ι',he,hl,⟨_,hJ'⟩,hp⟩=>?_
 obtain ⟨rfl,rfl⟩:=Jh.Leaf.inv hl
 exact ⟨v,res',obs1,S',M',ι',he,.ret _ _,hJ',{ hp with res:=hw _ _ _ _ _ hp.res }⟩
/-! Steps whose plain parts are found by the step itself. -/
theorem JA.o1 {P:Program}{ops:Array Oper}{Φ:JE→Prop}{A A':JE}{r:List Oper}{o:Oper}{rs:List Loc}{ws:List Wr}(h:Z7 P ops o A=some (rs,ws))(h':JA P ops Φ r A')(hp:A.put ws=A':=by simp only [go_sem]<;>rfl):JA P ops Φ (o::r) A:=.op h hp h'
theorem JA.o {P:Program}{ops:Array Oper}{Φ:JE→Prop}{A A':JE}{r:List Oper}{o:Oper}{rs:List Loc}{ws:List Wr}(h':JA P ops Φ r A')(h:Z7 P ops o A=some (rs,ws):=by simp only [go_sem]<;>rfl)(hp:A.put ws=A':=by simp only [go_sem]<;>rfl):JA P ops Φ (o::r) A:=.op h hp h'
theorem JF.o1 {P:Program}{ops:Array Oper}{A A':JE}{acc:List Fp}{K:List Fp→JE→Prop}{r:List (Oper × Nat)}{i:Nat}{o:Oper}{rs:List Loc}{ws:List Wr}{wl:List Loc}(h:Z7 P ops o A=some (rs,ws))(h':JF P ops r A' (⟨rs,wl⟩::acc) K)
  (hp:A.put ws=A':=by simp only [go_sem]<;>rfl) (hw:YO ws=wl:=by simp only [go_sem]<;>rfl):JF P ops ((o,i)::r) A acc K:=.op h hp hw h'
theorem JF.o {P:Program}{ops:Array Oper}{A A':JE}{acc:List Fp}{K:List Fp→JE→Prop}{r:List (Oper × Nat)}{i:Nat}{o:Oper}{rs:List Loc}{ws:List Wr}{wl:List Loc}(h':JF P ops r A' (⟨rs,wl⟩::acc) K)
  (h:Z7 P ops o A=some (rs,ws):=by simp only [go_sem]<;>rfl) (hp:A.put ws=A':=by simp only [go_sem]<;>rfl) (hw:YO ws=wl:=by simp only [go_sem]<;>rfl):JF P ops ((o,i)::r) A acc K:=.op h hp hw h'
section
variable {P:Program} {ops:Array Oper} {Φ:JE→Prop} {A A':JE} {r:List Oper}
theorem JA.s {dst:Nat}{op:Op}{ty:TypeId}{pos:String}{af:Array Edge}{g:Nat × Bool}(h':JA P ops Φ r A')(hw:J5 ops (some g) A=some false:=by simp only [go_sem]<;>rfl)(hp:A.put [.slot dst (.tup [])]=A':=by simp only [go_sem]<;>rfl) :
  JA P ops Φ (⟨some dst,op,ty,pos,af,some g⟩::r) A:=.skp hw hp h'
theorem JA.y1 {dst:Option Nat}{op:Op}{ty:TypeId}{pos:String}{af:Array Edge}{g:Nat × Bool}{rs:List Loc}{ws:List Wr}
  (h:(Qg P op dst).run A (Qt ops ⟨dst,op,ty,pos,af,some g⟩)=some (rs,ws)) (h':JA P ops Φ r A') (hw:J5 ops (some g) A=some true:=by simp only [go_sem]<;>rfl) (hp:A.put ws=A':=by simp only [go_sem]<;>rfl) :
  JA P ops Φ (⟨dst,op,ty,pos,af,some g⟩::r) A:=.yes hw h hp h'
theorem JA.c1 {d:Nat}{g:FuncId}{as:List Operand}{tys:Array TypeId}{ty:TypeId}{pos:String}{af:Array Edge}{args:List AV}{res:AV}{obs:List (Nat × AO)}{vs:List AV}
  (hc:Jb P g args res obs) (hv:as.map A.ev=vs)
  (hp:A.put (obs.reverse.map (fun p=>.obj (1000*(d+1)+p.1) (p.2.ren (1000*(d+1) + ·)))++[.slot d (res.ren (1000*(d+1) + ·))])=A') (h':JA P ops Φ r A')
  (hcan:JO P g=true:=by simp only [go_sem])
  (hwk:JS (Jj (rn [] (1000*(d+1))) []) vs args:=by repeat (first|exact trivial|refine ⟨by first|exact Jj.pure rfl|exact Jj.nil _|exact Jj.int (by first|omega|(simp;done)|(simp;omega)),?_⟩))
  (hfr:∀q x,look obs q=some x→A.obj (1000*(d+1)+q)=none:=by exact YX) :
  JA P ops Φ (⟨some d,.call { callee:=.value (.func g),args:=as.toArray,argTypes:=tys },ty,pos,af,none⟩::r) A:=.cal hc hcan hv hwk hfr hp h'
end
section
variable {P:Program} {ops:Array Oper} {A A':JE} {acc:List Fp} {K:List Fp→JE→Prop} {r:List (Oper × Nat)}
theorem JF.y1 {i:Nat}{dst:Option Nat}{op:Op}{ty:TypeId}{pos:String}{af:Array Edge}{g:Nat × Bool}{rs:List Loc}{ws:List Wr}{wl:List Loc}
  (h:(Qg P op dst).run A (Qt ops ⟨dst,op,ty,pos,af,some g⟩)=some (rs,ws)) (h':JF P ops r A' (⟨rs,wl⟩::acc) K) (hw:J5 ops (some g) A=some true:=by simp only [go_sem]<;>rfl) (hp:A.put ws=A':=by simp only [go_sem]<;>rfl) (hl:YO ws=wl:=by simp only [go_sem]<;>rfl) :
  JF P ops ((⟨dst,op,ty,pos,af,some g⟩,i)::r) A acc K:=.yes hw h hp hl h'
theorem JF.s {i dst:Nat}{op:Op}{ty:TypeId}{pos:String}{af:Array Edge}{g:Nat × Bool}{rs:List Loc}(h':JF P ops r A' (⟨rs,[.slot dst]⟩::acc) K)(hw:J5 ops (some g) A=some false:=by simp only [go_sem]<;>rfl)
  (hr:Qt ops ⟨some dst,op,ty,pos,af,some g⟩=rs:=by simp only [go_sem]<;>rfl) (hp:A.put [.slot dst (.tup [])]=A':=by simp only [go_sem]<;>rfl):JF P ops ((⟨some dst,op,ty,pos,af,some g⟩,i)::r) A acc K:=.skp hw hr hp h'
end
end Go.Mw
namespace Go.Mw
open Go.RowKit
section
variable {P:Program} {ops:Array Oper} {A A':JE} {acc:List Fp} {K:List Fp→JE→Prop} {r:List (Oper × Nat)} {Φ:JE→Prop}
theorem JQ0 {A:JE}{B:Nat}{res:AV}:Z0 A B [] [] (.ret res []):=
 ⟨fun q x h=>by simp [look] at h,fun q n h=>by simp [look] at h,fun q q' n h=>by simp [look] at h,fun q n ls h=>by simp [look] at h,fun res' obs' hlf=>by
  obtain ⟨rfl,rfl⟩:=hlf.inv
  exact ⟨fun q x h=>by simp [look] at h,fun q x h=>by simp [look] at h⟩⟩
theorem JF.inv {i d:Nat}{recv:Operand}{name:String}{t:TypeId}{ag:Bool}{ds:List D}{g:FuncId}{as:List Operand}{tys:Array TypeId}{ty:TypeId}{pos:String}{af:Array Edge}{gd:Option (Nat × Bool)}{args:List AV}{res:AV}{vs:List AV}{rs wl:List Loc}
  (hwt:J5 ops gd A=some true) (hc:Jb P g args res []) (hf:A.ev recv=.leaf (.d (.ifc t ag ds))) (hmeth:JBQ P t name=some g) (hcan:JO P g=true) (hv:as.map A.ev=vs) (hwk:JS (Jj (rn [] (1000*(d+1))) []) (.val ag (ds.map .d)::vs) args)
  (hp:A.put [.slot d (res.ren (rn [] (1000*(d+1))))]=A')
  (hr:Qt ops ⟨some d,.call { callee:=.invoke recv name,args:=as.toArray,argTypes:=tys },ty,pos,af,gd⟩++Q1 (recv::as)=rs)
  (hw:YO [.slot d (res.ren (rn [] (1000*(d+1))))]=wl)
  (h':JF P ops r A' (⟨rs,wl⟩::acc) K):JF P ops ((⟨some d,.call { callee:=.invoke recv name,args:=as.toArray,argTypes:=tys },ty,pos,af,gd⟩,i)::r) A acc K:=
 .cons (fun ho _ _ hrun=>⟨_,_,ho,by
  have:=YV.sem (P:=P) (ops:=ops) (o:=⟨some d,.call { callee:=.invoke recv name,args:=as.toArray,argTypes:=tys },ty,pos,af,gd⟩) (A:=A) (Q1 (recv::as)) [.slot d (res.ren (rn [] (1000*(d+1))))] hwt (fun B hB C a w Q hd hR=>by
   have ef:B.ev recv=A.ev recv:=JA1 fun l hl=>hB l JAT
   have eas:as.map B.ev=as.map A.ev:=JCi fun l hl=>hB l JAT
   obtain ⟨S,M,ι,hR⟩:=hR
   refine Oper.wpIn_mono (fun a' w' h=>?_) (JOH (lend:=[]) (pre:=[]) (b:=.ret res []) (κ:=fun _ _=>B.bh) hR hd rfl rfl (ef.trans hf) hmeth hcan (by rw [show as.toArray.toList=as from rfl,eas,hv];exact hwk) hc JQ0 rfl Q)
   obtain ⟨res',obs',hl,hR'⟩:=h
   obtain ⟨e1,e2⟩:=hl.inv
   subst e1 e2
   exact hR')
  rw [hr] at this
  exact this,hw.symm,hp▸hrun⟩) h'
end
theorem QP {α:Type}{a b:α}(h:a=b:=by repeat' (first|with_reducible_and_instances rfl|refine Q8 ?_ ?_ ?_|refine Q7 ?_|refine YL ?_|refine Q9 ?_ ?_|refine Q3 ?_|refine Q4 ?_|refine YN ?_|refine Q6 ?_ ?_|refine YI ?_ ?_|refine YK ?_|refine YF ?_|(refine Q5 ?_;omega))):a=b:=h
end Go.Mw
namespace Go.Mw
open Go.RowKit
def Env.pan (P:Program)(l:Nat)(S0:Jc)(M0:J7)(w0:World):Env P where
 l:=l
 J b S M w:=(∃res obs,b=.ret res obs)∧Fr S0 M0 w0 w∧(∀k,M k→M0 k∨w0.heap.size≤k)∧(∀b o,S0 b o→S b o)∧Zk P S w
 glob:=fun h=>h.2.2.2.2
 step:=fun {b S M w S' M' w'} ⟨h1,h2,h3,h4,h5⟩ hf hM hN hS hT=>
  ⟨h1,⟨hf.os.trans h2.os,hf.tape.trans h2.tape,hf.output.trans h2.output,Nat.le_trans h2.size hf.size,fun k hk hn=>(hf.block k (Nat.lt_of_lt_of_le hk h2.size) fun hm=>by
   rcases h3 k hm with h|h
   ·exact hn h
   ·omega).trans (h2.block k hk hn),fun b o h=>(hf.cell b o (h4 b o h)).trans (h2.cell b o h)⟩,fun k hk=>by
   rcases hN k hk with h|⟨h,_⟩
   ·exact h3 k h
   ·exact .inr (Nat.le_trans h2.size h),fun b o h=>hS b o (h4 b o h),h5.step hS hf.cell⟩
 yld:=fun ⟨⟨res,obs,h⟩,_⟩ _=>by cases h
section leave
variable {P:Program} {C:Ctx P} {S:Jc} {M:J7} {ι:Nat→Value} {A:JE} {a:Act} {w:World}
theorem JMa {fn:Func}{R:Ending→World→Prop}{ch:List PanicEntry}(hrd:C.rd=none):∀(rs:List Nat) (a:Act) (w:World),Jg C S M ι A a w→a.defers=rs.map mark →
  (∀a' w',Jg C S M ι A a' w' → R (.panicked ch) w')→LeavesInM Fence.wide 0 P fn a.tmps R a.defers (.panicking ch) w
 |[],a,w,hR,hd,h=>by
  rw [hd]
  exact h a w hR
 |r::rs,a,w,hR,hd,h=>by
  obtain ⟨rs',h1,h2,h3⟩:=hR.marks
  have e:rs'=r::rs:=JJS (h1.symm.trans hd)
  subst e
  obtain ⟨hM,hheap⟩:=h3 r (by simp)
  have hlt:=(Array.getElem?_eq_some_iff.1 hheap).1
  have hcell:∀p:Addr,(w.putObj r (.deferred none)).cell? p=w.cell? p:=fun p=>by
   by_cases e:p.block=r
   ·unfold World.cell?
    rw [e,World.putObj_heap_same hlt,hheap]
   ·exact World.cell?_of_block (World.putObj_heap_other e)
  have hm:Mv S ι A.obj w S ι A.obj (w.putObj r (.deferred none)):=⟨fun _ _ h=>h.mono (fun _ _ h=>h) fun b o _=>hcell _,fun o ls h=>⟨⟨ls,h⟩,rfl⟩,fun o e k es h=>⟨es,h,Nat.le_refl _,fun _=>rfl⟩,fun b o hs=>⟨hs,hcell _⟩,fun o x h hx=>⟨⟨x,h,hx⟩,rfl⟩⟩
  have hnd:=List.nodup_cons.1 h2
  have hR':Jg C S M ι A { a with defers:=rs.map mark } (w.putObj r (.deferred none)):={
   sub:=hR.sub
   new:=hR.new
   inn:=fun b o h=>by simpa using hR.inn b o h
   minn:=fun k h=>by simpa using hR.minn k h
   sz:=hR.sz
   tms:=fun s=>hm.v (hR.tms s)
   objs:=fun o x h=>(hR.objs o x h).other hm rfl (fun k hk=>World.putObj_heap_other fun e=>by
    obtain ⟨_,_,z,hz,hd⟩:=(hR.objs o x h).blk_ge hk
    rw [e,hheap] at hz;cases hz;cases hd) fun _ _ _ h=>h
   dis:=hR.dis
   own:=hR.own
   env:=C.E.step hR.env ⟨rfl,rfl,rfl,by simp,fun b _ hb=>World.putObj_heap_other fun e=>hb (e▸hM),fun b o _=>hcell _⟩ (fun _ h=>h) (fun _ h=>.inl h) (fun _ _ h=>h) fun _ _ h=>.inl h
   tok:=hR.tok
   fixed:=hR.fixed
   marks:=⟨rs,rfl,hnd.2,fun q hq=>⟨(h3 q (by simp [hq])).1,(World.putObj_heap_other fun e=>hnd.1 (by rw [←e];exact hq)).trans (h3 q (by simp [hq])).2⟩⟩
   rdok:=fun l r h=>by rw [hrd] at h;cases h
   pinned:=hR.pinned
   pinN:=hR.pinN }
  have ih:=JMa (R:=R) (fn:=fn) hrd rs _ _ hR' rfl h
  rw [hd]
  exact ⟨by simp,.inl ⟨r,_,rfl,run_takeDeferred hheap,ih⟩⟩
end leave
theorem Yq {P:Program}(hm:P.follows .mixedOrders=true){f:FuncId}{fn:Func}{c:Code}{args:List AV}{pre:List (Nat × AO)}{pv:Value}(hf:P.funcs[f]? = some fn)(hb:fn.body=some c)
  (hn:args.length≤fn.ntmps∧fn.ntmps≤950) (hd:Y6 (fun d=>d<fn.ntmps) c=true) (hpre:JJm fn.ntmps pre=true) (h:JB P c (fun e _=>e=.panic (Z3 pv)) ⟨JAM 0 args,pre,.ret .dead []⟩):Qr P pv f args pre:=by
 intro l S M ι w vs hG hin hmin hobj hdis hown htok hargs
 have hl:=hargs.length
 have hnl:=hn.1
 refine callsIn_of_wp_marks hf hb trivial ?_ rfl
 have hpin:∀q x,look pre q=some x→fn.ntmps≤q∧q<1000:=fun q x hx=>by
  obtain ⟨y,hy⟩:=JEW hx
  have:=List.all_eq_true.1 hpre _ hy
  simpa using this
 let C:Ctx P:={ E:=Env.pan P l S M w,S0:=S,N:=fn.ntmps,fix:=fun _=>none,rd:=none,pin:=fun _=>none,lim:=hn.2 }
 have hR:Jg C S M ι ⟨JAM 0 args,pre,.ret .dead []⟩ { tmps:=vs.toArray++Array.replicate (fn.ntmps-vs.toArray.size) undef,defers:=[] } w:={
  sub:=fun _ _ h=>h
  new:=fun _ _ h=>.inl h
  inn:=hin
  minn:=hmin
  sz:=by simp [C];omega
  tms:=by
   intro s
   show Jk S ι (look pre) w ((look (JAM 0 args) s).getD .dead) _
   rw [JHY,if_pos (Nat.zero_le _),Nat.sub_zero]
   cases ha:args[s]? with
   |none=>trivial
   |some x=>
    obtain ⟨v,hv,hr⟩:=hargs.get' ha
    have hs:s<vs.length:=(List.getElem?_eq_some_iff.1 hv).1
    have:(vs.toArray++Array.replicate (fn.ntmps-vs.toArray.size) undef).getD s undef=v:=by
     rw [Array.getD_eq_getD_getElem?,Array.getElem?_append_left (by simpa using hs)]
     simp [hv]
    rw [this]
    exact hr
  objs:=hobj
  dis:=hdis
  own:=hown
  env:=⟨⟨_,_,rfl⟩,⟨rfl,rfl,rfl,Nat.le_refl _,fun _ _ _=>rfl,fun _ _ _=>rfl⟩,fun _ h=>.inl h,fun _ _ h=>h,hG⟩
  tok:=htok
  fixed:=by intro s v h;cases h
  marks:=⟨[],rfl,List.nodup_nil,by simp⟩
  rdok:=by intro l r h;cases h
  pinned:=by intro q u n x hq;cases hq
  pinN:=fun q hq=>absurd rfl hq }
 have hcan:∀d,decide (d<fn.ntmps)=true→C.can d:=fun d hd=>⟨by simpa using hd,rfl,rfl⟩
 refine JA2 hm c (fun d=>d<fn.ntmps) hd C _ _ _ w hcan h ⟨S,M,ι,hR⟩ _ fun e A' a' w' hE hR'=>?_
 subst hE
 obtain ⟨S',M',ι',hR'⟩:=hR'
 obtain ⟨rs,hrs,_⟩:=hR'.marks
 show LeavesInM Fence.wide 0 P fn a'.tmps _ a'.defers (.panicking _) w'
 exact JMa rfl rs a' w' hR' hrs fun a3 w3 hR3=>⟨rfl,hR3.env.2.1⟩
section steps
variable {P:Program} {ops:Array Oper} {A:JE} {pv:Value} {Φ:JE→Prop}
theorem JB.pan1 {id:Nat}{Φ:Exit→JE→Prop}(k:Nat){o:Oper}(ho:ops.toList[k]? = some o)(h:JA P ops (fun B=>(∃rs,JAk P ops pv o B rs)∧Φ (.panic (Z3 pv)) ⟨[],[],B.bh⟩) (ops.toList.take k) A):JB P (.region id ops false) Φ A:=
 .inr ⟨pv,ops.toList.take k,o,ops.toList.drop (k+1),by
  obtain ⟨hk,he⟩:=List.getElem?_eq_some_iff.1 ho
  rw [←he,←List.drop_eq_getElem_cons hk,List.take_append_drop],h⟩
theorem JB.pan {id:Nat}{y:Code}{Φ:Exit→JE→Prop}(k:Nat){o:Oper}(ho:ops.toList[k]? = some o)(h:JA P ops (fun B=>(∃rs,JAk P ops pv o B rs)∧Φ (.panic (Z3 pv)) ⟨[],[],B.bh⟩) (ops.toList.take k) A):JB P (.seq (.region id ops false) y) Φ A:=
 JB.pan1 (id:=id) (Φ:=fun e A'=>match e with |.normal=>∃B,JN A' B∧JB P y Φ B|e=>Φ e A') k ho h
theorem JA.panc {Ψ:Prop}{d:Option Nat}{g:FuncId}{as:List Operand}{tys:Array TypeId}{ty:TypeId}{pos:String}{af:Array Edge}{args vs:List AV}
  (hp:Qr P pv g args []) (hcan:JO P g=true) (hv:as.map A.ev=vs) (hwk:JS (Jj (rn [] 0) []) vs args) (h:Ψ) :
  JA P ops (fun B=>(∃rs,JAk P ops pv ⟨d,.call { callee:=.value (.func g),args:=as.toArray,argTypes:=tys },ty,pos,af,none⟩ B rs)∧Ψ) [] A:=
 .nil ⟨⟨_,rfl,_,rfl,.inl ⟨.func g,as,g,[],0,args,[],[],by simp [Yy],rfl,hcan,by rw [List.map_nil,List.append_nil,hv];exact hwk,⟨hp,rfl⟩,fun q x h=>by simp [look] at h,fun q q' n h=>by simp [look] at h,rfl⟩⟩,h⟩
theorem JA.pang {Ψ:Prop}{d:Option Nat}{f:Operand}{g:FuncId}{ds:List D}{as:List Operand}{tys:Array TypeId}{ty:TypeId}{pos:String}{af:Array Edge}{args vs:List AV}{pre:List (Nat × AO)}(lend:List (Nat × Nat))(B:Nat)
  (hp:Qr P pv g args pre) (hcan:JO P g=true) (hf:A.ev f=.leaf (.d (.fn g ds))) (hv:as.map A.ev=vs) (hwk:JS (Jj (rn lend B) (Ql pre)) (vs++ds.map fun x=>.leaf (.d x)) args)
  (lent:∀q x,look pre q=some x→∃n y,look lend q=some n∧A.obj n=some y∧QI y (x.ren (rn lend B))∧x.inn (Ql pre)=true) (inj:∀q q' n,look lend q=some n→look lend q'=some n→q=q') (h:Ψ) (htg:(pre.all fun p=>(ZF (p.1%1000)).isNone)=true:=by rfl) :
  JA P ops (fun B=>(∃rs,JAk P ops pv ⟨d,.call { callee:=.value f,args:=as.toArray,argTypes:=tys },ty,pos,af,none⟩ B rs)∧Ψ) [] A:=
 .nil ⟨⟨_,rfl,_,rfl,.inl ⟨f,as,g,ds,B,args,lend,pre,by simp [Yy],hf,hcan,by rw [hv];exact hwk,⟨hp,htg⟩,lent,inj,rfl⟩⟩,h⟩
theorem JA.pani {Ψ:Prop}{d:Option Nat}{x:Operand}{t:TypeId}{us:List Value}{ty:TypeId}{pos:String}{af:Array Edge}
  (hx:A.ev x=.leaf (.d (.ifc t true (us.map .raw)))) (hpv:pv=.iface t (.agg us.toArray)) (h:Ψ) :
  JA P ops (fun B=>(∃rs,JAk P ops pv ⟨d,.panic x,ty,pos,af,none⟩ B rs)∧Ψ) [] A:=
 .nil ⟨⟨_,rfl,_,rfl,.inr ⟨x,_,t,_,rfl,hx,hpv,fun S w u hr=>by
  cases hr with
  |ifa _ _ vals hl hr=>
   rw [hpv]
   have:vals=us:=by
    simp only [List.length_map] at hl
    refine List.ext_getElem? fun i=>?_
    by_cases hi:i<us.length
    ·have h1:=hr i (.raw us[i]) (vals[i]'(by omega)) (by simp [hi]) (by simp [show i<vals.length by omega])
     have h2:vals[i]'(by omega)=us[i]:=by
      generalize vals[i]'(by omega)=y at h1
      generalize us[i]=z at h1
      cases h1;rfl
     rw [List.getElem?_eq_getElem (show i<vals.length by omega),List.getElem?_eq_getElem hi,h2]
    ·simp [hi,show ¬i<vals.length by omega]
   rw [this],rfl⟩⟩,h⟩
end steps
end Go.Mw
namespace Go.Mw
open Go.RowKit
def JKX (P:Program)(o:Oper)(xs:List Operand)(us:List Value)(r:AV):Prop:=
 ∀ρ:Operand→Value,xs.map ρ=us→∃u,(∀S ι H w,Jk S ι H w r u)∧∀w,(execOp ρ o).run P w=.ok (.value u) w
section pure
variable {P:Program} {ops:Array Oper} {A A':JE} {o:Oper} {C:Ctx P} {a:Act} {w:World}
theorem JL1 {S:Jc}{M:J7}{ι:Nat→Value}(hR:Jg C S M ι A a w):∀ {xs:List Operand} {us:List Value},xs.map A.ev=us.map AV.raw→xs.map a.eval=us
 |[],[],_=>rfl
 |[],_::_,h=>by simp at h
 |_::_,[],h=>by simp at h
 |x::xs,u::us,h=>by
  simp only [List.map_cons,List.cons.injEq] at h ⊢
  have:=QF hR x
  rw [h.1] at this
  exact ⟨Qm (Jl this),JL1 hR h.2⟩
theorem JUy {xs:List Operand}{us:List Value}{r:AV}{d:Nat}(hdst:o.dst=some d)(hop:JKX P o xs us r)(hx:xs.map A.ev=us.map AV.raw)(hd:∀d,o.dst=some d→C.can d)(hR:J9 C A a w)(Q:Exit→Act→World→Prop) :
  o.wpIn (Qb C) 0 P a w (fun a' w'=>J9 C (A.put [.slot d r]) a' w') Q:=by
 obtain ⟨S,M,ι,hR⟩:=hR
 obtain ⟨u,h1,h2⟩:=hop a.eval (JL1 hR hx)
 refine JBZ (h2 w) JBE ?_
 rw [Oper.uponIn_value,hdst]
 exact ⟨S,M,ι,hR.slot (hd d hdst) (h1 S ι A.obj w)⟩
theorem YV.pure {xs:List Operand}{us:List Value}{r:AV}{d:Nat}(hw:J5 ops o.guard A=some true)(hdst:o.dst=some d)(hop:JKX P o xs us r)(hx:xs.map A.ev=us.map AV.raw):YV P ops o A (Qt ops o++Q1 xs) [.slot d r]:=
 .sem (Q1 xs) [.slot d r] hw fun A' hA C a w Q hd hR=>JUy hdst hop ((JCi fun l hl=>hA l hl).trans hx) hd hR Q
end pure
def bs (l:List UInt8):ByteArray:=⟨l.toArray⟩
abbrev AV.str (l:List UInt8):AV:=.raw (.string (bs l))
@[simp] theorem Z2 (l:List UInt8):(bs l).size=l.length:=by simp [bs,ByteArray.size]
theorem JK8 (s:ByteArray):bs s.data.toList=s:=by simp [bs]
theorem JAD (l:List UInt8):(bs l).data.toList=l:=by simp [bs]
theorem JPW (l:List UInt8):(bs l).toList=l:=by
 rw [ByteArray.toList_eq,JAD]
theorem JPU (x y:List UInt8):bs x++bs y=bs (x++y):=by
 apply ByteArray.ext
 simp [bs]
theorem JK9 (l:List UInt8)(i:Nat):(bs l)[i]? = l[i]? :=by
 by_cases h:i<l.length
 ·rw [getElem?_pos (bs l) i (by simpa using h),List.getElem?_eq_getElem h]
  congr 1
 ·rw [getElem?_neg (bs l) i (by simpa using h),List.getElem?_eq_none (by omega)]
theorem JPV (l:List UInt8)(lo hi:Nat):(bs l).extract lo hi=bs ((l.take hi).drop lo):=by
 apply ByteArray.ext
 apply Array.ext'
 rw [ByteArray.data_extract]
 simp only [bs,List.extract_toArray,List.extract_eq_take_drop]
 rw [List.drop_take]
theorem JSa (l:List UInt8):(ByteArray.mk l.toArray)=bs l:=rfl
attribute [go_sem] Z2 JPU JPW JK9 JPV JSa
end Go.Mw
namespace Go.Mw
open Go.RowKit
theorem JDK {P:Program}{f:FuncId}{args:List AV}{res:AV}(h:∀(S:Jc) (ι:Nat→Value) (w:World) (vs:List Value),Zk P S w→(∀b o,S b o→b<w.heap.size)→JS (Jk S ι (look []) w) args vs →
  Calls P f vs.toArray w fun e w'=>∃v,e=.returned v∧(∀S ι H w,Jk S ι H w res v)∧Below w.heap.size w w'):Jb P f args res []:=by
 intro E S M ι w vs hin hmin hobj hdis hown htok hargs hJ
 have hc:=h S ι w vs (E.glob hJ) hin hargs
 rw [←callsIn_wide] at hc
 refine hc.mono fun e w' ⟨v,he,hr,hb⟩=>?_
 have hcell:∀b o,S b o→w'.cell? ⟨b,o,none⟩=w.cell? ⟨b,o,none⟩:=fun b o hs=>World.cell?_of_block (hb.block b (hin b o hs))
 refine ⟨v,res,[],S,M,ι,he,.ret _ _,E.step hJ ⟨hb.os,hb.tape,hb.output,hb.size,fun b hbl _=>hb.block b hbl,hcell⟩ (fun _ h=>h) (fun _ h=>.inl h) (fun _ _ h=>h) (fun _ _ h=>.inl h),?_⟩
 exact {
  sub:=fun _ _ h=>h,new:=fun _ _ h=>.inl h,inn:=fun b o h=>Nat.lt_of_lt_of_le (hin b o h) hb.size,minn:=fun b h=>Nat.lt_of_lt_of_le (hmin b h) hb.size
  res:=hr _ _ _ _
  objs:=fun o x h=>by cases h
  dis:=fun o o' x x' b h=>by cases h
  own:=fun o x b h=>by cases h
  tok:=fun o h=>by cases h
  same:=fun o x x' h=>by cases h }
theorem JRB {P:Program}{f:FuncId}{args:List AV}{q e k n:Nat}{es:List (List D)}(hn:es.length=n)(hk:∀x∈es,x.length=k)(hk0:0<k)(h:∀(S:Jc) (ι:Nat→Value) (w:World) (vs:List Value),Zk P S w→(∀b o,S b o→b<w.heap.size)→JS (Jk S ι (look []) w) args vs →
  Calls P f vs.toArray w fun e' w'=>∃v xs,e'=.returned v∧w'.ownsRow w.heap.size e k v n xs∧(∀S w,JS (RepD S w) es.flatten xs)∧Below w.heap.size w w'):Jb P f args (.leaf (.own q 0 n n)) [(q,.arr e k es)]:=by
 subst hn
 intro E S M ι w vs hin hmin hobj hdis hown htok hargs hJ
 have hc:=h S ι w vs (E.glob hJ) hin hargs
 rw [←callsIn_wide] at hc
 refine hc.mono fun e' w' ⟨v,xs,he,hrow,hx,hb⟩=>?_
 have hcell:∀b o,S b o→w'.cell? ⟨b,o,none⟩=w.cell? ⟨b,o,none⟩:=fun b o hs=>World.cell?_of_block (hb.block b (hin b o hs))
 have hl:∀ {o:Nat} {x:AO},look [(q,AO.arr e k es)] o=some x→o=q∧x=.arr e k es:=fun {o x} h=>by
  by_cases ho:o=q
  ·subst ho;simp [look] at h;exact ⟨rfl,h.symm⟩
  ·simp [look,ho] at h
 have hblk:∀b,blk v=some b→w.heap.size≤b∧b<w'.heap.size:=fun b hb'=>by
  rcases hrow.2 with ⟨rfl,_⟩|⟨g,cap,cur,rfl,hg,hcur,_⟩
  ·simp [blk] at hb'
  ·simp [blk] at hb';subst hb';exact ⟨hg,(Array.getElem?_eq_some_iff.1 hcur).1⟩
 refine ⟨v,_,_,S,fun b=>M b∨(w.heap.size≤b∧b<w'.heap.size),fun _=>v,he,.ret _ _,E.step hJ ⟨hb.os,hb.tape,hb.output,hb.size,fun b hbl _=>hb.block b hbl,hcell⟩ (fun _ h=>.inl h) (fun _ h=>h) (fun _ _ h=>h) (fun _ _ h=>.inl h),?_⟩
 have hone:v.oneCell'=true:=by
  rcases hrow.2 with ⟨rfl,_⟩|⟨g,cap,cur,rfl,_⟩<;>rfl
 exact {
  sub:=fun _ _ h=>h,new:=fun _ _ h=>.inl h,inn:=fun b o h=>Nat.lt_of_lt_of_le (hin b o h) hb.size
  minn:=fun b h=>h.elim (fun h=>Nat.lt_of_lt_of_le (hmin b h) hb.size) (·.2)
  res:=Qk ⟨hone,e,k,es,by simp [look],Nat.le_refl _,fun _=>⟨by simp,JAj.tip hrow⟩⟩
  objs:=fun o x h=>by
   obtain ⟨rfl,rfl⟩:=hl h
   exact ⟨xs,⟨hrow.1,hrow.2.imp id fun ⟨g,cap,cur,h1,h2,h3⟩=>⟨g,cap,cur,h1,Nat.zero_le _,h3⟩⟩,hx _ _,hk,hk0,fun b hb' off hs=>by
    have:=hin b off hs
    have:=(hblk b hb').1
    omega⟩
  dis:=fun o o' x x' b h h' hne=>absurd ((hl h).1.trans (hl h').1.symm) hne
  own:=fun o x b h hb'=>.inr (hblk b hb')
  tok:=fun o h=>by have:=(hl h).2;cases this
  same:=fun o x x' h=>by cases h }
end Go.Mw
namespace Go.Mw
def _root_.Go.Act.more (a:Act)(ds:List Deferred):Act:={ a with defers:=a.defers++ds }
section defers
variable {F:Fence} {n:Nat} {P:Program} {ops:Array Oper} {ds:List Deferred} {a:Act} {w:World}
end defers
end Go.Mw
namespace Go.Mw
open Go.RowKit
def JBc (P:Program)(o:Oper)(A:JE)(r:AV):Prop:=∀(C:Ctx P) (S:Jc) (M:J7) (ι:Nat→Value) (a:Act) (w:World),Jg C S M ι A a w →
 ∃v,(execOp a.eval o).run P w=.ok (.value v) w∧Jk S ι A.obj w r v
section val
variable {P:Program} {ops:Array Oper} {A A':JE} {o:Oper} {C:Ctx P} {a:Act} {w:World} {d:Nat} {r:AV}
theorem JOM (hdst:o.dst=some d)(h:JBc P o A r)(hd:∀d,o.dst=some d→C.can d)(hR:J9 C A a w)(Q:Exit→Act→World→Prop):o.wpIn (Qb C) 0 P a w (fun a' w'=>J9 C (A.put [.slot d r]) a' w') Q:=by
 obtain ⟨S,M,ι,hR⟩:=hR
 obtain ⟨v,h1,h2⟩:=h C S M ι a w hR
 refine JBZ h1 JBE ?_
 rw [Oper.uponIn_value,hdst]
 exact ⟨S,M,ι,hR.slot (hd d hdst) h2⟩
theorem JA.val {Φ:JE→Prop}{l:List Oper}{op:Op}{ty:TypeId}{pos:String}{af:Array Edge}{g:Option (Nat × Bool)}(h:JBc P ⟨some d,op,ty,pos,af,g⟩ A r)(hw:J5 ops g A=some true)
  (hp:A.put [.slot d r]=A') (h':JA P ops Φ l A'):JA P ops Φ (⟨some d,op,ty,pos,af,g⟩::l) A:=
 .sem (K:=fun B=>B=A') hw (fun C a w Q hd hR=>Oper.wpIn_mono (fun a' w' h=>⟨A',rfl,hp▸h⟩) (JOM rfl h hd hR Q)) fun B e=>e▸h'
theorem JF.val {acc:List Fp}{K:List Fp→JE→Prop}{l:List (Oper × Nat)}{i:Nat}(xs:List Loc){op:Op}{ty:TypeId}{pos:String}{af:Array Edge}{g:Option (Nat × Bool)}{rs:List Loc}
  (h:∀A',(∀l∈xs,agree A A' l)→JBc P ⟨some d,op,ty,pos,af,g⟩ A' r) (hw:J5 ops g A=some true) (hr:Qt ops ⟨some d,op,ty,pos,af,g⟩++xs=rs) (hp:A.put [.slot d r]=A')
  (h':JF P ops l A' (⟨rs,[.slot d]⟩::acc) K):JF P ops ((⟨some d,op,ty,pos,af,g⟩,i)::l) A acc K:=
 .cons (fun ho _ _ hrun=>⟨_,_,ho,by
  have:=YV.sem (ops:=ops) (o:=⟨some d,op,ty,pos,af,g⟩) (A:=A) xs [.slot d r] hw fun A' hA C a w Q hd hR=>JOM rfl (h A' hA) hd hR Q
  rw [hr] at this
  exact this,rfl,hp▸hrun⟩) h'
end val
section cells
variable {P:Program} {C:Ctx P} {S:Jc} {M:J7} {ι:Nat→Value} {A:JE} {a:Act} {w:World} {o:Oper} {d n:Nat}
theorem JUe (hR:Jg C S M ι A a w)(ho:o.dst=some d)(hd:C.can d)(hn:A.obj n=none)(hN:1000≤n){t:TypeId}(htag:JGB n t){ls:List AL}{vs:List Value}
  (hr:(execOp a.eval o).run P w=.ok (.value (.pointer (some ⟨w.heap.size,0,none⟩))) (w.alloc (.cells vs.toArray t))) (hall:JS (Jd S ι A.obj w) ls vs) :
  Qw P C A [.slot d (.leaf (.ptr n 0)),.obj n (.cells ls)] a w o:=by
 have hon:Qu ι A n w (w.alloc (.cells vs.toArray t)):=JCL A _
 have ht:Qx ι A n (.cells ls) (.pointer (some ⟨w.heap.size,0,none⟩)):=JAi hn _ _
 have hm:=hon.mv hR ht
 have hpin:C.pin n=none:=by
  cases hp:C.pin n with
  |none=>rfl
  |some q=>have:=hR.pinN n (by rw [hp];simp);omega
 refine JBV ho hd hr (hR.chg hon ht (JHa htag hR.inn (hall.mono fun _ _=>hm.l)) (fun b hb=>?_) (by simp) fun _=>hpin) (Qk ⟨ls,w.heap.size,ZW _ _ _,upd_same _ _ _,rfl⟩)
 simp [blk] at hb;omega
end cells
section alloc
variable {P:Program} {ops:Array Oper} {A A':JE} {d:Nat}
theorem JA.alcT {Φ:JE→Prop}{l:List Oper}{t ty:TypeId}{pos:String}{af:Array Edge}(n:Nat){ag:Bool}{ds:List D}(hz:QD P t=some (ag,ds))(hn:A.obj n=none)(hN:1000≤n)(htag:ZF (n%1000)=some t)
  (hp:A.put [.slot d (.leaf (.ptr n 0)),.obj n (.cells (ds.map .d))]=A') (h':JA P ops Φ l A'):JA P ops Φ (⟨some d,.alloc t,ty,pos,af,none⟩::l) A:=
 .sem (K:=fun B=>B=A') rfl (fun C a w Q hd hR=>by
  obtain ⟨S,M,ι,hR⟩:=hR
  obtain ⟨i,z,hi,hzz,_,rfl,hall⟩:=JC7 hz
  refine Oper.wpIn_mono (fun a' w' h=>⟨A',rfl,hp▸h⟩) (JC6 (JUe (o:=⟨some d,.alloc t,ty,pos,af,none⟩) hR rfl (hd d rfl) hn hN (t:=t) (fun t' h=>by rw [htag] at h;cases h;rfl) (vs:=z.cells.toList) ?_ (JGg hall)) Q)
  simp [execOp,Instr.alloc,zeroValue,typeInfo,hi,hzz,newVar,newRow]) fun B e=>e▸h'
end alloc
section bytes
variable {P:Program}
def Jx (l:List UInt8):List (List D):=l.map fun c=>[.raw (.int .u8 c.toNat)]
theorem ZH (l:List UInt8):(Jx l).length=l.length:=by simp [Jx]
theorem JPZ (x y:List UInt8):Jx (x++y)=Jx x++Jx y:=by simp [Jx]
theorem JPd {S:Jc}{w:World}(l:List UInt8):JS (RepD S w) (Jx l).flatten (Lib.strCells (bs l)):=by
 rw [Lib.strCells,JAD]
 unfold Jx
 induction l with
 |nil=>trivial
 |cons c l ih=>exact ⟨.raw _ rfl,ih⟩
theorem JLD (l:List UInt8):∀x∈Jx l,x.length=1:=fun x h=>by
 unfold Jx at h
 obtain ⟨c,_,rfl⟩:=List.mem_map.1 h
 rfl
theorem JNt {w:World}{t u ty e:TypeId}{i:TypeInfo}(ht:P.underlying t=some (.slice e))(hu:P.underlying u=some .string)(hi:P.info? e=some i)(hz:i.zero=some (.int .u8 0))(hsize:i.size=1)(hby:i.bytes=1)
  {B n:Nat} {v:Value} {xs:List Value} (hown:w.ownsRow B e 1 v n xs) (s:ByteArray) (hlen:n+s.size≤140737488355328) (hB:B≤w.heap.size) :
  ∃v' w',(Builtin.append_ #[t,u] ty #[v,.string s]).run P w=.ok v' w' ∧ w'.ownsRow B e 1 v' (n+s.size) (xs++Lib.strCells s)∧w.grownBy w' (blk v) ∧
   (∀b,blk v'=some b→w.heap.size≤b∨blk v=some b)∧(s.size=0→v'=v):=by
 have h63:n+s.size≤maxLen:=by simp only [maxLen];omega
 rcases hown.2 with ⟨rfl,rfl⟩|⟨g,cap,cur,rfl,hbg,hg,hnc,hcm,hcs,htake⟩
 ·have hx:xs=[]:=List.eq_nil_of_length_eq_zero (by simpa using hown.1)
  subst hx
  obtain ⟨v',w',hr,ho',hgr,hnl⟩:=Lib.run_append_own_string (P:=P) w w.heap.size t u ty e i ht hu hi hz hsize hby (.slice none 0 0) 0 [] (World.ownsRow_nil w _ e 1) s h63 hlen (Nat.le_refl _)
  refine ⟨v',w',hr,⟨ho'.1,?_⟩,hgr,fun b hb=>.inl ?_,fun h=>hnl.2 ⟨rfl,h⟩⟩
  ·rcases ho'.2 with h|⟨g,cap,cur,e1,e2,rest⟩
   ·exact .inl h
   ·exact .inr ⟨g,cap,cur,e1,Nat.le_trans hB e2,rest⟩
  ·rcases ho'.2 with ⟨h,_⟩|⟨g,cap,cur,e1,e2,rest⟩
   ·rw [h] at hb;simp [blk] at hb
   ·rw [e1] at hb;simp [blk] at hb;omega
 ·have hll:(xs++Lib.strCells s).length=(n+s.size)*1:=by rw [List.length_append,hown.1,Lib.strCells_length,Nat.mul_one,Nat.mul_one]
  by_cases hroom:n+s.size≤cap
  ·have hr:=Lib.run_append_room_string (P:=P) w t u ty e i ht hu hi hsize g n cap cur hg s hroom (by rw [hcs,Nat.mul_one];exact hroom)
   refine ⟨_,_,hr,⟨hll,.inr ⟨g,cap,_,rfl,hbg,setRow_heap w g cur _ e _ hg,hroom,hcm,?_,?_⟩⟩,⟨rfl,rfl,rfl,by simp,fun k _ hk=>setRow_other w g k _ (fun e=>hk (by simp [blk,e]))⟩,fun b hb=>.inr hb,fun h=>by rw [h];rfl⟩
   ·simp only [List.size_toArray,List.length_append,List.length_take,List.length_drop,Array.length_toList,Lib.strCells_length]
    omega
   ·have ht':cur.toList.take n=xs:=by simpa using htake
    rw [ht',←hll]
    exact List.take_left
  ·have holds:∀j u,xs[j]? = some u→w.cell? ((⟨g,0,none⟩:Addr).add j)=some u:=hown.cells (g:=g) rfl
   have hr:=Lib.run_append_grow_string (P:=P) w t u ty e i (.int .u8 0) ht hu hi hz ⟨g,0,none⟩ n cap xs (by rw [hsize];exact hown.1) holds s (by omega) (by omega) (by rw [hby];exact growslice_fits (by omega) (by omega))
   have hge:=grownCap_ge w (n+s.size) cap e
   have hcm':grownCap w (n+s.size) cap e≤maxLen:=grownCap_le_maxLen w (n+s.size) cap e h63
   refine ⟨_,_,hr,⟨hll,.inr ⟨w.heap.size,_,_,rfl,hB,heap_alloc_new w.drew _,hge,hcm',?_,?_⟩⟩,⟨rfl,rfl,rfl,by simp,fun b hb _=>Below.heap_alloc w.drew _ b hb⟩,fun b hb=>.inl (by simp [blk] at hb;omega),fun h=>by omega⟩
   ·have hx1:=hown.1
    have hz1:(Value.int IntKind.u8 0).cells.size=1:=rfl
    simp only [Array.size_append,List.size_toArray,size_zeroCells,hz1,hx1,Lib.strCells_length]
    omega
   ·simp only [Array.toList_append,List.append_assoc]
    rw [←List.append_assoc,←hll]
    exact List.take_left
end bytes
section appS
variable {P:Program} {ops:Array Oper} {A A':JE} {d:Nat}
theorem JA.appS {Φ:JE→Prop}{l:List Oper}{t u e ty:TypeId}{s x:Operand}{pos:String}{af:Array Edge}{i:TypeInfo}(q:Nat)(b c:List UInt8)(hs:A.ev s=.leaf (.own q 0 b.length b.length)∨(b=[]∧c≠[]∧A.ev s=.raw (.slice none 0 0)))
  (hx:A.ev x=.str c) (hq:A.obj q=some (.arr e 1 (Jx b))) (ht:P.underlying t=some (.slice e)) (hu:P.underlying u=some .string) (hi:P.info? e=some i) (hz:i.zero=some (.int .u8 0)∧i.size=1∧i.bytes=1) (hlen:b.length+c.length≤140737488355328)
  (hp:A.put [.obj q (.arr e 1 (Jx (b++c))),.slot d (.leaf (.own q 0 (b++c).length (b++c).length))]=A') (h':JA P ops Φ l A') :
  JA P ops Φ (⟨some d,.call { callee:=.builtin .append,args:=#[s,x],argTypes:=#[t,u] },ty,pos,af,none⟩::l) A:=
 .sem (K:=fun B=>B=A') rfl (fun C a w Q hd hR=>by
  obtain ⟨S,M,ι,hR⟩:=hR
  obtain ⟨xs,hown,hall,hkk,_,hS⟩:=hR.objs q _ hq
  have hxv:a.eval x=.string (bs c):=by have:=QF hR x;rw [hx] at this;exact Qm (Jl this)
  have hsz:(bs c).size=c.length:=Z2 c
  have hl1:(Jx b).length=b.length:=ZH b
  have key:∃v' w' B,(Builtin.append_ #[t,u] ty #[a.eval s,.string (bs c)]).run P w=.ok v' w' ∧ w'.ownsRow B e 1 v' (b.length+c.length) (xs++Lib.strCells (bs c))∧w.grownBy w' (blk (ι q))∧(∀k,blk v'=some k→w.heap.size≤k∨blk (ι q)=some k)∧(c.length=0→v'=ι q):=by
   rcases hs with hs|⟨hb,hc,hs⟩
   ·have h1:=QF hR s
    rw [hs] at h1
    obtain ⟨_,e',k',es,hob,_,hval⟩:=Jl h1
    rw [hq] at hob;cases hob
    have hv:a.eval s=ι q:=(hval hl1).2.1 rfl rfl
    rw [hl1] at hown
    obtain ⟨v',w',hr,ho',hgr,hbk,hm⟩:=JNt (P:=P) (ty:=ty) ht hu hi hz.1 hz.2.1 hz.2.2 hown (bs c) (by rw [hsz];exact hlen) (Nat.zero_le _)
    rw [hsz] at ho' hm
    exact ⟨v',w',0,by rw [hv];exact hr,ho',hgr,hbk,hm⟩
   ·subst hb
    have h1:=QF hR s
    rw [hs] at h1
    have hv:=Qm (Jl h1)
    have hx0:xs=[]:=List.eq_nil_of_length_eq_zero (by simpa [Jx] using hown.1)
    subst hx0
    obtain ⟨v',w',hr,ho',hgr,hbk,hm⟩:=JNt (P:=P) (ty:=ty) ht hu hi hz.1 hz.2.1 hz.2.2 (World.ownsRow_nil w 0 e 1) (bs c) (by rw [hsz];simpa using hlen) (Nat.zero_le _)
    rw [hsz] at ho' hm
    refine ⟨v',w',0,by rw [hv];exact hr,ho',⟨hgr.os,hgr.tape,hgr.output,hgr.size,fun k hk hne=>hgr.block k hk (by simp [blk])⟩,fun k hk=>.inl ?_,fun h=>absurd (List.eq_nil_of_length_eq_zero h) hc⟩
    rcases hbk k hk with h|h
    ·exact h
    ·simp [blk] at h
  obtain ⟨v',w',B,hr,ho',hgr,hbk,hm0⟩:=key
  have hl2:(Jx (b++c)).length=b.length+c.length:=by rw [ZH,List.length_append]
  have hon:Qu ι A q w w':=JJZ hgr fun g hg=>⟨_,hq,hg⟩
  have hu1:v'.oneCell'=true:=by rcases ho'.2 with ⟨rfl,_⟩|⟨_,_,_,rfl,_⟩<;>rfl
  have ht':Qx ι A q (.arr e 1 (Jx (b++c))) v':=by
   unfold Qx
   rw [hq]
   exact ⟨_,rfl,by rw [hl1,hl2];omega,fun he=>hm0 (by rw [hl1,hl2] at he;omega)⟩
  have hm:=hon.mv hR ht'
  have ho0:w'.ownsRow 0 e 1 v' (Jx (b++c)).length (xs++Lib.strCells (bs c)):=by
   rw [hl2]
   exact ⟨ho'.1,ho'.2.imp id fun ⟨g,cap,cur,h1,_,h2⟩=>⟨g,cap,cur,h1,Nat.zero_le _,h2⟩⟩
  have hRR:=hR.chg hon ht' ⟨xs++Lib.strCells (bs c),by rw [upd_same];exact ho0,by rw [JPZ,List.flatten_append];exact (hall.append (JPd c)).mono fun _ _=>hm.d _ _,JLD _,by omega,fun k hk off hs'=>by
   rw [upd_same] at hk
   rcases hbk k hk with h2|h2
   ·have:=hR.inn _ _ hs';omega
   ·exact hS k h2 off hs'⟩ (fun k hk=>by
   rcases hbk k hk with h2|h2
   ·exact .inl h2
   ·exact .inr ⟨_,hq,h2⟩) (by simp) (fun hn=>by rw [hq] at hn;cases hn)
  have hex:(execOp a.eval ⟨some d,.call { callee:=.builtin .append,args:=#[s,x],argTypes:=#[t,u] },ty,pos,af,none⟩).run P w=.ok (.value v') w':=JDO rfl (by rw [hxv];exact hr)
  refine JBZ hex JBE ?_
  ·rw [Oper.uponIn_value]
   refine ⟨A',rfl,?_⟩
   rw [←hp]
   exact ⟨S,_,_,hRR.slot (hd d rfl) (Qk ⟨hu1,e,1,Jx (b++c),ZW _ _ _,by rw [ZH];exact Nat.le_refl _,fun _=>⟨by omega,by rw [upd_same,List.length_append];rw [hl2] at ho0;exact JAj.tip ho0⟩⟩)⟩) fun B e=>e▸h'
end appS
end Go.Mw
namespace Go.Mw
open Go.RowKit
section ptr
variable {P:Program} {A:JE} {d n:Nat} {x y:Operand} {ty:TypeId} {pos:String} {af:Array Edge} {g:Option (Nat × Bool)} {ls:List AL} {src dst t u:TypeId}
theorem JEZ {C:Ctx P}{S:Jc}{M:J7}{ι:Nat→Value}{a:Act}{w:World}(hR:Jg C S M ι A a w){i:Nat}(hx:A.ev x=.leaf (.ptr n i))(hn:A.obj n=some (.cells ls)) :
  ∃b vs el,ι n=.pointer (some ⟨b,0,none⟩)∧a.eval x=.pointer (some ⟨b,i,none⟩)∧w.heap[b]? = some (.cells vs.toArray el (0,0))∧JS (Jd S ι A.obj w) ls vs∧JGB n el:=by
 have hv:=QF hR x
 rw [hx] at hv
 obtain ⟨ls',b,h1,h2,h3⟩:=Jl hv
 obtain ⟨b',vs,el,g1,g2,g3,g4⟩:=hR.objs n _ hn
 rw [h2] at g1;cases g1
 exact ⟨b,vs,el,h2,h3,g2,g3,g4.2⟩
theorem JN9 (hs:P.underlying src=some (.pointer t))(hd:P.underlying dst=some .unsafePointer){k:Nat}(hj:(P.info? t).map (·.size)=some k)(hk:k≠0)(hx:A.ev x=.leaf (.ptr n 0))(hn:A.obj n=some (.cells ls))(hl:ls≠[]) :
  JBc P ⟨some d,.convert src dst x,ty,pos,af,g⟩ A (.leaf (.ptr n 0)):=by
 intro C S M ι a w hR
 obtain ⟨b,vs,el,h1,h2,h3,h4,_⟩:=JEZ hR hx hn
 obtain ⟨j,hj1,hj2⟩:=Option.map_eq_some_iff.1 hj
 have h0:0<vs.length:=by rw [←h4.length];exact List.length_pos_iff.2 hl
 refine ⟨_,?_,Qk ⟨ls,b,hn,h1,rfl⟩⟩
 have:=Lib.run_to_unsafe (P:=P) w ⟨b,0,none⟩ hs hd hj1 (by rw [hj2];exact hk) (e:=el) (cells:=vs.length) (by simp [World.shape?,h3]) h0
 simp [execOp,h2,this]
theorem JN6 (hs:P.underlying src=some .unsafePointer)(hd:P.underlying dst=some (.pointer u))(hj:(P.info? u).isSome=true)(hx:A.ev x=.leaf (.ptr n 0))(hn:A.obj n=some (.cells ls)){T:TypeId}(htag:ZF (n%1000)=some T)
  (hl:liesAt P P.depth T (ls.length / P.cellsOf T) 0 u 1=true) :
  JBc P ⟨some d,.convert src dst x,ty,pos,af,g⟩ A (.leaf (.ptr n 0)):=by
 intro C S M ι a w hR
 obtain ⟨b,vs,el,h1,h2,h3,h4,h5⟩:=JEZ hR hx hn
 obtain ⟨j,hj1⟩:=Option.isSome_iff_exists.1 hj
 have hel:=h5 T htag
 subst hel
 refine ⟨_,?_,Qk ⟨ls,b,hn,h1,rfl⟩⟩
 have:=Lib.run_from_unsafe (P:=P) w ⟨b,0,none⟩ hs hd hj1 (e:=el) (cells:=vs.length) (by simp [World.shape?,h3]) (by rw [←h4.length];exact hl)
 simp [execOp,h2,this]
theorem JN5 {tp te tz:TypeId}(hp:P.underlying tp=some (.pointer te))(hj:(P.info? te).isSome=true){i:Nat}(hx:A.ev x=.leaf (.ptr n i))(hy:A.ev y=.leaf (.ptr n i))(hn:A.obj n=some (.cells ls)) :
  JBc P ⟨some d,.binOp .neq tp x y tz,ty,pos,af,g⟩ A (.bool false):=by
 intro C S M ι a w hR
 obtain ⟨b,vs,el,h1,h2,_⟩:=JEZ hR hx hn
 obtain ⟨b',vs',el',h1',h2',_⟩:=JEZ hR hy hn
 rw [h1] at h1';cases h1'
 obtain ⟨j,hj1⟩:=Option.isSome_iff_exists.1 hj
 refine ⟨_,?_,⟨_,rfl,RepD.raw _ rfl⟩⟩
 have:=Lib.run_neq_ptr_same (P:=P) w ⟨b,i,none⟩ hp hj1
 simp [execOp,h2,h2',eqGuard_at_pointer,this]
theorem JN8 {f:FuncId}{tys:Array TypeId}(hrun:∀v w,(callFunc f #[v]).run P w=.ok (.value v) w){i:Nat}(hx:A.ev x=.leaf (.ptr n i))(hn:A.obj n=some (.cells ls)) :
  JBc P ⟨some d,.call { callee:=.value (.func f),args:=#[x],argTypes:=tys },ty,pos,af,g⟩ A (.leaf (.ptr n i)):=by
 intro C S M ι a w hR
 obtain ⟨b,vs,el,h1,h2,_⟩:=JEZ hR hx hn
 refine ⟨_,?_,Qk ⟨ls,b,hn,h1,rfl⟩⟩
 have hfv:a.eval (.func f)=.func (.func f) #[] #[]:=rfl
 have:=hrun (a.eval x) w
 rw [h2] at this
 simp [execOp,resolve,hfv,Deferred.ofValue,invoke,h2,this]
end ptr
section eat
variable {P:Program} {ops:Array Oper} {A:JE} {d:Nat} {r:AV}
theorem JA.eat {Φ:JE→Prop}{l:List Oper}{f:FuncId}{as:List Operand}{tys:Array TypeId}{ty:TypeId}{pos:String}{af:Array Edge}(hcan:JO P f=true)
  (law:∀(C:Ctx P) (S:Jc) (M:J7) (ι:Nat→Value) (a:Act) (w:World),Jg C S M ι A a w→Calls P f (as.map a.eval).toArray w fun e w'=>∃v,e=.returned v∧(∀S ι H w,Jk S ι H w r v) ∧
   ∃U:J7,(∀k,U k→∃o x,A.obj o=some x∧blk (ι o)=some k)∧Fr S U w w')
  (h':JA P ops Φ l ⟨[(d,r)],[],A.bh⟩):JA P ops Φ (⟨some d,.call { callee:=.value (.func f),args:=as.toArray,argTypes:=tys },ty,pos,af,none⟩::l) A:=
 .sem (K:=fun B=>B=⟨[(d,r)],[],A.bh⟩) rfl (fun C a w Q hd hR=>by
  obtain ⟨S,M,ι,hR⟩:=hR
  have hexec:(execOp a.eval ⟨some d,.call { callee:=.value (.func f),args:=as.toArray,argTypes:=tys },ty,pos,af,none⟩).run P w=.ok (.enter f (as.map a.eval).toArray) w:=by
   have hfv:a.eval (.func f)=.func (.func f) #[] #[]:=rfl
   have e1:as.toArray.map a.eval=(as.map a.eval).toArray:=by apply Array.ext';simp
   simp [execOp,resolve,hfv,Deferred.ofValue,invoke,JCN hcan]
  refine JBZ hexec JBE ?_
  rw [Oper.uponIn_enter]
  refine ⟨JDP C,JEF C ?_⟩
  have hl:=law C S M ι a w hR
  rw [←callsIn_wide] at hl
  refine hl.mono fun e w' ⟨v,he,hr,U,hU,hf⟩=>?_
  subst he
  refine ⟨_,rfl,?_⟩
  obtain ⟨S2,M2,ι2,hR2⟩:=hR.forget hU hf
  exact ⟨S2,M2,ι2,hR2.slot (hd d rfl) (hr _ _ _ _)⟩) fun B e=>e▸h'
end eat
end Go.Mw
namespace Go.Mw
section
variable {P:Program} {ops:Array Oper} {A A':JE} {acc:List Fp} {K:List Fp→JE→Prop} {r:List (Oper × Nat)}
theorem JNR (l:List (Nat × AO)):∀(B:JE),B.put (l.reverse.map fun p=>.obj p.1 p.2)=⟨B.tm,l++B.ob,B.bh⟩:=by
 induction l with
 |nil=>intro B;rfl
 |cons p l ih=>
  intro B
  have happ:∀(a b:List Wr) (B:JE),B.put (a++b)=(B.put a).put b:=by
   intro a
   induction a with
   |nil=>intro b B;rfl
   |cons x a ih2=>intro b B;exact ih2 b _
  rw [List.reverse_cons,List.map_append,happ,ih]
  rfl
theorem JVf (a b:List Wr):YO (a++b)=YO a++YO b:=by
 induction a with
 |nil=>rfl
 |cons x a ih=>cases x<;>simp [YO,ih]
theorem JVg (l:List (Nat × AO)):YO (l.map fun p=>.obj p.1 p.2)=l.map fun p=>.obj p.1:=by
 induction l with
 |nil=>rfl
 |cons p l ih=>simp [YO,ih]
theorem JF.lendG {i d:Nat}{f:Operand}{g:FuncId}{ds:List D}{as:List Operand}{tys:Array TypeId}{ty:TypeId}{pos:String}{af:Array Edge}{gd:Option (Nat × Bool)}{args:List AV}{pre obs:List (Nat × AO)}{res:AV}{vs:List AV}{rs wl:List Loc}(lend:List (Nat × Nat))
  (hwt:J5 ops gd A=some true) (hcon:Qq P g args pre (.ret res obs)) (hcan:JO P g=true) (hf:A.ev f=.leaf (.d (.fn g ds))) (hv:as.map A.ev=vs) (hwk:JS (Jj (rn lend (1000*(d+1))) (Ql pre)) (vs++ds.map fun x=>.leaf (.d x)) args)
  (hdom:lend.map Prod.fst=pre.map Prod.fst) (hinj:(lend.map Prod.snd).Nodup) (hin:pre.all (fun p=>p.2.inn (Ql pre))=true)
  (hob:∀p∈pre,∀n,look lend p.1=some n→A.obj n=some (p.2.ren (rn lend (1000*(d+1))))) (hback:∀p∈pre,∃x',look obs p.1=some x' ∧ Z8 p.2 x') (hnew:obs.all (fun p=>(look lend p.1).isSome)=true)
  (hp:after A d (rn lend (1000*(d+1))) res obs A.bh=A')
  (hr:Qt ops ⟨some d,.call { callee:=.value f,args:=as.toArray,argTypes:=tys },ty,pos,af,gd⟩++(Q1 (f::as)++lend.map fun p=>.obj p.2)=rs)
  (hw:((obs.map fun p=>Loc.obj (rn lend (1000*(d+1)) p.1)).reverse++[.slot d])=wl)
  (h':JF P ops r A' (⟨rs,wl⟩::acc) K) (htg:(lend.all fun p=>ZF (p.2%1000)==ZF (p.1%1000))=true:=by rfl) :
  JF P ops ((⟨some d,.call { callee:=.value f,args:=as.toArray,argTypes:=tys },ty,pos,af,gd⟩,i)::r) A acc K:=
 .cons (fun ho _ _ hrun=>⟨_,_,ho,by
  have:=YV.sem (P:=P) (ops:=ops) (o:=⟨some d,.call { callee:=.value f,args:=as.toArray,argTypes:=tys },ty,pos,af,gd⟩) (A:=A) (Q1 (f::as)++lend.map fun p=>.obj p.2)
    (((obs.map fun p=>(rn lend (1000*(d+1)) p.1,p.2.ren (rn lend (1000*(d+1))))).reverse.map fun p=>.obj p.1 p.2)++[.slot d (res.ren (rn lend (1000*(d+1))))]) hwt (fun B hB C a w Q hd hR=>by
   have ef:B.ev f=A.ev f:=JA1 fun l hl=>hB l JAT
   have eas:as.map B.ev=as.map A.ev:=JCi fun l hl=>hB l JAT
   obtain ⟨S,M,ι,hR⟩:=hR
   have hob':∀p∈pre,∀n,look lend p.1=some n→B.obj n=some (p.2.ren (rn lend (1000*(d+1)))):=fun p hp n hn=>by
    have h1:Mw.agree A B (.obj n):=hB (.obj n) (List.mem_append.2 (.inr (List.mem_map.2 ⟨(p.1,n),JBP hn,rfl⟩)))
    exact Eq.trans h1 (hob p hp n hn)
   refine Oper.wpIn_mono (fun a' w' h=>?_) (JHs (f:=f) (as:=as) (caps:=ds.map .d) (lend:=lend) (pre:=pre) (b:=.ret res obs) (κ:=fun _ _=>B.bh) hR hd rfl (by simp [Yy]) (.inl ⟨ds,ef.trans hf,rfl⟩) hcan
    (by rw [eas,hv,List.map_map];exact hwk) hcon (JLe hdom hinj hin hob' hback (fun p hp hn=>by have:=List.all_eq_true.1 hnew p hp;rw [hn] at this;cases this) htg) rfl Q)
   obtain ⟨res',obs',hl,hR'⟩:=h
   obtain ⟨e1,e2⟩:=hl.inv
   subst e1 e2
   have happ:∀(a b:List Wr) (B:JE),B.put (a++b)=(B.put a).put b:=by
    intro a
    induction a with
    |nil=>intro b B;rfl
    |cons x a ih2=>intro b B;exact ih2 b _
   rw [happ,JNR]
   exact hR')
  rw [hr] at this
  exact this,by rw [←hw,JVf,JVg,List.map_reverse,List.map_map];rfl,by
   have happ:∀(a b:List Wr) (B:JE),B.put (a++b)=(B.put a).put b:=by
    intro a
    induction a with
    |nil=>intro b B;rfl
    |cons x a ih2=>intro b B;exact ih2 b _
   rw [happ,JNR]
   show Qe P ops _ (after A d (rn lend (1000*(d+1))) res obs A.bh) _ _
   rw [hp];exact hrun⟩) h'
end
def YJ (a b:Nat)(l:List UInt8):List AL:=if l=[] then [.d (.raw (.pointer none)),.d (.raw (.slice none 0 0))] else [.ptr a 0,.own b 0 l.length l.length]
theorem JHi (a b:Nat):YJ a b []=[.d (.raw (.pointer none)),.d (.raw (.slice none 0 0))]:=rfl
theorem JEY {l:List UInt8}(h:l≠[])(a b:Nat):YJ a b l=[.ptr a 0,.own b 0 l.length l.length]:=if_neg h
theorem JTW (a b:Nat)(l:List UInt8)(r:Nat→Nat):(YJ a b l).map (AL.ren r)=YJ (r a) (r b) l:=by
 unfold YJ;split<;>rfl
theorem JTV (a b:Nat)(l:List UInt8)(os:List Nat)(h:(os.contains a&&os.contains b)=true):(YJ a b l).map (AL.keep os)=YJ a b l:=by
 rw [Bool.and_eq_true] at h
 unfold YJ
 split
 ·rfl
 ·simp only [List.map_cons,List.map_nil,AL.keep,h.1,h.2,if_true]
@[go_sem ↓] theorem JTX (a b:Nat)(l:List UInt8)(r:Nat→Nat):(AO.cells (YJ a b l)).ren r=.cells (YJ (r a) (r b) l):=congrArg AO.cells (JTW a b l r)
@[go_sem ↓] theorem JXo (a b:Nat)(l:List UInt8)(os:List Nat)(h:(os.contains a&&os.contains b)=true):(AO.cells (YJ a b l)).keep os=.cells (YJ a b l):=congrArg AO.cells (JTV a b l os h)
@[go_sem ↓] theorem JXp (a b:Nat)(l:List UInt8)(r:Nat→Nat)(n:Nat):AO.ren r ((n,AO.cells (YJ a b l)):Nat × AO).2=.cells (YJ (r a) (r b) l):=JTX a b l r
@[go_sem] theorem JXm (o k:Nat)(es:List (List D))(a b:Nat)(l:List UInt8)(h:(b==o)=false):(YJ a b l).map (AL.frz o k es)=YJ a b l:=by
 have hb:¬b=o:=by simpa using h
 unfold YJ
 split
 ·rfl
 ·simp only [List.map_cons,List.map_nil,AL.frz,if_neg hb]
@[go_sem] theorem JXn (o:Nat)(ds:List D)(a b:Nat)(l:List UInt8)(h:(a==o)=false):(YJ a b l).map (AL.frzc o ds)=YJ a b l:=by
 have ha:¬a=o:=by simpa using h
 unfold YJ
 split
 ·rfl
 ·simp only [List.map_cons,List.map_nil,AL.frzc,if_neg ha]
theorem JTU (a b:Nat)(l:List UInt8)(ns:List Nat)(ha:ns.contains a=true)(hb:ns.contains b=true):(YJ a b l).all (AL.inn ns)=true:=by
 unfold YJ
 split
 ·rfl
 ·simp only [List.all_cons,List.all_nil,AL.inn,ha,hb];rfl
theorem JNH (a b:Nat)(l:List UInt8)(e k:Nat)(es:List (List D)):([(a,AO.cells (YJ a b l)),(b,.arr e k es)]:List (Nat × AO)).all (fun p=>p.2.inn (Ql [(a,AO.cells (YJ a b l)),(b,.arr e k es)]))=true:=by
 have h1:(Ql [(a,AO.cells (YJ a b l)),(b,AO.arr e k es)]).contains a=true:=by simp [Ql]
 have h2:(Ql [(a,AO.cells (YJ a b l)),(b,AO.arr e k es)]).contains b=true:=by simp [Ql]
 simp only [List.all_cons,List.all_nil,Bool.and_true]
 show ((YJ a b l).all (AL.inn (Ql _))&&true)=true
 rw [JTU a b l _ h1 h2];rfl
end Go.Mw
namespace Go.Mw
open Go.RowKit
section conv
variable {P:Program} {A:JE} {d:Nat} {x:Operand} {ty:TypeId} {pos:String} {af:Array Edge} {g:Option (Nat × Bool)} {src dst e:TypeId}
theorem JRW {n:Nat}(h:n<128):Utf8.encode (n:Int)=bs [UInt8.ofNat n]:=by
 have hv:Utf8.valid (n:Int)=true:=by unfold Utf8.valid;simp;omega
 unfold Utf8.encode
 simp only [hv,if_true,Int.toNat_natCast]
 rw [if_pos h]
 rfl
theorem JLC (l:List UInt8):(Jx l).flatten=l.map fun c=>D.raw (.int .u8 c.toNat):=by
 unfold Jx
 induction l with
 |nil=>rfl
 |cons c l ih=>simp [ih]
theorem JN7 (hs:P.underlying src=some (.int .i32))(hd:P.underlying dst=some .string){n:Nat}(hn:n<128)(hx:A.ev x=.raw (.int .i32 n)):JBc P ⟨some d,.convert src dst x,ty,pos,af,g⟩ A (.str [UInt8.ofNat n]):=by
 intro C S M ι a w hR
 have hv:=QF hR x
 rw [hx] at hv
 have hv:=Qm (Jl hv)
 refine ⟨.string (bs [UInt8.ofNat n]),?_,⟨_,rfl,RepD.raw _ rfl⟩⟩
 have:=JRW hn
 simp [execOp,hv,Go.convert,run_underlying hs,run_underlying hd,Conv.intToString,this]
theorem JF7 (hs:P.underlying src=some (.slice e))(he:P.underlying e=some (.int .u8))(hd:P.underlying dst=some .string){l:List UInt8}
  (hx:A.ev x=.leaf (.d (.sl 1 (Jx l)))∨(l=[]∧A.ev x=.raw (.slice none 0 0))∨∃q,A.ev x=.leaf (.own q 0 l.length l.length)∧A.obj q=some (.arr e 1 (Jx l))):JBc P ⟨some d,.convert src dst x,ty,pos,af,g⟩ A (.str l):=by
 intro C S M ι a w hR
 have hv:=QF hR x
 have key:(Go.convert src dst (a.eval x)).run P w=.ok (.string (bs l)) w:=by
  have back:∀(p:Addr) (c:Nat),(∀(i:Nat) (b:UInt8),l[i]? = some b→w.cell? (p.add i)=some (.int .u8 b.toNat))→(Go.convert src dst (.slice (some p) l.length c)).run P w=.ok (.string (bs l)) w:=fun p c h=>run_convert_bytes_back (P:=P) w src dst e p c l hs he hd fun j hj=>h j l[j] (List.getElem?_eq_getElem hj)
  have hnil:∀(p:Option Addr) (c:Nat),l=[]→(Go.convert src dst (.slice p 0 c)).run P w=.ok (.string (bs l)) w:=fun p c h=>by
   subst h
   cases p with
   |none=>simp [Go.convert,run_underlying hs,run_underlying hd,run_underlying he,Conv.bytesToString];rfl
   |some p=>exact back p c (fun i b h=>by simp at h)
  rcases hx with hx|⟨hl,hx⟩|⟨q,hx,hq⟩
  ·rw [hx] at hv
   have hv:RepD S w (.sl 1 (Jx l)) _:=Jl hv
   generalize a.eval x=u at hv ⊢
   generalize hes:Jx l=es at hv
   cases hv with
   |nil k p c=>exact hnil p c (by simpa [Jx] using hes)
   |sl k es b off c vals hc hk hS hw hr=>
    have hlen:es.length=l.length:=by rw [←hes,ZH]
    rw [hlen]
    refine back ⟨b,off,none⟩ c fun i y hy=>?_
    have he:es[i]? = some [.raw (.int .u8 y.toNat)]:=by rw [←hes];simp [Jx,hy]
    have h1:=hw i _ 0 _ he rfl
    have h2:=Qm (hr i _ 0 _ he rfl)
    rw [h2,Nat.mul_one,Nat.add_zero] at h1
    rw [Addr.add_lit];exact h1
  ·rw [hx] at hv
   rw [Qm (Jl hv)]
   exact hnil none 0 hl
  ·rw [hx] at hv
   obtain ⟨_,e',k',es,hob,_,hval⟩:=Jl hv
   rw [hq] at hob;cases hob
   have hval:=(hval (ZH l)).2.1 rfl rfl
   rw [hval]
   obtain ⟨xs,hown,hall,hkk,_,hS⟩:=hR.objs q _ hq
   rw [ZH] at hown
   rcases hown.2 with ⟨h0,hz⟩|⟨b,cap,cur,h0,h1,h2,h3,h4,h5,h6⟩
   ·rw [h0];exact hnil none 0 (List.eq_nil_of_length_eq_zero hz)
   ·have hcs:=hown.cells (g:=b) (by rw [h0];rfl)
    rw [h0]
    refine back ⟨b,0,none⟩ cap fun i y hy=>?_
    have he:(Jx l).flatten[i]? = some (.raw (.int .u8 y.toNat)):=by
     have:(Jx l).flatten=l.map fun c=>D.raw (.int .u8 c.toNat):=JLC l
     rw [this,List.getElem?_map,hy];rfl
    obtain ⟨u,hu,hr⟩:=hall.get' he
    have:=Qm hr
    rw [hcs i u hu,this]
 exact ⟨_,by simp [execOp,key],⟨_,rfl,RepD.raw _ rfl⟩⟩
end conv
end Go.Mw
namespace Go.Mw
open Go.RowKit
theorem JN.arr0 (A:JE)(o:Nat)(e:TypeId)(k:Nat)(ho:A.obj o=none)(hk:0<k)(hN:1000≤o):JN A (A.put [.obj o (.arr e k [])]):=by
 intro P C a w ⟨S,M,ι,hR⟩
 have hon:Qu ι A o w w:=⟨rfl,rfl,rfl,Nat.le_refl _,fun _ _ _=>rfl⟩
 have ht:Qx ι A o (.arr e k []) (.slice none 0 0):=JAi ho _ _
 have hpin:C.pin o=none:=by
  cases hp:C.pin o with
  |none=>rfl
  |some q=>have:=hR.pinN o (by rw [hp];simp);omega
 exact ⟨S,_,_,hR.chg hon ht ⟨[],by rw [upd_same];exact World.ownsRow_nil w 0 e k,by trivial,by simp,hk,fun b hb=>by rw [upd_same] at hb;simp [blk] at hb⟩ (fun b hb=>by simp [blk] at hb) (by simp) fun _=>hpin⟩
theorem JA.arr0 {P:Program}{ops:Array Oper}{Ψ:JE→Prop}{A A':JE}{l:List Oper}(o:Nat)(e:TypeId)(k:Nat)(ho:A.obj o=none)(hk:0<k)(hN:1000≤o)(hp:A.put [.obj o (.arr e k [])]=A')(h':JA P ops Ψ l A'):JA P ops Ψ l A:=
 .ghost (JN.arr0 A o e k ho hk hN) (hp▸h')
section appC
variable {P:Program} {ops:Array Oper} {A A':JE} {d:Nat}
structure JC8 (P:Program) (A:JE) (s x:Operand) (t e:TypeId) (q r:Nat) (ds:List D) (es:List (List D)) (d:Nat) (i:TypeInfo) (z:Value):Prop where
 hs:A.ev s=.leaf (.csl q 0 ds.length)
 hx:A.ev x=.leaf (.own r 0 es.length es.length)
 hq:A.obj q=some (.cells (ds.map .d))
 hr:A.obj r=some (.arr e 1 es)
 hd:A.obj d=none
 ht:P.underlying t=some (.slice e)
 hi:P.info? e=some i
 hz:i.zero=some z∧i.size=1∧z.cells.size=1
 h0:0<es.length
 hlen:ds.length+es.length≤1048576∧(ds.length+es.length)*i.bytes≤140737488355328
theorem JKD {C:Ctx P}{a:Act}{w:World}{s x:Operand}{t e ty:TypeId}{pos:String}{af:Array Edge}{q r:Nat}{ds:List D}{es:List (List D)}{i:TypeInfo}{z:Value}(h:JC8 P A s x t e q r ds es d i z)(hd:C.can d)(hR:J9 C A a w)(Q:Exit→Act→World→Prop) :
  (⟨some d,.call { callee:=.builtin .append,args:=#[s,x],argTypes:=#[t,t] },ty,pos,af,none⟩:Oper).wpIn (Qb C) 0 P a w
   (fun a' w'=>J9 C (A.put [.slot d (.leaf (.own d 0 ((ds.map fun y=>[y])++es).length ((ds.map fun y=>[y])++es).length)),.obj d (.arr e 1 ((ds.map fun y=>[y])++es))]) a' w') Q:=by
 obtain ⟨S,M,ι,hR⟩:=hR
 have h1:=QF hR s
 rw [h.hs] at h1
 obtain ⟨ls,b,c,g1,g2,g3,g4⟩:=Jl h1
 rw [h.hq] at g1;cases g1
 subst g4
 obtain ⟨b',vs,el,k1,k2,k3,_⟩:=hR.objs q _ h.hq
 rw [g2] at k1;cases k1
 have h2:=QF hR x
 rw [h.hx] at h2
 obtain ⟨_,e',k',es',j1,_,j2⟩:=Jl h2
 rw [h.hr] at j1;cases j1
 have j2:=(j2 rfl).2.1 rfl rfl
 obtain ⟨xs,hown,hall,hkk,_,hS⟩:=hR.objs r _ h.hr
 obtain ⟨g,cap,cur,u1,u2,u3,u4,u5,u6,u7⟩:∃g cap cur,ι r=.slice (some ⟨g,0,none⟩) es.length cap∧0≤g∧w.heap[g]? = some (.cells cur e (0,0))∧es.length≤cap∧cap≤maxLen∧cur.size=cap*1∧cur.toList.take (es.length*1)=xs:=by
  rcases hown.2 with ⟨_,hz⟩|h
  ·exact absurd hz (by have:=h.h0;omega)
  ·exact h
 have hcs:=hown.cells (g:=g) (by rw [u1];rfl)
 have hvl:vs.length=ds.length:=by have:=k3.length;simpa using this.symm
 have hxl:xs.length=es.length:=by simpa using hown.1
 have holds:∀j u,vs[j]? = some u→w.cell? ((⟨b,0,none⟩:Addr).add j)=some u:=fun j u hj=>by
  rw [Addr.add_lit]
  show w.cell? ⟨b,0+j,none⟩=_
  rw [Nat.zero_add,Lib.cell_of_heap k2]
  simpa using hj
 have hnews:∀j u,xs[j]? = some u→w.cell? ((⟨g,0,none⟩:Addr).add j)=some u:=hcs
 have hone:∀u∈xs,u.oneCell'=true:=JDG hall
 have hr:=run_append_grow (P:=P) w t ty e i z h.ht h.hi h.hz.1 ⟨b,0,none⟩ ds.length ds.length vs (by rw [h.hz.2.1,hvl,Nat.mul_one]) holds ⟨g,0,none⟩ es.length cap xs (by rw [h.hz.2.1,hxl,Nat.mul_one]) hnews (by have:=h.h0;omega) (by have:=h.hlen;omega) (growslice_fits (by have:=h.h0;omega) h.hlen.2)
 have hge:=grownCap_ge w (ds.length+es.length) ds.length e
 have hcm:=grownCap_le_maxLen w (ds.length+es.length) ds.length e (by have:=h.hlen;simp only [maxLen];omega)
 have hll:(vs++xs).length=(ds.length+es.length)*1:=by rw [List.length_append,hvl,hxl,Nat.mul_one]
 have hflat:((ds.map fun y=>[y])++es).flatten=ds++es.flatten:=by
  rw [List.flatten_append]
  congr 1
  clear h hR h1 h2 k3 hall g3 holds hr hge hcm hll hvl
  induction ds with
  |nil=>rfl
  |cons y l ih=>simp [ih]
 have hlen2:((ds.map fun y=>[y])++es).length=ds.length+es.length:=by simp
 have hds:JS (RepD S w) ds vs:=by
  clear h hR h1 h2 hall g3 holds hr hge hcm hll hvl hflat hlen2 k2
  induction ds generalizing vs with
  |nil=>cases vs with
   |nil=>trivial
   |cons _ _=>exact k3.elim
  |cons y l ih=>cases vs with
   |nil=>exact k3.elim
   |cons v vs=>exact ⟨k3.1,ih _ k3.2⟩
 have hex:(execOp a.eval ⟨some d,.call { callee:=.builtin .append,args:=#[s,x],argTypes:=#[t,t] },ty,pos,af,none⟩).run P w=.ok (.value _) _:=JDO rfl (by rw [g3,j2,u1];exact hr)
 refine JC6 (JEh hR rfl hd h.hd (k:=1) (es:=(ds.map fun y=>[y])++es) (xs:=vs++xs) hex ⟨rfl,rfl,rfl,by simp,fun k hk _=>Below.heap_alloc w.drew _ k hk⟩ ?_ (fun k hk=>by simp [blk] at hk;omega) ?_ ?_ (by omega)) Q
 ·rw [hlen2]
  refine ⟨hll,.inr ⟨w.heap.size,_,_,rfl,Nat.zero_le _,heap_alloc_new w.drew _,hge,hcm,?_,?_⟩⟩
  ·simp only [Array.size_append,List.size_toArray,size_zeroCells,h.hz.2.2,hvl,hxl]
   omega
  ·simp only [Array.toList_append,List.append_assoc]
   rw [←List.append_assoc,←hll]
   exact List.take_left
 ·rw [hflat];exact hds.append hall
 ·intro y hy
  rcases List.mem_append.1 hy with hy|hy
  ·obtain ⟨_,_,rfl⟩:=List.mem_map.1 hy;rfl
  ·exact hkk y hy
theorem JC8.agr {s x:Operand}{t e:TypeId}{q r:Nat}{ds:List D}{es:List (List D)}{i:TypeInfo}{z:Value}(h:JC8 P A s x t e q r ds es d i z){B:JE}(ha:∀l∈Q1 [s,x]++[.obj q,.obj r,.obj d],Mw.agree A B l):JC8 P B s x t e q r ds es d i z:=by
 have hs:B.ev s=A.ev s:=JA1 fun l hl=>ha l JAT
 have hx:B.ev x=A.ev x:=JA1 fun l hl=>ha l (by rw [JEX,JEX];simp [hl])
 have hq:Mw.agree A B (.obj q):=ha (.obj q) (by simp)
 have hr:Mw.agree A B (.obj r):=ha (.obj r) (by simp)
 have hd:Mw.agree A B (.obj d):=ha (.obj d) (by simp)
 exact { h with hs:=hs.trans h.hs,hx:=hx.trans h.hx,hq:=Eq.trans hq h.hq,hr:=Eq.trans hr h.hr,hd:=Eq.trans hd h.hd }
theorem JA.appC {Φ:JE→Prop}{l:List Oper}{s x:Operand}{t e ty:TypeId}{pos:String}{af:Array Edge}{ds:List D}{es:List (List D)}{i:TypeInfo}{z:Value}(q r:Nat)(h:JC8 P A s x t e q r ds es d i z)
  (hp:A.put [.slot d (.leaf (.own d 0 ((ds.map fun y=>[y])++es).length ((ds.map fun y=>[y])++es).length)),.obj d (.arr e 1 ((ds.map fun y=>[y])++es))]=A') (h':JA P ops Φ l A') :
  JA P ops Φ (⟨some d,.call { callee:=.builtin .append,args:=#[s,x],argTypes:=#[t,t] },ty,pos,af,none⟩::l) A:=
 .sem (K:=fun B=>B=A') rfl (fun C a w Q hd hR=>Oper.wpIn_mono (fun a' w' h=>⟨A',rfl,hp▸h⟩) (JKD h (hd d rfl) hR Q)) fun B e=>e▸h'
theorem JF.appC {acc:List Fp}{K:List Fp→JE→Prop}{l:List (Oper × Nat)}{k:Nat}{s x:Operand}{t e ty:TypeId}{pos:String}{af:Array Edge}{ds:List D}{es:List (List D)}{i:TypeInfo}{z:Value}{rs:List Loc}(q r:Nat)(h:JC8 P A s x t e q r ds es d i z)
  (hr:Q1 [s,x]++[.obj q,.obj r,.obj d]=rs)
  (hp:A.put [.slot d (.leaf (.own d 0 ((ds.map fun y=>[y])++es).length ((ds.map fun y=>[y])++es).length)),.obj d (.arr e 1 ((ds.map fun y=>[y])++es))]=A')
  (h':JF P ops l A' (⟨rs,[.slot d,.obj d]⟩::acc) K):JF P ops ((⟨some d,.call { callee:=.builtin .append,args:=#[s,x],argTypes:=#[t,t] },ty,pos,af,none⟩,k)::l) A acc K:=
 .cons (fun ho _ _ hrun=>⟨_,_,ho,by
  have:=YV.sem (P:=P) (ops:=ops) (o:=⟨some d,.call { callee:=.builtin .append,args:=#[s,x],argTypes:=#[t,t] },ty,pos,af,none⟩) (A:=A) (Q1 [s,x]++[.obj q,.obj r,.obj d]) [.slot d (.leaf (.own d 0 ((ds.map fun y=>[y])++es).length ((ds.map fun y=>[y])++es).length)),.obj d (.arr e 1 ((ds.map fun y=>[y])++es))] rfl fun B hB C a w Q hd hR=>JKD (h.agr hB) (hd d rfl) hR Q
  rw [show Qt ops ⟨some d,.call { callee:=.builtin .append,args:=#[s,x],argTypes:=#[t,t] },ty,pos,af,none⟩++(Q1 [s,x]++[.obj q,.obj r,.obj d])=rs from hr] at this
  exact this,rfl,hp▸hrun⟩) h'
theorem JF.appF {acc:List Fp}{K:List Fp→JE→Prop}{l:List (Oper × Nat)}{k:Nat}{s x:Operand}{t e ty:TypeId}{pos:String}{af:Array Edge}{ds:List D}{es:List (List D)}{i:TypeInfo}{z:Value}{rs:List Loc}(q r:Nat)(h:JC8 P A s x t e q r ds es d i z)
  (hr:Q1 [s,x]++[.obj q,.obj r,.obj d]=rs)
  (hp:A.put [.slot d (.leaf (.d (.sl 1 ((ds.map fun y=>[y])++es))))]=A')
  (h':JF P ops l A' (⟨rs,[.slot d]⟩::acc) K):JF P ops ((⟨some d,.call { callee:=.builtin .append,args:=#[s,x],argTypes:=#[t,t] },ty,pos,af,none⟩,k)::l) A acc K:=
 .cons (fun ho _ _ hrun=>⟨_,_,ho,by
  have:=YV.sem (P:=P) (ops:=ops) (o:=⟨some d,.call { callee:=.builtin .append,args:=#[s,x],argTypes:=#[t,t] },ty,pos,af,none⟩) (A:=A) (Q1 [s,x]++[.obj q,.obj r,.obj d]) [.slot d (.leaf (.d (.sl 1 ((ds.map fun y=>[y])++es))))] rfl fun B hB C a w Q hd hR=>
   Oper.wpIn_mono (fun a' w' h2=>JJ8 rfl (h.agr hB).hd hR h2) (JKD (h.agr hB) (hd d rfl) hR Q)
  rw [show Qt ops ⟨some d,.call { callee:=.builtin .append,args:=#[s,x],argTypes:=#[t,t] },ty,pos,af,none⟩++(Q1 [s,x]++[.obj q,.obj r,.obj d])=rs from hr] at this
  exact this,rfl,hp▸hrun⟩) h'
theorem JRG {C:Ctx P}{S:Jc}{M:J7}{ι:Nat→Value}{a:Act}{w:World}(hR:Jg C S M ι A a w){q:Nat}{ds:List D}{v:Value}(hq:A.obj q=some (.cells (ds.map .d)))(h:Jd S ι A.obj w (.csl q 0 ds.length) v):RepD (Zn w) w (.sl 1 (ds.map fun y=>[y])) v:=by
 obtain ⟨ls,b,c,g1,g2,g3,g4⟩:=h
 rw [hq] at g1;cases g1
 subst g4
 obtain ⟨b',vs,el,k1,k2,k3,_⟩:=hR.objs q _ hq
 rw [g2] at k1;cases k1
 have hb:=(Array.getElem?_eq_some_iff.1 k2).1
 have hl:(ds.map fun y=>[y]).length=ds.length:=List.length_map _
 have key:∀(i j:Nat) (e:List D) (d:D),(ds.map fun y=>[y])[i]? = some e→e[j]? = some d→j=0∧ds[i]? = some d:=fun i j e d h1 h2=>by
  rw [List.getElem?_map] at h1
  cases hi:ds[i]? with
  |none=>rw [hi] at h1;cases h1
  |some y=>
   rw [hi] at h1
   simp only [Option.map_some,Option.some.injEq] at h1
   subst h1
   cases j with
   |zero=>simp at h2;exact ⟨rfl,by rw [h2]⟩
   |succ j=>simp at h2
 rw [g3]
 have hg:∀(i:Nat) (d:D),ds[i]? = some d→∃u,vs[i]? = some u∧RepD S w d u:=fun i d hi=>by
  obtain ⟨u,hu,hr⟩:=k3.get' (i:=i) (a:=.d d) (by rw [List.getElem?_map,hi];rfl)
  exact ⟨u,hu,hr⟩
 have:=RepD.sl (S:=Zn w) (w:=w) 1 (ds.map fun y=>[y]) b 0 ds.length (fun i _=>vs.getD i undef) (by rw [hl];exact Nat.le_refl _) (fun i e hi=>by rw [List.getElem?_map] at hi;cases h:ds[i]?<;>rw [h] at hi<;>simp at hi;subst hi;rfl)
  (fun i e j d h1 h2=>hb) (fun i e j d h1 h2=>by
   obtain ⟨rfl,hi⟩:=key i j e d h1 h2
   obtain ⟨u,hu,_⟩:=hg i d hi
   rw [Nat.mul_one,Nat.add_zero,Nat.zero_add,Lib.cell_of_heap k2]
   simp [hu]) (fun i e j d h1 h2=>by
   obtain ⟨rfl,hi⟩:=key i j e d h1 h2
   obtain ⟨u,hu,hr⟩:=hg i d hi
   show RepD _ _ d (vs.getD i undef)
   have:vs.getD i undef=u:=by simp [List.getD,hu]
   rw [this]
   exact hr.mono (fun b o h=>hR.inn b o h) fun _ _ _=>rfl)
 rw [hl] at this
 exact this
theorem JF.calC {acc:List Fp}{K:List Fp→JE→Prop}{l:List (Oper × Nat)}{k:Nat}{g:FuncId}{a0:Operand}{as:List Operand}{tys:Array TypeId}{ty:TypeId}{pos:String}{af:Array Edge}{ds:List D}{args args0:List AV}{u:Value}{rs:List Loc}(q:Nat)
  (hcon:Jb P g (.leaf (.d (.sl 1 (ds.map fun y=>[y])))::args) (.raw u) []) (hcan:JO P g=true) (h0:A.ev a0=.leaf (.csl q 0 ds.length)) (hq:A.obj q=some (.cells (ds.map .d))) (hv:as.map A.ev=args0) (hpure:∀B:JE,args0.map (JCB B)=args.map some) 
  (hr:Q1 (a0::as)++[.obj q]=rs) (hp:A.put [.slot d (.raw u)]=A')
  (h':JF P ops l A' (⟨rs,[.slot d]⟩::acc) K):JF P ops ((⟨some d,.call { callee:=.value (.func g),args:=(a0::as).toArray,argTypes:=tys },ty,pos,af,none⟩,k)::l) A acc K:=
 .cons (fun ho _ _ hrun=>⟨_,_,ho,by
  have:=YV.sem (P:=P) (ops:=ops) (o:=⟨some d,.call { callee:=.value (.func g),args:=(a0::as).toArray,argTypes:=tys },ty,pos,af,none⟩) (A:=A) (Q1 (a0::as)++[.obj q]) [.slot d (.raw u)] rfl fun B hB C a w Q hd hR=>by
   have e0:B.ev a0=A.ev a0:=JA1 fun l hl=>hB l JAT
   have eas:as.map B.ev=as.map A.ev:=JCi fun l hl=>hB l JAT
   have eq:Mw.agree A B (.obj q):=hB (.obj q) (by simp)
   have eq':B.obj q=some (.cells (ds.map .d)):=Eq.trans eq hq
   obtain ⟨S,M,ι,hR⟩:=hR
   have hfv:a.eval (.func g)=.func (.func g) #[] #[]:=rfl
   have h1:=QF hR a0
   rw [e0,h0] at h1
   have hd0:=JRG hR eq' (Jl h1)
   have hres:=JIn hR (by rw [eas,hv];exact hpure B) (JBT hR as)
   refine Oper.wpIn_mono (fun a' w' h=>?_) (JKE (us:=a.eval a0::as.map a.eval) (args:=.leaf (.d (.sl 1 (ds.map fun y=>[y])))::args) (res:=.raw u) (obs:=[]) hR hd rfl ?_ ⟨⟨_,rfl,hd0⟩,hres⟩ hcon rfl rfl (fun q x h=>by cases h) Q)
   ·exact h
   ·simp [execOp,resolve,hfv,Deferred.ofValue,invoke,JCN hcan]
  rw [show Qt ops ⟨some d,.call { callee:=.value (.func g),args:=(a0::as).toArray,argTypes:=tys },ty,pos,af,none⟩++(Q1 (a0::as)++[.obj q])=rs from hr] at this
  exact this,rfl,hp▸hrun⟩) h'
end appC
end Go.Mw
namespace Go.Mw
open Go.RowKit
section
variable {P:Program} {A:JE} {d:Nat} {x:Operand} {ty:TypeId} {pos:String} {af:Array Edge} {g:Option (Nat × Bool)} {t tz e:TypeId}
theorem JUO (ht:P.underlying t=some (.slice e)){q el k n:Nat}{es:List (List D)}(hx:A.ev x=.leaf (.own q 0 n n))(hq:A.obj q=some (.arr el k es))(hl:es.length=n)(hn:0<n) :
  JBc P ⟨some d,.binOp .eql t x (.const (.slice none 0 0)) tz,ty,pos,af,g⟩ A (.bool false):=by
 intro C S M ι a w hR
 have h1:=QF hR x
 rw [hx] at h1
 obtain ⟨_,e',k',es',j1,_,j2⟩:=Jl h1
 rw [hq] at j1
 cases j1
 have hv:=(j2 hl).2.1 rfl rfl
 obtain ⟨xs,hown,_⟩:=hR.objs q _ hq
 rcases hown.2 with ⟨_,hz⟩|⟨b,cap,cur,u1,_⟩
 ·omega
 ·have:=Lib.run_eql_slice_some_nil (P:=P) w ⟨b,0,none⟩ es.length cap ht
  refine ⟨.bool false,?_,⟨_,rfl,RepD.raw _ rfl⟩⟩
  have hc:a.eval (.const (.slice none 0 0))=.slice none 0 0:=rfl
  simp [execOp,hv,u1,hc,eqGuard,this]
end
theorem JSQ (ls:List AL)(i:Nat):JS LLe ls (ls.set i .dead):=by
 induction ls generalizing i with
 |nil=>trivial
 |cons l ls ih=>cases i with
  |zero=>exact ⟨.inr rfl,JGf ls⟩
  |succ i=>exact ⟨.inl rfl,ih i⟩
theorem JN.deadc {A:JE}{q:Nat}{ls:List AL}(i:Nat)(ho:A.obj q=some (.cells ls)):JN A (A.put [.obj q (.cells (ls.set i .dead))]):=
 JN.wkc _ ho fun S ι H w vs h=>JJG (JSQ ls i) h
theorem JA.deadc {P:Program}{ops:Array Oper}{Ψ:JE→Prop}{A A':JE}{l:List Oper}(q i:Nat){ls:List AL}(ho:A.obj q=some (.cells ls))(hp:A.put [.obj q (.cells (ls.set i .dead))]=A')(h':JA P ops Ψ l A'):JA P ops Ψ l A:=
 .ghost (JN.deadc i ho) (hp▸h')
end Go.Mw
namespace Go.Mw
section
variable {P:Program} {ops:Array Oper} {A A':JE} {pv:Value}
def live (ops:Array Oper):List Nat→List (Oper × Nat)
 |[]=>[]
 |i::r=>match ops.toList.drop i with
  |o::_=>(o,i)::live ops r
  |[]=>[]
theorem JMc:∀(l:List Nat) (p:Oper × Nat),p∈live ops l→ops[p.2]? = some p.1
 |[],p,h=>by cases h
 |i::r,p,h=>by
  unfold live at h
  split at h
  ·rename_i o t he
   rcases List.mem_cons.1 h with e|h
   ·subst e
    have:ops.toList[i]? = some o:=by
     rw [show ops.toList[i]? = (ops.toList.drop i)[0]? by rw [List.getElem?_drop,Nat.add_zero],he];rfl
    simpa using this
   ·exact JMc r p h
  ·cases h
theorem JMd:∀(l:List Nat),(l.all fun i=>decide (i<ops.size))=true→(live ops l).map Prod.snd=l
 |[],_=>rfl
 |i::r,h=>by
  simp only [List.all_cons,Bool.and_eq_true,decide_eq_true_eq] at h
  unfold live
  split
  ·rw [List.map_cons,JMd r h.2]
  ·rename_i he
   have:=List.drop_eq_nil_iff.1 he
   simp at this;omega
def JH9 (P:Program)(ops:Array Oper)(pv:Value)(n p:Nat)(l:List Nat)(o:Oper)(Ψ:Prop)(fs:List Fp)(B:JE):Prop:=
 ∃rs,JAk P ops pv o B rs∧(decide (fs.length=l.length)&&down ops&&JEH ops n p)=true∧ZJ ops n (l.zip fs++[(p,⟨rs,[]⟩)])=true∧Ψ
theorem JSg {n p:Nat}{l:List Nat}{o:Oper}{Φ:Value→JE→Prop}(ho:ops.toList[p]? = some o)(hl:(decide (JBs ops n p=l)&&l.all fun i=>decide (i<ops.size))=true)
  (h:JF P ops (live ops l) A [] (JH9 P ops pv n p l o (Φ pv ⟨[],[],A.bh⟩))):JDq P ops Φ A:=by
 simp only [Bool.and_eq_true,decide_eq_true_eq] at hl
 obtain ⟨fs,B,h1,rs,h2,h3,h4,h5⟩:=h fun q hq=>JMc l q hq
 rw [JMd l hl.2] at h1
 simp only [Bool.and_eq_true,decide_eq_true_eq,List.reverse_nil,List.nil_append] at h3 h4
 refine ⟨pv,n,p,o,fs,B,rs,by simpa using ho,?_,h2,?_,h3.1.2,?_,h3.2,h5⟩
 ·rw [hl.1];exact h1
 ·rw [hl.1];exact of_decide_eq_true h3.1.1
 ·rw [hl.1];exact h4
theorem JB.opp {id:Nat}{y:Code}{Φ:Exit→JE→Prop}(n p:Nat)(l:List Nat){o:Oper}(ho:ops.toList[p]? = some o)(hl:(decide (JBs ops n p=l)&&l.all fun i=>decide (i<ops.size))=true)
  (h:JF P ops (live ops l) A [] (JH9 P ops pv n p l o (Φ (.panic (Z3 pv)) ⟨[],[],A.bh⟩))):JB P (.seq (.region id ops true) y) Φ A:=
 .inr ⟨A,JN.refl A,JSg ho hl h⟩
theorem JF.pang {n p:Nat}{l:List Nat}{Ψ:Prop}{acc:List Fp}{d:Option Nat}{f:Operand}{g:FuncId}{ds:List D}{as:List Operand}{tys:Array TypeId}{ty:TypeId}{pos:String}{af:Array Edge}{args vs:List AV}{pre:List (Nat × AO)}(lend:List (Nat × Nat))(B:Nat)
  (hp:Qr P pv g args pre) (hcan:JO P g=true) (hf:A.ev f=.leaf (.d (.fn g ds))) (hv:as.map A.ev=vs) (hwk:JS (Jj (rn lend B) (Ql pre)) (vs++ds.map fun x=>.leaf (.d x)) args)
  (lent:∀q x,look pre q=some x→∃n y,look lend q=some n∧A.obj n=some y∧QI y (x.ren (rn lend B))∧x.inn (Ql pre)=true) (inj:∀q q' n,look lend q=some n→look lend q'=some n→q=q')
  (hk:(decide (acc.reverse.length=l.length)&&down ops&&JEH ops n p)=true)
  (ho:ZJ ops n (l.zip acc.reverse++[(p,⟨Q1 (f::as)++lend.map fun p=>.obj p.2,[]⟩)])=true) (h:Ψ) (htg:(pre.all fun p=>(ZF (p.1%1000)).isNone)=true:=by rfl) :
  JF P ops [] A acc (JH9 P ops pv n p l ⟨d,.call { callee:=.value f,args:=as.toArray,argTypes:=tys },ty,pos,af,none⟩ Ψ):=
 .nil ⟨_,⟨rfl,_,rfl,.inl ⟨f,as,g,ds,B,args,lend,pre,by simp [Yy],hf,hcan,by rw [hv];exact hwk,⟨hp,htg⟩,lent,inj,rfl⟩⟩,hk,ho,h⟩
end
end Go.Mw
namespace Go.Mw
open Go.RowKit
def JEo (P:Program)(f g:FuncId)(T1 T2:TypeId):Prop:=∀(x:Value) (w:World) (G:Value→World→Prop),
  Calls P g #[x] ((w.alloc (.cells #[.slice none 0 0] T1)).alloc (.cells #[.int .i64 0] T2)) (fun e w'=>∃p n c,e=.returned (.slice p n c)∧G (.slice p n c) w' ∧
   w'.heap[w.heap.size]? = some (.cells #[.slice none 0 0] T1 (0,0))∧w'.heap[w.heap.size+1]? = some (.cells #[.int .i64 0] T2 (0,0))) →
  Calls P f #[.func (.func g) #[] #[x]] w fun e w'=>∃r w2,G r w2∧e=.returned (.tuple #[r,.int .i64 0])∧w'=(w2.setCell ⟨w.heap.size,0,none⟩ r).setCell ⟨w.heap.size+1,0,none⟩ (.int .i64 0)
def JIA (P:Program)(f g:FuncId)(pv:Value)(T1 T2 T3:TypeId):Prop:=∀(x:Value) (w:World) (G:World→Prop),
  Calls P g #[x] ((w.alloc (.cells #[.slice none 0 0] T1)).alloc (.cells #[.int .i64 0] T2)) (fun e w'=>e=.panicked (Z3 pv)∧G w' ∧
   w'.heap[w.heap.size]? = some (.cells #[.slice none 0 0] T1 (0,0))∧w'.heap[w.heap.size+1]? = some (.cells #[.int .i64 0] T2 (0,0))) →
  Calls P f #[.func (.func g) #[] #[x]] w fun e w'=>∃w2,G w2∧e=.returned (.tuple #[.slice none 0 0,.int .i64 8])∧w'=(((w2.setCell ⟨w.heap.size,0,none⟩ (.slice none 0 0)).setCell ⟨w.heap.size+1,0,none⟩ (.int .i64 8)).alloc (.cells #[.int .i64 8] T3)).drew
section
variable {P:Program} {f g:FuncId} {T1 T2 T3:TypeId}
theorem JH0 (w:World)(o1 o2:Obj):((w.alloc o1).alloc o2).heap.size=w.heap.size+2∧((w.alloc o1).alloc o2).heap[w.heap.size]? = some o1∧((w.alloc o1).alloc o2).heap[w.heap.size+1]? = some o2 ∧
  ∀k,k<w.heap.size→((w.alloc o1).alloc o2).heap[k]? = w.heap[k]? :=by
 have hs:(w.alloc o1).heap.size=w.heap.size+1:=by rw [World.alloc,Array.size_push]
 refine ⟨by rw [World.alloc,Array.size_push,hs],?_,?_,fun k hk=>?_⟩
 ·exact (Below.heap_alloc (w.alloc o1) o2 _ (by omega)).trans (heap_alloc_new w o1)
 ·have:=heap_alloc_new (w.alloc o1) o2
  rwa [hs] at this
 ·exact (Below.heap_alloc (w.alloc o1) o2 _ (by omega)).trans (Below.heap_alloc w o1 _ hk)
def JIr (E:Env P)(b:Jh)(b1 b2:Nat)(x1 x2:Obj):Env P where
 l:=E.l
 J:=fun c S M w=>(∃r o,c=.ret r o)∧E.J b S (fun k=>M k∨k=b1∨k=b2) w∧w.heap[b1]? = some x1∧w.heap[b2]? = some x2∧¬M b1∧¬M b2
 glob:=fun h=>E.glob h.2.1
 step:=fun {c S M w S' M' w'} ⟨h0,h1,h2,h3,h4,h5⟩ hf hM hM' hS hS'=>by
  have l1:=(Array.getElem?_eq_some_iff.1 h2).1
  have l2:=(Array.getElem?_eq_some_iff.1 h3).1
  refine ⟨h0,E.step h1 ⟨hf.os,hf.tape,hf.output,hf.size,fun k hk hn=>hf.block k hk fun h=>hn (.inl h),hf.cell⟩ (fun k h=>h.imp_left (hM k)) (fun k h=>?_) hS (fun k o h=>(hS' k o h).imp_right .inl),(hf.block b1 l1 h4).trans h2,(hf.block b2 l2 h5).trans h3,?_,?_⟩
  ·rcases h with h|h
   ·exact (hM' k h).imp_left .inl
   ·exact .inl (.inr h)
  ·intro h;rcases hM' b1 h with h|h
   ·exact h4 h
   ·omega
  ·intro h;rcases hM' b2 h with h|h
   ·exact h5 h
   ·omega
 yld:=fun {args k S M w vs} h=>by obtain ⟨⟨r,o,h⟩,_⟩:=h;cases h
theorem JLk (hw:JEo P f g T1 T2){d x:D}(hx:∀S w v,RepD S w x v→∃p n c,v=.slice p n c)(hc:Qq P g [.leaf (.d d)] [] (.ret (.leaf (.d x)) [])) :
  Jb P f [.leaf (.d (.fn g [d]))] (.tup [(false,[.d x]),(false,[.d (.raw (.int .i64 0))])]) []:=by
 intro E S M ι w vs hin hmin hobj hdis hown htok hargs hJ
 match vs,hargs with
 |[v],⟨q0,_⟩=>
 have hv:=Jl q0
 obtain ⟨xv,rfl,hxv⟩:∃xv,v=.func (.func g) #[] #[xv]∧RepD S w d xv:=by
  cases hv with
  |fn _ _ vals hl hr=>
   match vals,hl with
   |[xv],_=>exact ⟨xv,rfl,hr 0 d xv rfl rfl⟩
 obtain ⟨t1,t2,t3,t4⟩:=JH0 w (.cells #[.slice none 0 0] T1) (.cells #[.int .i64 0] T2)
 have hcell:∀b o,S b o→((w.alloc (.cells #[.slice none 0 0] T1)).alloc (.cells #[.int .i64 0] T2)).cell? ⟨b,o,none⟩=w.cell? ⟨b,o,none⟩:=fun b o h=>World.cell?_of_block (t4 b (hin b o h))
 have n1:¬M w.heap.size:=fun h=>by have:=hmin _ h;omega
 have n2:¬M (w.heap.size+1):=fun h=>by have:=hmin _ h;omega
 have hJ1:E.J (.ret (.tup [(false,[.d x]),(false,[.d (.raw (.int .i64 0))])]) []) S (fun k=>M k∨k=w.heap.size∨k=w.heap.size+1) ((w.alloc (.cells #[.slice none 0 0] T1)).alloc (.cells #[.int .i64 0] T2)):=
  E.step hJ ⟨rfl,rfl,rfl,by omega,fun k hk _=>t4 k hk,hcell⟩ (fun _ h=>.inl h) (fun k h=>by rcases h with h|h|h<;>first|exact .inl h|(right;omega)) (fun _ _ h=>h) (fun _ _ h=>.inl h)
 have hcal:=hc (JIr E _ w.heap.size (w.heap.size+1) _ _) S M Yc _ [xv] (fun b o h=>by have:=hin b o h;omega) (fun k h=>by have:=hmin k h;omega) (fun o y h=>by cases h) (fun o o' y y' b h=>by cases h) (fun o y b h=>by cases h) (fun o h=>by cases h)
  ⟨Qk (RepD.mono (fun _ _ h=>h) hcell hxv),trivial⟩ ⟨⟨_,_,rfl⟩,hJ1,t2,t3,n1,n2⟩
 rw [callsIn_wide] at hcal
 have hres:=hw xv w (fun r w2=>∃(S':Jc) (M':J7),E.J (.ret (.tup [(false,[.d x]),(false,[.d (.raw (.int .i64 0))])]) []) S' (fun k=>M' k∨k=w.heap.size∨k=w.heap.size+1) w2∧RepD S' w2 x r∧¬M' w.heap.size∧¬M' (w.heap.size+1) ∧
   (∀b o,S b o→S' b o)∧(∀b o,S' b o→S b o∨M' b)∧(∀b o,S' b o→b<w2.heap.size)∧(∀b,M' b→b<w2.heap.size)∧w.heap.size+2≤w2.heap.size) (hcal.mono fun e w2 ⟨v,res,obs,S',M',ι',he,hl,hJ',hP⟩=>by
  obtain ⟨rfl,rfl⟩:=hl.inv
  obtain ⟨_,j1,j2,j3,j4,j5⟩:=hJ'
  have hr:=Jl hP.res
  obtain ⟨p,n,c,rfl⟩:=hx _ _ _ hr
  have:=(Array.getElem?_eq_some_iff.1 j3).1
  exact ⟨p,n,c,he,⟨S',M',j1,hr,j4,j5,hP.sub,hP.new,hP.inn,hP.minn,by omega⟩,j2,j3⟩)
 rw [←callsIn_wide] at hres
 refine hres.mono fun e w' ⟨r,w2,⟨S',M',j1,hr,j4,j5,k1,k2,k3,k4,k5⟩,he,hw'⟩=>?_
 have hne:∀b o,S' b o→b≠w.heap.size∧b≠w.heap.size+1:=fun b o h=>by
  rcases k2 b o h with h|h
  ·have:=hin b o h;omega
  ·exact ⟨fun e=>j4 (e▸h),fun e=>j5 (e▸h)⟩
 have hot:∀k,k≠w.heap.size→k≠w.heap.size+1→w'.heap[k]? = w2.heap[k]? :=fun k h1 h2=>by
  rw [hw',Below.heap_setCell _ ⟨w.heap.size+1,0,none⟩ _ k h2,Below.heap_setCell _ ⟨w.heap.size,0,none⟩ _ k h1]
 have hsz:w'.heap.size=w2.heap.size:=by rw [hw'];simp [World.setCell]
 have hc2:∀b o,S' b o→w'.cell? ⟨b,o,none⟩=w2.cell? ⟨b,o,none⟩:=fun b o h=>World.cell?_of_block (hot b (hne b o h).1 (hne b o h).2)
 refine ⟨_,_,_,S',fun k=>M' k∨k=w.heap.size∨k=w.heap.size+1,Yc,he,.ret _ _,
  E.step j1 ⟨by rw [hw'];rfl,by rw [hw'];rfl,by rw [hw'];rfl,by omega,fun k _ hn=>hot k (fun e=>hn (.inr (.inl e))) (fun e=>hn (.inr (.inr e))),hc2⟩ (fun _ h=>h) (fun _ h=>.inl h) (fun _ _ h=>h) (fun _ _ h=>.inl h),?_⟩
 exact {
  sub:=k1,new:=fun b o h=>(k2 b o h).imp_right .inl,inn:=fun b o h=>by have:=k3 b o h;omega
  minn:=fun b h=>by
   rcases h with h|h|h
   ·have:=k4 b h;omega
   ·omega
   ·omega
  res:=⟨[r,.int .i64 0],rfl,⟨_,rfl,RepD.mono (fun _ _ h=>h) hc2 hr⟩,⟨_,rfl,.raw _ rfl⟩,trivial⟩
  objs:=fun o y h=>by cases h
  dis:=fun o o' y y' b h=>by cases h
  own:=fun o y b h=>by cases h
  tok:=fun o h=>by cases h
  same:=fun o y y' h=>by cases h }
theorem JGy {pv:Value}(hw:JIA P f g pv T1 T2 T3){d x:D}(hx:∀S w,RepD S w x (.slice none 0 0))(hc:Qr P pv g [.leaf (.d d)] []) :
  Jb P f [.leaf (.d (.fn g [d]))] (.tup [(false,[.d x]),(false,[.d (.raw (.int .i64 8))])]) []:=by
 intro E S M ι w vs hin hmin hobj hdis hown htok hargs hJ
 match vs,hargs with
 |[v],⟨q0,_⟩=>
 have hv:=Jl q0
 obtain ⟨xv,rfl,hxv⟩:∃xv,v=.func (.func g) #[] #[xv]∧RepD S w d xv:=by
  cases hv with
  |fn _ _ vals hl hr=>
   match vals,hl with
   |[xv],_=>exact ⟨xv,rfl,hr 0 d xv rfl rfl⟩
 obtain ⟨t1,t2,t3,t4⟩:=JH0 w (.cells #[.slice none 0 0] T1) (.cells #[.int .i64 0] T2)
 have hcell:∀b o,S b o→((w.alloc (.cells #[.slice none 0 0] T1)).alloc (.cells #[.int .i64 0] T2)).cell? ⟨b,o,none⟩=w.cell? ⟨b,o,none⟩:=fun b o h=>World.cell?_of_block (t4 b (hin b o h))
 have n1:¬M w.heap.size:=fun h=>by have:=hmin _ h;omega
 have n2:¬M (w.heap.size+1):=fun h=>by have:=hmin _ h;omega
 have hcal:=hc E.l S M Yc _ [xv] ((E.glob hJ).step (fun _ _ h=>h) hcell) (fun b o h=>by have:=hin b o h;omega) (fun k h=>by have:=hmin k h;omega) (fun o y h=>by cases h) (fun o o' y y' b h=>by cases h) (fun o y b h=>by cases h) (fun o h=>by cases h)
  ⟨Qk (RepD.mono (fun _ _ h=>h) hcell hxv),trivial⟩
 rw [callsIn_wide] at hcal
 have hres:=hw xv w (fun w2=>Fr S M ((w.alloc (.cells #[.slice none 0 0] T1)).alloc (.cells #[.int .i64 0] T2)) w2) (hcal.mono fun e w2 ⟨he,hf⟩=>⟨he,hf,(hf.block _ (by omega) n1).trans t2,(hf.block _ (by omega) n2).trans t3⟩)
 rw [←callsIn_wide] at hres
 refine hres.mono fun e w' ⟨w2,hf,he,hw'⟩=>?_
 have hs2:w.heap.size+2≤w2.heap.size:=by have:=hf.size;omega
 have hz:((w2.setCell ⟨w.heap.size,0,none⟩ (.slice none 0 0)).setCell ⟨w.heap.size+1,0,none⟩ (.int .i64 8)).heap.size=w2.heap.size:=by simp [World.setCell]
 have hot:∀k,k<w2.heap.size→k≠w.heap.size→k≠w.heap.size+1→w'.heap[k]? = w2.heap[k]? :=fun k hk h1 h2=>by
  rw [hw']
  exact (Below.heap_alloc _ _ k (by omega)).trans (by rw [Below.heap_setCell _ ⟨w.heap.size+1,0,none⟩ _ k h2,Below.heap_setCell _ ⟨w.heap.size,0,none⟩ _ k h1])
 have hsz:w'.heap.size=w2.heap.size+1:=by
  rw [hw']
  show (World.alloc _ _).heap.size=_
  rw [World.alloc,Array.size_push,hz]
 have hold:∀k,k<w.heap.size→¬M k→w'.heap[k]? = w.heap[k]? :=fun k hk hn=>(hot k (by omega) (by omega) (by omega)).trans ((hf.block k (by omega) hn).trans (t4 k hk))
 have hc2:∀b o,S b o→w'.cell? ⟨b,o,none⟩=w.cell? ⟨b,o,none⟩:=fun b o h=>by
  have hb:=hin b o h
  exact (World.cell?_of_block (a:=⟨b,o,none⟩) (hot b (by omega) (by omega) (by omega))).trans ((hf.cell b o h).trans (hcell b o h))
 refine ⟨_,_,_,S,fun k=>M k∨(w.heap.size≤k∧k<w'.heap.size),Yc,he,.ret _ _,
  E.step hJ ⟨by rw [hw'];exact hf.os,by rw [hw'];exact hf.tape,by rw [hw'];exact hf.output,by omega,hold,hc2⟩ (fun _ h=>.inl h) (fun _ h=>h) (fun _ _ h=>h) (fun _ _ h=>.inl h),?_⟩
 exact {
  sub:=fun _ _ h=>h,new:=fun b o h=>.inl h,inn:=fun b o h=>by have:=hin b o h;omega
  minn:=fun b h=>by
   rcases h with h|h
   ·have:=hmin b h;omega
   ·omega
  res:=⟨[.slice none 0 0,.int .i64 8],rfl,⟨_,rfl,hx _ _⟩,⟨_,rfl,.raw _ rfl⟩,trivial⟩
  objs:=fun o y h=>by cases h
  dis:=fun o o' y y' b h=>by cases h
  own:=fun o y b h=>by cases h
  tok:=fun o h=>by cases h
  same:=fun o y y' h=>by cases h }
theorem JOD {S:Jc}{w:World}{v:Value}{k:Nat}{es:List (List D)}(h:RepD S w (.sl k es) v):∃p n c,v=.slice p n c:=by
 cases h<;>exact ⟨_,_,_,rfl⟩
end
end Go.Mw
namespace Go.Mw
section
variable {P:Program} {ops:Array Oper} {A A':JE} {Φ:JE→Prop}
theorem JKv {α β:Type}{R:α→β→Prop}:∀ {l:List α} {m:List β} {j:Nat} {x y:α},JS R l m→l[j]? = some x→(∀v,R x v→R y v)→JS R (l.set j y) m
 |[],_,_,_,_,_,h,_=>by simp at h
 |_::_,[],_,_,_,h,_,_=>h.elim
 |a::l,b::m,0,x,y,h,hj,hr=>by
  have:a=x:=by simpa using hj
  subst this
  exact ⟨hr _ h.1,h.2⟩
 |a::l,b::m,j+1,x,y,h,hj,hr=>⟨h.1,JKv h.2 (by simpa using hj) hr⟩
theorem Wk.nilAt {ls:List AL}{j:Nat}(k:Nat)(hj:ls[j]? = some (.d (.raw (.slice none 0 0)))):Wk (.val true ls) (.val true (ls.set j (.d (.sl k [])))):=by
 intro S ι H w v h
 obtain ⟨vs,hv,ha⟩:=h
 exact ⟨vs,hv,JKv ha hj fun u hu=>by cases hu;exact RepD.nil k none 0⟩
theorem JA.nildA {l:List Oper}(s j k:Nat){ls:List AL}(hs:A.get s=.val true ls)(hj:ls[j]? = some (.d (.raw (.slice none 0 0))))(hp:A.put [.slot s (.val true (ls.set j (.d (.sl k []))))]=A')(h':JA P ops Φ l A'):JA P ops Φ l A:=
 .ghost (JN.wk _ (by rw [hs];exact Wk.nilAt k hj)) (hp▸h')
theorem JA.nilc {l:List Oper}(q j o:Nat)(e:TypeId)(k:Nat){ls:List AL}(hq:A.obj q=some (.cells ls))(hj:ls[j]? = some (.d (.raw (.slice none 0 0))))(ho:A.obj o=none)(hk:0<k)(hN:1000≤o)
  (hp:A.put [.obj o (.arr e k []),.obj q (.cells (ls.set j (.own o 0 0 0)))]=A') (h':JA P ops Φ l A'):JA P ops Φ l A:=.ghost (JN.nilc A q j o e k hq hj ho hk hN) (hp▸h')
end
end Go.Mw
namespace Go
structure Fx (p:Prop):Prop where
 h:p
theorem Fx.a {p q:Prop}(x:Fx p)(h:q):Fx (p∧q):=⟨x.h,h⟩
end Go
namespace Go.Mw
open Go.RowKit
section pins
variable {P:Program} {ops:Array Oper} {A A':JE} {C:Ctx P} {S:Jc} {M:J7} {ι:Nat→Value} {a:Act} {w:World} {Φ:JE→Prop}
theorem JM1 (o:Nat):Qu ι A o w w:=⟨rfl,rfl,rfl,Nat.le_refl _,fun _ _ _=>rfl⟩
theorem Jg.pin (hR:Jg C S M ι A a w){G:Nat}{u:Value}{l:AL}(hG:(A.obj G=none∧1000≤G)∨∃v l',A.obj G=some (.pin v l'))(hl:Jd S ι A.obj w l u) :
  Jg C S (grow M w w) (upd ι G undef) (A.put [.obj G (.pin u l)]) a w:=by
 have hpin:A.obj G=none→C.pin G=none:=fun hn=>by
  rcases hG with ⟨_,hN⟩|⟨v,l',h⟩
  ·cases hp:C.pin G with
   |none=>rfl
   |some q=>have:=hR.pinN G (by rw [hp];simp);omega
  ·rw [h] at hn;cases hn
 have ht:Qx ι A G (.pin u l) undef:=by
  rcases hG with ⟨hn,_⟩|⟨v,l',h⟩
  ·exact JAi hn _ _
  ·unfold Qx
   rw [h]
   exact ⟨rfl,(hR.objs G _ h).1.symm⟩
 have hon:Qu ι A G w w:=JM1 G
 exact hR.chg hon ht ⟨upd_same ..,(hon.mv hR ht).l hl⟩ (fun b hb=>by simp [blk,undef] at hb) (by simp) hpin
theorem JN.unpinS {G d:Nat}{v:Value}{l:AL}(hG:A.obj G=some (.pin v l))(hs:A.get d=.leaf (.d (.raw v))):JN A (A.put [.slot d (.leaf l)]):=by
 intro P C a w ⟨S,M,ι,hR⟩
 obtain ⟨_,hp⟩:=hR.objs G _ hG
 refine ⟨S,M,ι,hR.sub,hR.new,hR.inn,hR.minn,hR.sz,fun s=>?_,hR.objs,hR.dis,hR.own,hR.env,hR.tok,hR.fixed,hR.marks,hR.rdok,hR.pinned,hR.pinN⟩
 by_cases hq:s=d
 ·subst hq
  have h1:(A.put [.slot s (.leaf l)]).get s=.leaf l:=by simp [JE.put,JE.put1,JE.get,look]
  rw [h1]
  have h2:=hR.tms s
  rw [hs] at h2
  have h3:=Qm (Jl h2)
  rw [h3]
  exact ⟨l,rfl,hp⟩
 ·have h1:(A.put [.slot d (.leaf l)]).get s=A.get s:=by simp [JE.put,JE.put1,JE.get,look,hq]
  rw [h1];exact hR.tms s
theorem JN.pinNil (A:JE)(G T:Nat)(e:TypeId)(k:Nat)(hG:A.obj G=none∨∃v l',A.obj G=some (.pin v l'))(hT:A.obj T=none)(hk:0<k)(hNG:1000≤G)(hNT:1000≤T)(hGT:G≠T) :
  JN A (A.put [.obj T (.arr e k []),.obj G (.pin (.slice none 0 0) (.own T 0 0 0))]):=by
 intro P C a w ⟨S,M,ι,hR⟩
 have hon:Qu ι A T w w:=JM1 T
 have hpin:C.pin T=none:=by
  cases hp:C.pin T with
  |none=>rfl
  |some q=>have:=hR.pinN T (by rw [hp];simp);omega
 have h1:=hR.chg hon (JAi hT (.arr e k []) (.slice none 0 0)) ⟨[],by rw [upd_same];exact World.ownsRow_nil w 0 e k,by trivial,by simp,hk,fun b hb=>by rw [upd_same] at hb;simp [blk] at hb⟩ (fun b hb=>by simp [blk] at hb) (by simp) fun _=>hpin
 have hT1:(A.put [.obj T (.arr e k [])]).obj T=some (.arr e k []):=by simp [JE.put,JE.put1,JE.obj,look]
 have hG1:((A.put [.obj T (.arr e k [])]).obj G=none∧1000≤G)∨∃v l',(A.put [.obj T (.arr e k [])]).obj G=some (.pin v l'):=by
  have:(A.put [.obj T (.arr e k [])]).obj G=A.obj G:=Zo _ _ hGT
  rw [this]
  exact hG.imp (fun h=>⟨h,hNG⟩) id
 have h2:=h1.pin (u:=.slice none 0 0) (l:=.own T 0 0 0) hG1 ⟨rfl,e,k,[],hT1,Nat.le_refl _,fun _=>⟨Nat.le_refl _,fun _ _=>(upd_same ..).symm,none,0,rfl,Nat.le_refl _,fun h=>by omega⟩⟩
 exact ⟨_,_,_,h2⟩
theorem JA.pinNil {l:List Oper}(G T:Nat)(e:TypeId)(k:Nat)(hG:A.obj G=none∨∃v l',A.obj G=some (.pin v l'))(hT:A.obj T=none)(hk:0<k)(hNG:1000≤G)(hNT:1000≤T)(hGT:G≠T)
  (hp:A.put [.obj T (.arr e k []),.obj G (.pin (.slice none 0 0) (.own T 0 0 0))]=A') (h':JA P ops Φ l A'):JA P ops Φ l A:=.ghost (JN.pinNil A G T e k hG hT hk hNG hNT hGT) (hp▸h')
theorem YV.pin {o:Oper}{d G:Nat}{v:Value}{l:AL}{rs:List Loc}(hw:J5 ops o.guard A=some true)(h:(Qg P o.op o.dst).run A (Qt ops o)=some (rs,[.slot d (.leaf (.d (.raw v)))]))(hG:A.obj G=some (.pin v l)) :
  YV P ops o A (Qt ops o++(rs++[.obj G])) [.slot d (.leaf l)]:=by
 refine .sem (rs++[.obj G]) _ hw fun B hB C a w Q hd hR=>?_
 have h2:YV P ops o B rs [.slot d (.leaf (.d (.raw v)))]:=(YV.eff rs _ hw h).agree fun l hl=>hB l Zs
 have hG':B.obj G=some (.pin v l):=(hB (.obj G) (by simp)).trans hG
 have hwB:J5 ops o.guard B=some true:=(JBz fun l hl=>hB l (by simp [Ev.run_acc _ _ h l hl])).trans hw
 have h3:=JBx (Q:=Q) (K:=fun a' w'=>J9 C (B.put [.slot d (.leaf l)]) a' w') hR hd h2 fun a' w' h4=>by
  have hg:=JN.unpinS (A:=B.put [.slot d (.leaf (.d (.raw v)))]) (G:=G) (d:=d) (v:=v) (l:=l) hG' (by simp [JE.put,JE.put1,JE.get,look])
  have hsm:Same ((B.put [.slot d (.leaf (.d (.raw v)))]).put [.slot d (.leaf l)]) (B.put [.slot d (.leaf l)]):=⟨fun l'=>?_,rfl⟩
  ·exact JJv hsm (hg P C a' w' h4)
  cases l' with
  |slot s=>
   show (B.put [.slot d (.leaf l)]).get s=((B.put [.slot d (.leaf (.d (.raw v)))]).put [.slot d (.leaf l)]).get s
   by_cases hs:s=d<;>simp [JE.put,JE.put1,JE.get,look,hs]
  |obj q=>rfl
 obtain ⟨S,M,ι,hRL⟩:=hR
 rw [if_pos (Zj hRL hwB)] at h3
 exact h3
theorem JUM {o:Oper}{s G T n:Nat}{K:JE→Prop}(hs:A.get s=.leaf (.own T 0 n n))(hG:(A.obj G=none∧1000≤G)∨∃v l',A.obj G=some (.pin v l'))
  (hw:∀u,J5 ops o.guard (A.put [.slot s (.leaf (.d (.raw u))),.obj G (.pin u (.own T 0 n n))])=some true)
  (h:∀u,∃rs ws,Z7 P ops o (A.put [.slot s (.leaf (.d (.raw u))),.obj G (.pin u (.own T 0 n n))])=some (rs,ws)∧K ((A.put [.slot s (.leaf (.d (.raw u))),.obj G (.pin u (.own T 0 n n))]).put ws)):JEp P o A K:=by
 intro C a w Q hd ⟨S,M,ι,hR⟩
 have h1:=hR.tms s
 rw [hs] at h1
 have h2:Jd S ι A.obj w (.own T 0 n n) (a.tmps.getD s undef):=Jl h1
 generalize hu:a.tmps.getD s undef=u at h1 h2
 have hone:u.oneCell'=true:=h2.1
 have hR1:Jg C S M ι (A.put [.slot s (.leaf (.d (.raw u)))]) a w:=by
  refine ⟨hR.sub,hR.new,hR.inn,hR.minn,hR.sz,fun q=>?_,hR.objs,hR.dis,hR.own,hR.env,hR.tok,hR.fixed,hR.marks,hR.rdok,hR.pinned,hR.pinN⟩
  by_cases hq:q=s
  ·subst hq
   have e:(A.put [.slot q (.leaf (.d (.raw u)))]).get q=.leaf (.d (.raw u)):=by simp [JE.put,JE.put1,JE.get,look]
   rw [e,hu]
   exact ⟨_,rfl,RepD.raw u hone⟩
  ·have e:(A.put [.slot s (.leaf (.d (.raw u)))]).get q=A.get q:=by simp [JE.put,JE.put1,JE.get,look,hq]
   rw [e];exact hR.tms q
 have hR2:=hR1.pin (G:=G) (u:=u) (l:=.own T 0 n n) hG h2
 obtain ⟨rs,ws,h3,h4⟩:=h u
 have h5:=JBx (ops:=ops) (Q:=Q) (K:=fun a' w'=>∃A',K A' ∧ J9 C A' a' w') ⟨_,_,_,hR2⟩ hd (JHv h3) fun a' w' hR'=>⟨_,h4,hR'⟩
 rw [if_pos (Zj hR2 (hw u))] at h5
 exact h5
def JKW (P:Program)(ops:Array Oper)(n p:Nat)(o:Oper)(Ψ:JE→Prop)(fs:List Fp)(B:JE):Prop:=
 (decide (fs.length=p)&&(down ops&&(List.range p).all fun i=>YR ops n p i))=true∧ZJ ops n ((List.range p).zip fs)=true∧J5 ops o.guard B=some true∧∃K,JEp P o B K∧∀B',K B' → Ψ B'
end pins
end Go.Mw
namespace Go.Mw
section
variable {P:Program} {ops:Array Oper} {A A':JE}
theorem JKW.pin {n p s G T m:Nat}{o:Oper}{Ψ:JE→Prop}{fs:List Fp}{B:JE}{rs:Value→List Loc}{ws:Value→List Wr}{F:Value→JE}(hl:(decide (fs.length=p)&&(down ops&&(List.range p).all fun i=>YR ops n p i))=true)(ho:ZJ ops n ((List.range p).zip fs)=true)
  (hw:J5 ops o.guard B=some true) (hs:B.get s=.leaf (.own T 0 m m)) (hG:(B.obj G=none∧1000≤G)∨∃v l',B.obj G=some (.pin v l'))
  (hw2:∀u,J5 ops o.guard (B.put [.slot s (.leaf (.d (.raw u))),.obj G (.pin u (.own T 0 m m))])=some true)
  (h:∀u,Z7 P ops o (B.put [.slot s (.leaf (.d (.raw u))),.obj G (.pin u (.own T 0 m m))])=some (rs u,ws u))
  (hF:∀u,(B.put [.slot s (.leaf (.d (.raw u))),.obj G (.pin u (.own T 0 m m))]).put (ws u)=F u) (h':∀u,Ψ (F u)):JKW P ops n p o Ψ fs B:=
 ⟨hl,ho,hw,fun B'=>∃u,B'=F u,JUM hs hG hw2 fun u=>⟨rs u,ws u,h u,u,hF u⟩,fun B' ⟨u,hu⟩=>hu▸h' u⟩
end
end Go.Mw
namespace Go.Mw
open Go.RowKit
section byt
variable {P:Program} {ops:Array Oper} {A A':JE} {d:Nat}
end byt
end Go.Mw
namespace Go.Mw
open Go.RowKit
section
variable {P:Program} {f g:FuncId} {T1 T2 T3:TypeId}
theorem JRE (hw:JEo P f g T1 T2){d:D}{x:AL}{obs:List (Nat × AO)}(hx:∀S ι w v,Jd S ι (look obs) w x v→∃p n c,v=.slice p n c)(hc:Qq P g [.leaf (.d d)] [] (.ret (.leaf x) obs)) :
  Jb P f [.leaf (.d (.fn g [d]))] (.tup [(false,[x]),(false,[.d (.raw (.int .i64 0))])]) obs:=by
 intro E S M ι w vs hin hmin hobj hdis hown htok hargs hJ
 match vs,hargs with
 |[v],⟨q0,_⟩=>
 have hv:=Jl q0
 obtain ⟨xv,rfl,hxv⟩:∃xv,v=.func (.func g) #[] #[xv]∧RepD S w d xv:=by
  cases hv with
  |fn _ _ vals hl hr=>
   match vals,hl with
   |[xv],_=>exact ⟨xv,rfl,hr 0 d xv rfl rfl⟩
 obtain ⟨t1,t2,t3,t4⟩:=JH0 w (.cells #[.slice none 0 0] T1) (.cells #[.int .i64 0] T2)
 have hcell:∀b o,S b o→((w.alloc (.cells #[.slice none 0 0] T1)).alloc (.cells #[.int .i64 0] T2)).cell? ⟨b,o,none⟩=w.cell? ⟨b,o,none⟩:=fun b o h=>World.cell?_of_block (t4 b (hin b o h))
 have n1:¬M w.heap.size:=fun h=>by have:=hmin _ h;omega
 have n2:¬M (w.heap.size+1):=fun h=>by have:=hmin _ h;omega
 have hJ1:E.J (.ret (.tup [(false,[x]),(false,[.d (.raw (.int .i64 0))])]) obs) S (fun k=>M k∨k=w.heap.size∨k=w.heap.size+1) ((w.alloc (.cells #[.slice none 0 0] T1)).alloc (.cells #[.int .i64 0] T2)):=
  E.step hJ ⟨rfl,rfl,rfl,by omega,fun k hk _=>t4 k hk,hcell⟩ (fun _ h=>.inl h) (fun k h=>by rcases h with h|h|h<;>first|exact .inl h|(right;omega)) (fun _ _ h=>h) (fun _ _ h=>.inl h)
 have hcal:=hc (JIr E _ w.heap.size (w.heap.size+1) _ _) S M Yc _ [xv] (fun b o h=>by have:=hin b o h;omega) (fun k h=>by have:=hmin k h;omega) (fun o y h=>by cases h) (fun o o' y y' b h=>by cases h) (fun o y b h=>by cases h) (fun o h=>by cases h)
  ⟨Qk (RepD.mono (fun _ _ h=>h) hcell hxv),trivial⟩ ⟨⟨_,_,rfl⟩,hJ1,t2,t3,n1,n2⟩
 rw [callsIn_wide] at hcal
 have hres:=hw xv w (fun r w2=>∃(S':Jc) (M':J7) (ι':Nat→Value),E.J (.ret (.tup [(false,[x]),(false,[.d (.raw (.int .i64 0))])]) obs) S' (fun k=>M' k∨k=w.heap.size∨k=w.heap.size+1) w2∧JBb S [] Yc E.l (.leaf x) obs r S' M' ι' w2 ∧
   ¬M' w.heap.size∧¬M' (w.heap.size+1)∧w.heap.size+2≤w2.heap.size) (hcal.mono fun e w2 ⟨v,res,obs',S',M',ι',he,hl,hJ',hP⟩=>by
  obtain ⟨rfl,rfl⟩:=hl.inv
  obtain ⟨_,j1,j2,j3,j4,j5⟩:=hJ'
  obtain ⟨p,n,c,rfl⟩:=hx _ _ _ _ (Jl hP.res)
  have:=(Array.getElem?_eq_some_iff.1 j3).1
  exact ⟨p,n,c,he,⟨S',M',ι',j1,hP,j4,j5,by omega⟩,j2,j3⟩)
 rw [←callsIn_wide] at hres
 refine hres.mono fun e w' ⟨r,w2,⟨S',M',ι',j1,hP,j4,j5,k5⟩,he,hw'⟩=>?_
 have hne:∀b o,S' b o→b≠w.heap.size∧b≠w.heap.size+1:=fun b o h=>by
  rcases hP.new b o h with h|h
  ·have:=hin b o h;omega
  ·exact ⟨fun e=>j4 (e▸h),fun e=>j5 (e▸h)⟩
 have hot:∀k,k≠w.heap.size→k≠w.heap.size+1→w'.heap[k]? = w2.heap[k]? :=fun k h1 h2=>by
  rw [hw',Below.heap_setCell _ ⟨w.heap.size+1,0,none⟩ _ k h2,Below.heap_setCell _ ⟨w.heap.size,0,none⟩ _ k h1]
 have hsz:w'.heap.size=w2.heap.size:=by rw [hw'];simp [World.setCell]
 have hc2:∀b o,S' b o→w'.cell? ⟨b,o,none⟩=w2.cell? ⟨b,o,none⟩:=fun b o h=>World.cell?_of_block (hot b (hne b o h).1 (hne b o h).2)
 have hm:Mv S' ι' (look obs) w2 S' ι' (look obs) w':=⟨fun _ _ h=>RepD.mono (fun _ _ h=>h) hc2 h,fun o ls h=>⟨⟨ls,h⟩,rfl⟩,fun o e k es h=>⟨es,h,Nat.le_refl _,fun _=>rfl⟩,fun b o h=>⟨h,hc2 b o h⟩,fun o y h hy=>⟨⟨y,h,hy⟩,rfl⟩⟩
 refine ⟨_,_,_,S',fun k=>M' k∨k=w.heap.size∨k=w.heap.size+1,ι',he,.ret _ _,
  E.step j1 ⟨by rw [hw'];rfl,by rw [hw'];rfl,by rw [hw'];rfl,by omega,fun k _ hn=>hot k (fun e=>hn (.inr (.inl e))) (fun e=>hn (.inr (.inr e))),hc2⟩ (fun _ h=>h) (fun _ h=>.inl h) (fun _ _ h=>h) (fun _ _ h=>.inl h),?_⟩
 exact {
  sub:=hP.sub,new:=fun b o h=>(hP.new b o h).imp_right .inl,inn:=fun b o h=>by have:=hP.inn b o h;omega
  minn:=fun b h=>by
   rcases h with h|h|h
   ·have:=hP.minn b h;omega
   ·omega
   ·omega
  res:=⟨[r,.int .i64 0],rfl,⟨_,rfl,hm.l (Jl hP.res)⟩,⟨_,rfl,.raw _ rfl⟩,trivial⟩
  objs:=fun o y h=>(hP.objs o y h).other hm rfl (fun b hb=>hot b (fun e=>j4 (e▸hP.own o y b h hb)) (fun e=>j5 (e▸hP.own o y b h hb))) fun _ _ _ h=>h
  dis:=hP.dis
  own:=fun o y b h hb=>.inl (hP.own o y b h hb)
  tok:=hP.tok
  same:=fun o y y' h=>by cases h }
theorem JM4 {S:Jc}{ι:Nat→Value}{H:Nat→Option AO}{w:World}{o n:Nat}{v:Value}(h:Jd S ι H w (.own o 0 n n) v):(∃e k es,H o=some (.arr e k es)∧es.length=n)→∃p n c,v=.slice p n c:=by
 rintro ⟨e,k,es,ho,hl⟩
 obtain ⟨_,e',k',es',h1,_,h3⟩:=h
 rw [ho] at h1;cases h1
 obtain ⟨_,_,p,c,hv,_⟩:=h3 hl
 exact ⟨_,_,_,hv⟩
end
end Go.Mw
namespace Go.Mw
open Go.RowKit
def JB0 (P:Program)(f:FuncId)(args:List AV)(Q:AV→List (Nat × AO)→Prop):Prop:=
 ∀(E:Env P) (b:Jh) (S:Jc) (M:J7) (w:World) (vs:List Value),(∃r o,b=.ret r o)→(∀b o,S b o→b<w.heap.size)→(∀k,M k→k<w.heap.size) →
  JS (Jk S Yc (look []) w) args vs→E.J b S M w →
  CallsIn Fence.wide 0 P f vs.toArray w fun e w'=>∃v res obs S' M' ι',e=.returned v∧Q res obs∧E.J b S' M' w' ∧ JBb S [] Yc E.l res obs v S' M' ι' w'
def JO5 (P:Program)(fn:Func)(Q:AV→List (Nat × AO)→Prop):Exit→JE→Prop:=fun e A=>
 (e=.normal∨e=.ret)∧∃res0:AV,JDe P A fn.results.toList=some res0∧Q res0 A.ob
theorem JLj {P:Program}(hm:P.follows .mixedOrders=true){f:FuncId}{fn:Func}{c:Code}{args:List AV}{Q:AV→List (Nat × AO)→Prop}(hf:P.funcs[f]? = some fn)(hb:fn.body=some c)
  (hn:args.length≤fn.ntmps∧fn.ntmps≤950) (hd:Y6 (fun d=>d<fn.ntmps) c=true) (h:∀r o,JB P c (fun e A=>JO5 P fn Q e A∧A.bh=.ret r o) ⟨JAM 0 args,[],.ret r o⟩):JB0 P f args Q:=by
 intro E b S M w vs ⟨r0,o0,hbr⟩ hin hmin hargs hJ
 subst hbr
 have hl:=hargs.length
 have hnl:=hn.1
 refine callsIn_of_wp_marks hf hb trivial ?_ rfl
 let C:Ctx P:={ E:=E,S0:=S,N:=fn.ntmps,fix:=fun _=>none,rd:=none,lim:=hn.2,pin:=fun _=>none }
 have hR:Jg C S M Yc ⟨JAM 0 args,[],.ret r0 o0⟩ { tmps:=vs.toArray++Array.replicate (fn.ntmps-vs.toArray.size) undef,defers:=[] } w:={
  sub:=fun _ _ h=>h
  new:=fun _ _ h=>.inl h
  inn:=hin
  minn:=hmin
  sz:=by simp [C];omega
  tms:=by
   intro s
   show Jk S Yc (look []) w ((look (JAM 0 args) s).getD .dead) _
   rw [JHY,if_pos (Nat.zero_le _),Nat.sub_zero]
   cases ha:args[s]? with
   |none=>trivial
   |some x=>
    obtain ⟨v,hv,hr⟩:=hargs.get' ha
    have hs:s<vs.length:=(List.getElem?_eq_some_iff.1 hv).1
    have:(vs.toArray++Array.replicate (fn.ntmps-vs.toArray.size) undef).getD s undef=v:=by
     rw [Array.getD_eq_getD_getElem?,Array.getElem?_append_left (by simpa using hs)]
     simp [hv]
    rw [this]
    exact hr
  objs:=by intro o x h;cases h
  dis:=by intro o o' x x' b h;cases h
  own:=by intro o x b h;cases h
  env:=hJ
  tok:=by intro o h;cases h
  fixed:=by intro s v h;cases h
  marks:=⟨[],rfl,List.nodup_nil,by simp⟩
  rdok:=by intro l r h;cases h
  pinned:=by intro q u n x hq;cases hq
  pinN:=fun q hq=>absurd rfl hq }
 have hcan:∀d,decide (d<fn.ntmps)=true→C.can d:=fun d hd=>⟨by simpa using hd,rfl,rfl⟩
 refine JA2 hm c (fun d=>d<fn.ntmps) hd C _ _ _ w hcan (h r0 o0) ⟨S,M,Yc,hR⟩ _ fun e A' a' w' hE hR'=>?_
 obtain ⟨⟨he,res0,hres,hQ⟩,hbh⟩:=hE
 obtain ⟨S',M',ι',hR'⟩:=hR'
 have hend:LeavesInM Fence.wide 0 P fn a'.tmps (fun e w'=>∃v res obs S' M' ι',e=.returned v∧Q res obs∧E.J (.ret r0 o0) S' M' w' ∧ JBb S [] Yc E.l res obs v S' M' ι' w') a'.defers .returning w':=by
  obtain ⟨rs,hrs,_⟩:=hR'.marks
  refine JJD rfl rs a' w' hR' hrs fun a3 w3 hR3 htm=>?_
  obtain ⟨u,hu,hr⟩:=JN0 hR3 hres
  rw [htm] at hu
  refine ⟨u,hu,u,res0,A'.ob,S',M',ι',rfl,hQ,hbh▸hR3.env,?_⟩
  exact {
   sub:=hR3.sub,new:=hR3.new,inn:=hR3.inn,minn:=hR3.minn,res:=hr
   objs:=hR3.objs
   dis:=hR3.dis
   own:=hR3.own
   tok:=hR3.tok
   same:=fun o x x' hx=>by cases hx }
 rcases he with rfl|rfl
 ·exact hend
 ·exact hend
section callE
variable {P:Program} {ops:Array Oper} {Φ:JE→Prop} {r:List Oper} {C:Ctx P} {S:Jc} {M:J7} {ι:Nat→Value} {A:JE} {a:Act} {w:World} {o:Oper} {d:Nat}
theorem JUd (hR:Jg C S M ι A a w)(hd:∀d,o.dst=some d→C.can d){g:FuncId}{x:D}{u:Value}{QQ:AV→List (Nat × AO)→Prop}
  (hdst:o.dst=some d) (hexec:(execOp a.eval o).run P w=.ok (.enter g [u].toArray) w) (h3:RepD S w x u) (hcon:JB0 P g [.leaf (.d x)] QQ) (hbh:∃r o,A.bh=.ret r o)
  (hfr:∀res obs,QQ res obs→∀q y,look obs q=some y→A.obj (1000*(d+1)+q)=none) (Q:Exit→Act→World→Prop) :
  o.wpIn (Qb C) 0 P a w (fun a' w'=>∃res obs,QQ res obs∧J9 C (after A d (rn [] (1000*(d+1))) res obs A.bh) a' w') Q:=by
 refine JBZ hexec JBE ?_
 rw [Oper.uponIn_enter]
 refine ⟨JDP C,JEF C ?_⟩
 have hcall:=hcon (Env.quiet P C.E.l w) A.bh S (fun _=>False) w [u] hbh hR.inn (fun _ h=>h.elim) ⟨Qk h3,trivial⟩ ⟨hbh,Nat.le_refl _,fun _ _=>rfl,fun _ h=>h.elim,rfl,rfl,rfl,C.E.glob hR.env⟩
 refine hcall.mono fun e w' ⟨v,res,obs,S',M',ι',he,hQ,⟨_,hsz,hheap,hMnew,hos,htape,hout,_⟩,hp⟩=>?_
 subst he
 rw [hdst]
 have hcell:∀b o,b<w.heap.size→w'.cell? ⟨b,o,none⟩=w.cell? ⟨b,o,none⟩:=fun b o h=>World.cell?_of_block (hheap b h)
 have hp2:JBb S [] (fun q=>ι (rn [] (1000*(d+1)) q)) C.E.l res obs v S' M' ι' w':={
  sub:=hp.sub,new:=hp.new,inn:=hp.inn,minn:=hp.minn,res:=hp.res,objs:=hp.objs,dis:=hp.dis,own:=hp.own,tok:=hp.tok
  same:=fun o x x' h=>by cases h }
 have hE:C.E.J A.bh S' (fun k=>M k∨M' k) w':=C.E.step hR.env ⟨hos,htape,hout,hsz,fun b hb _=>hheap b hb,fun b o h=>hcell b o (hR.inn b o h)⟩ (fun _ h=>.inl h) (fun k hk=>hk.imp id fun h=>⟨hMnew k h,hp.minn k h⟩) hp.sub fun b o h=>by
  rcases hp.new b o h with h|h
  ·exact .inl h
  ·exact .inr (.inr h)
 have hok:Z0 A (1000*(d+1)) [] [] (.ret res obs):=⟨fun q x h=>(by cases h),fun q n h=>(by cases h),fun q q' n h=>(by cases h),fun q n ls h=>(by cases h),fun res' obs' hl=>by
  obtain ⟨rfl,rfl⟩:=Jh.Leaf.inv hl
  exact ⟨fun q x h=>(by cases h),fun q x h _=>hfr res' obs' hQ q x h⟩⟩
 exact ⟨res,obs,hQ,hR.called hok (.ret _ _) (hd d hdst) hp2 hE (fun k hk _=>hheap k (hR.minn k hk)) (fun k hk=>.inr (hMnew k hk)) hsz fun b o h=>⟨hp.sub b o h,hcell b o (hR.inn b o h)⟩⟩
theorem JA.calE {g:FuncId}{t:Operand}{ty0 ty:TypeId}{pos:String}{af:Array Edge}{x:D}{QQ:AV→List (Nat × AO)→Prop}(hcon:JB0 P g [.leaf (.d x)] QQ)(hcan:JO P g=true)(hv:A.ev t=.leaf (.d x))(hbh:∃r o,A.bh=.ret r o)
  (hfr:∀res obs,QQ res obs→∀q y,look obs q=some y→A.obj (1000*(d+1)+q)=none) (h':∀res obs,QQ res obs→JA P ops Φ r (after A d (rn [] (1000*(d+1))) res obs A.bh)) :
  JA P ops Φ (⟨some d,.call { callee:=.value (.func g),args:=#[t],argTypes:=#[ty0] },ty,pos,af,none⟩::r) A:=
 .sem (K:=fun B=>∃res obs,QQ res obs∧B=after A d (rn [] (1000*(d+1))) res obs A.bh) rfl (fun C a w Q hd ⟨S,M,ι,hR⟩=>by
  have h1:=QF hR t
  rw [hv] at h1
  have hfv:a.eval (.func g)=.func (.func g) #[] #[]:=rfl
  refine Oper.wpIn_mono (fun a' w' ⟨res,obs,hQ,h⟩=>⟨_,⟨res,obs,hQ,rfl⟩,h⟩) (JUd (u:=a.eval t) (o:=⟨some d,.call { callee:=.value (.func g),args:=#[t],argTypes:=#[ty0] },ty,pos,af,none⟩) hR hd rfl ?_ (Jl h1) hcon hbh hfr Q)
  simp [execOp,resolve,hfv,Deferred.ofValue,invoke,JCN hcan]) fun B ⟨res,obs,hQ,e⟩=>e▸h' res obs hQ
end callE
theorem JRD {P:Program}{f g:FuncId}{T1 T2:TypeId}(hw:JEo P f g T1 T2){d:D}{Q:AV→List (Nat × AO)→Prop}(hx:∀res obs,Q res obs→∃x,res=.leaf x∧∀S ι w v,Jd S ι (look obs) w x v→∃p n c,v=.slice p n c)(hc:JB0 P g [.leaf (.d d)] Q) :
  JB0 P f [.leaf (.d (.fn g [d]))] (fun res obs=>∃x,Q (.leaf x) obs∧res=.tup [(false,[x]),(false,[.d (.raw (.int .i64 0))])]):=by
 intro E b S M w vs hb hin hmin hargs hJ
 match vs,hargs with
 |[v],⟨q0,_⟩=>
 have hv:=Jl q0
 obtain ⟨xv,rfl,hxv⟩:∃xv,v=.func (.func g) #[] #[xv]∧RepD S w d xv:=by
  cases hv with
  |fn _ _ vals hl hr=>
   match vals,hl with
   |[xv],_=>exact ⟨xv,rfl,hr 0 d xv rfl rfl⟩
 obtain ⟨t1,t2,t3,t4⟩:=JH0 w (.cells #[.slice none 0 0] T1) (.cells #[.int .i64 0] T2)
 have hcell:∀b o,S b o→((w.alloc (.cells #[.slice none 0 0] T1)).alloc (.cells #[.int .i64 0] T2)).cell? ⟨b,o,none⟩=w.cell? ⟨b,o,none⟩:=fun b o h=>World.cell?_of_block (t4 b (hin b o h))
 have n1:¬M w.heap.size:=fun h=>by have:=hmin _ h;omega
 have n2:¬M (w.heap.size+1):=fun h=>by have:=hmin _ h;omega
 have hJ1:E.J b S (fun k=>M k∨k=w.heap.size∨k=w.heap.size+1) ((w.alloc (.cells #[.slice none 0 0] T1)).alloc (.cells #[.int .i64 0] T2)):=
  E.step hJ ⟨rfl,rfl,rfl,by omega,fun k hk _=>t4 k hk,hcell⟩ (fun _ h=>.inl h) (fun k h=>by rcases h with h|h|h<;>first|exact .inl h|(right;omega)) (fun _ _ h=>h) (fun _ _ h=>.inl h)
 have hcal:=hc (JIr E b w.heap.size (w.heap.size+1) _ _) b S M _ [xv] hb (fun b o h=>by have:=hin b o h;omega) (fun k h=>by have:=hmin k h;omega)
  ⟨Qk (RepD.mono (fun _ _ h=>h) hcell hxv),trivial⟩ ⟨hb,hJ1,t2,t3,n1,n2⟩
 rw [callsIn_wide] at hcal
 have hres:=hw xv w (fun r w2=>∃(x:AL) (obs:List (Nat × AO)) (S':Jc) (M':J7) (ι':Nat→Value),Q (.leaf x) obs∧E.J b S' (fun k=>M' k∨k=w.heap.size∨k=w.heap.size+1) w2∧JBb S [] Yc E.l (.leaf x) obs r S' M' ι' w2 ∧
   ¬M' w.heap.size∧¬M' (w.heap.size+1)∧w.heap.size+2≤w2.heap.size) (hcal.mono fun e w2 ⟨v,res,obs,S',M',ι',he,hQ,hJ',hP⟩=>by
  obtain ⟨_,j1,j2,j3,j4,j5⟩:=hJ'
  obtain ⟨x,rfl,hx⟩:=hx _ _ hQ
  obtain ⟨p,n,c,rfl⟩:=hx _ _ _ _ (Jl hP.res)
  have:=(Array.getElem?_eq_some_iff.1 j3).1
  exact ⟨p,n,c,he,⟨x,obs,S',M',ι',hQ,j1,hP,j4,j5,by omega⟩,j2,j3⟩)
 rw [←callsIn_wide] at hres
 refine hres.mono fun e w' ⟨r,w2,⟨x,obs,S',M',ι',hQ,j1,hP,j4,j5,k5⟩,he,hw'⟩=>?_
 have hne:∀b o,S' b o→b≠w.heap.size∧b≠w.heap.size+1:=fun b o h=>by
  rcases hP.new b o h with h|h
  ·have:=hin b o h;omega
  ·exact ⟨fun e=>j4 (e▸h),fun e=>j5 (e▸h)⟩
 have hot:∀k,k≠w.heap.size→k≠w.heap.size+1→w'.heap[k]? = w2.heap[k]? :=fun k h1 h2=>by
  rw [hw',Below.heap_setCell _ ⟨w.heap.size+1,0,none⟩ _ k h2,Below.heap_setCell _ ⟨w.heap.size,0,none⟩ _ k h1]
 have hsz:w'.heap.size=w2.heap.size:=by rw [hw'];simp [World.setCell]
 have hc2:∀b o,S' b o→w'.cell? ⟨b,o,none⟩=w2.cell? ⟨b,o,none⟩:=fun b o h=>World.cell?_of_block (hot b (hne b o h).1 (hne b o h).2)
 have hm:Mv S' ι' (look obs) w2 S' ι' (look obs) w':=⟨fun _ _ h=>RepD.mono (fun _ _ h=>h) hc2 h,fun o ls h=>⟨⟨ls,h⟩,rfl⟩,fun o e k es h=>⟨es,h,Nat.le_refl _,fun _=>rfl⟩,fun b o h=>⟨h,hc2 b o h⟩,fun o y h hy=>⟨⟨y,h,hy⟩,rfl⟩⟩
 refine ⟨_,_,obs,S',fun k=>M' k∨k=w.heap.size∨k=w.heap.size+1,ι',he,⟨x,hQ,rfl⟩,
  E.step j1 ⟨by rw [hw'];rfl,by rw [hw'];rfl,by rw [hw'];rfl,by omega,fun k _ hn=>hot k (fun e=>hn (.inr (.inl e))) (fun e=>hn (.inr (.inr e))),hc2⟩ (fun _ h=>h) (fun _ h=>.inl h) (fun _ _ h=>h) (fun _ _ h=>.inl h),?_⟩
 exact {
  sub:=hP.sub,new:=fun b o h=>(hP.new b o h).imp_right .inl,inn:=fun b o h=>by have:=hP.inn b o h;omega
  minn:=fun b h=>by
   rcases h with h|h|h
   ·have:=hP.minn b h;omega
   ·omega
   ·omega
  res:=⟨[r,.int .i64 0],rfl,⟨_,rfl,hm.l (Jl hP.res)⟩,⟨_,rfl,.raw _ rfl⟩,trivial⟩
  objs:=fun o y h=>(hP.objs o y h).other hm rfl (fun b hb=>hot b (fun e=>j4 (e▸hP.own o y b h hb)) (fun e=>j5 (e▸hP.own o y b h hb))) fun _ _ _ h=>h
  dis:=hP.dis
  own:=fun o y b h hb=>.inl (hP.own o y b h hb)
  tok:=hP.tok
  same:=fun o y y' h=>by cases h }
end Go.Mw
namespace Go.Mw
open Go.RowKit
theorem JB.whlS {P:Program}{Φ:Exit→JE→Prop}{A:JE}{body:Code}{σ:Type}(S:σ→JE)(X:σ→Prop)(μ:σ→Nat)(t0:σ)(hg:JN A (S t0))(h0:X t0)
  (hr:∀t,X t→JB P body (Zm S X μ t Φ) (S t)):JB P (.loop body) Φ A:=by
 refine ⟨fun n A1=>∃t,n=μ t∧A1=S t∧X t,⟨μ t0,S t0,hg,t0,rfl,rfl,h0⟩,fun n A1 ⟨t,hn,hA,hX⟩=>?_⟩
 subst hA
 refine JB.mono body (fun e A2 h=>?_) (hr t hX)
 cases e with
 |normal=>
  obtain ⟨t',hlt,hX',hg'⟩:=h
  exact ⟨μ t',S t',by omega,hg',t',rfl,rfl,hX'⟩
 |_=>exact h
section
variable {P:Program} {ops:Array Oper} {Φ:JE→Prop} {r:List Oper} {A A':JE} {d:Nat}
theorem JUN {o:Oper}{s G T n:Nat}{x:AL}{K:JE→Prop}(hs:A.get s=.val true [x,.own T 0 n n])(hG:A.obj G=none∧1000≤G)
  (hw:∀u,J5 ops o.guard (A.put [.slot s (.val true [x,.d (.raw u)]),.obj G (.pin u (.own T 0 n n))])=some true)
  (h:∀u,∃rs ws,Z7 P ops o (A.put [.slot s (.val true [x,.d (.raw u)]),.obj G (.pin u (.own T 0 n n))])=some (rs,ws)∧K ((A.put [.slot s (.val true [x,.d (.raw u)]),.obj G (.pin u (.own T 0 n n))]).put ws)) :
  ∀(C:Ctx P) (a:Act) (w:World) (Q:Exit→Act→World→Prop),(∀d,o.dst=some d→C.can d)→J9 C A a w→J5 ops o.guard A=some true→o.wpIn (Qb C) 0 P a w (fun a' w'=>∃B,K B∧J9 C B a' w') Q:=by
 intro C a w Q hd ⟨S,M,ι,hR⟩ _
 have h1:=hR.tms s
 rw [hs] at h1
 obtain ⟨vs,hvs,hall⟩:=h1
 match vs,hall with
 |[v1,u],⟨hx,h2,_⟩=>
 have h2:Jd S ι A.obj w (.own T 0 n n) u:=h2
 have hone:u.oneCell'=true:=h2.1
 have hR1:Jg C S M ι (A.put [.slot s (.val true [x,.d (.raw u)])]) a w:=by
  refine ⟨hR.sub,hR.new,hR.inn,hR.minn,hR.sz,fun q=>?_,hR.objs,hR.dis,hR.own,hR.env,hR.tok,hR.fixed,hR.marks,hR.rdok,hR.pinned,hR.pinN⟩
  by_cases hq:q=s
  ·subst hq
   have e:(A.put [.slot q (.val true [x,.d (.raw u)])]).get q=.val true [x,.d (.raw u)]:=by simp [JE.put,JE.put1,JE.get,look]
   rw [e]
   exact ⟨[v1,u],hvs,hx,RepD.raw u hone,trivial⟩
  ·have e:(A.put [.slot s (.val true [x,.d (.raw u)])]).get q=A.get q:=by simp [JE.put,JE.put1,JE.get,look,hq]
   rw [e];exact hR.tms q
 have hR2:=hR1.pin (G:=G) (u:=u) (l:=.own T 0 n n) (.inl hG) h2
 obtain ⟨rs,ws,h3,h4⟩:=h u
 have h5:=JBx (ops:=ops) (Q:=Q) (K:=fun a' w'=>∃A',K A' ∧ J9 C A' a' w') ⟨_,_,_,hR2⟩ hd (JHv h3) fun a' w' hR'=>⟨_,h4,hR'⟩
 rw [if_pos (Zj hR2 (hw u))] at h5
 exact h5
theorem JA.pinS {o:Oper}(s G T n:Nat){x:AL}{rs:Value→List Loc}{ws:Value→List Wr}{F:Value→JE}(hs:A.get s=.val true [x,.own T 0 n n])(hG:A.obj G=none∧1000≤G)(hw0:J5 ops o.guard A=some true)
  (hw:∀u,J5 ops o.guard (A.put [.slot s (.val true [x,.d (.raw u)]),.obj G (.pin u (.own T 0 n n))])=some true)
  (h:∀u,Z7 P ops o (A.put [.slot s (.val true [x,.d (.raw u)]),.obj G (.pin u (.own T 0 n n))])=some (rs u,ws u))
  (hF:∀u,(A.put [.slot s (.val true [x,.d (.raw u)]),.obj G (.pin u (.own T 0 n n))]).put (ws u)=F u) (h':∀u,JA P ops Φ r (F u)):JA P ops Φ (o::r) A:=
 .sem (K:=fun B=>∃u,B=F u) hw0 (fun C a w Q hd hR=>JUN (ops:=ops) hs hG hw (fun u=>⟨_,_,h u,u,hF u⟩) C a w Q hd hR hw0) fun B ⟨u,e⟩=>e▸h' u
theorem JA.calP {g:FuncId}{t:Operand}{ty0 ty:TypeId}{pos:String}{af:Array Edge}{x:D}{res:AV}(hw:∀(C:Ctx P) S M ι a w,Jg C S M ι A a w→RepD (Zn w) w x (a.eval t))(hcon:Jb P g [.leaf (.d x)] res [])(hcan:JO P g=true)(hraw:JEe res=true)
  (hp:after A d (rn [] (1000*(d+1))) res [] A.bh=A') (h':JA P ops Φ r A'):JA P ops Φ (⟨some d,.call { callee:=.value (.func g),args:=#[t],argTypes:=#[ty0] },ty,pos,af,none⟩::r) A:=
 .sem (K:=fun B=>B=A') rfl (fun C a w Q hd ⟨S,M,ι,hR⟩=>by
  have hfv:a.eval (.func g)=.func (.func g) #[] #[]:=rfl
  refine Oper.wpIn_mono (fun a' w' h=>⟨_,hp.symm▸rfl,h⟩) (JKE (us:=[a.eval t]) (o:=⟨some d,.call { callee:=.value (.func g),args:=#[t],argTypes:=#[ty0] },ty,pos,af,none⟩) hR hd rfl ?_ (show JS (Jk (Zn w) Yc (look []) w) [.leaf (.d x)] [a.eval t] from ⟨Qk (hw C S M ι a w hR),trivial⟩) hcon hraw (by rfl) (by intro q x h;cases h) Q)
  simp [execOp,resolve,hfv,Deferred.ofValue,invoke,JCN hcan]) fun B e=>e▸h'
end
end Go.Mw
namespace Go.Mw
open Go.RowKit
section
variable {P:Program} {ops:Array Oper} {A A':JE} {d:Nat} {acc:List Fp} {K:List Fp→JE→Prop} {l:List (Oper × Nat)}
theorem JUY {C:Ctx P}{a:Act}{w:World}{t e ty:TypeId}{k:Nat}{pos:String}{af:Array Edge}(ht:J4 P t=some e)(hk:Jn P e=some k)(hn:A.obj d=none)(hd:C.can d)(hR:J9 C A a w)(Q:Exit→Act→World→Prop) :
  (⟨some d,.buildSlice t 0 #[],ty,pos,af,none⟩:Oper).wpIn (Qb C) 0 P a w (fun a' w'=>J9 C (A.put [.slot d (.leaf (.csl d 0 0)),.obj d (.cells [])]) a' w') Q:=by
 obtain ⟨S,M,ι,hR⟩:=hR
 have hon:Qu ι A d w (w.alloc (.cells ([]:List Value).toArray e)):=JCL A _
 have htn:Qx ι A d (.cells []) (.pointer (some ⟨w.heap.size,0,none⟩)):=JAi hn _ _
 refine JC6 (JBV (o:=⟨some d,.buildSlice t 0 #[],ty,pos,af,none⟩) (v:=.slice (some ⟨w.heap.size,0,none⟩) 0 0) (av:=.leaf (.csl d 0 0)) rfl hd ?_ (hR.chg hon htn (JHa (vs:=[]) (JKK hd _) hR.inn (by trivial)) (fun b hb=>by simp [blk] at hb;omega) (by simp) (fun _=>hd.2.2)) (Qk ⟨[],w.heap.size,0,ZW _ _ _,upd_same _ _ _,rfl,rfl⟩)) Q
 simp [execOp,Instr.buildSlice,run_underlying (JAJ ht),Zi w hk,Instr.fill,newRow,Array.range_zero']
theorem JF.bs0 {i:Nat}{t e ty:TypeId}{k:Nat}{pos:String}{af:Array Edge}{rs:List Loc}(ht:J4 P t=some e)(hk:Jn P e=some k)(hn:A.obj d=none)(hr:Qt ops ⟨some d,.buildSlice t 0 #[],ty,pos,af,none⟩++[.obj d]=rs)
  (hp:A.put [.slot d (.leaf (.csl d 0 0)),.obj d (.cells [])]=A') (h':JF P ops l A' (⟨rs,[.slot d,.obj d]⟩::acc) K):JF P ops ((⟨some d,.buildSlice t 0 #[],ty,pos,af,none⟩,i)::l) A acc K:=
 .cons (fun ho _ _ hrun=>⟨_,_,ho,by
  have:=YV.sem (P:=P) (ops:=ops) (o:=⟨some d,.buildSlice t 0 #[],ty,pos,af,none⟩) (A:=A) [.obj d] [.slot d (.leaf (.csl d 0 0)),.obj d (.cells [])] rfl fun B hB C a w Q hd hR=>JUY ht hk ((hB (.obj d) (by simp)).trans hn) (hd d rfl) hR Q
  rw [hr] at this
  exact this,rfl,hp▸hrun⟩) h'
theorem JUV {C:Ctx P}{a:Act}{w:World}{s x:Operand}{t e ty:TypeId}{pos:String}{af:Array Edge}{q k:Nat}{es:List (List D)}{i:TypeInfo}{z:Value}(hs:A.ev s=.leaf (.csl q 0 0))(hq:A.obj q=some (.cells []))(hx:A.ev x=.leaf (.d (.sl k es)))(hn:A.obj d=none)
  (ht:P.underlying t=some (.slice e)) (hi:P.info? e=some i) (hz:i.zero=some z∧i.size=k∧z.cells.size=k) (hk0:0<k) (hlen:es.length≤1048576∧es.length*i.bytes≤140737488355328) (hd:C.can d) (hR:J9 C A a w) (Q:Exit→Act→World→Prop) :
  (⟨some d,.call { callee:=.builtin .append,args:=#[s,x],argTypes:=#[t,t] },ty,pos,af,none⟩:Oper).wpIn (Qb C) 0 P a w (fun a' w'=>J9 C (A.put [.slot d (.leaf (.d (.sl k es)))]) a' w') Q:=by
 obtain ⟨S,M,ι,hRR⟩:=id hR
 have h1:=QF hRR s
 rw [hs] at h1
 obtain ⟨ls,b,c0,g1,g2,g3,g4⟩:=Jl h1
 subst g4
 have h2:=QF hRR x
 rw [hx] at h2
 have hv:RepD S w (.sl k es) (a.eval x):=Jl h2
 by_cases h0:es=[]
 ·subst h0
  obtain ⟨p,c,hxv⟩:∃p c,a.eval x=.slice p 0 c:=by
   generalize hes:([]:List (List D))=es at hv
   generalize a.eval x=u at hv
   cases hv with
   |nil k p c=>exact ⟨p,c,rfl⟩
   |sl k es b off c vals=>subst hes;exact ⟨_,_,rfl⟩
  have hfc:(Builtin.firstCells k 0 (.slice p 0 c)).run P w=.ok #[] w:=by cases p<;>simp [Builtin.firstCells,loadCells,loadCellsFrom]
  have hrun:(Builtin.append_ #[t,t] ty #[.slice (some ⟨b,0,none⟩) 0 0,.slice p 0 c]).run P w=.ok (.slice (some ⟨b,0,none⟩) 0 0) w:=by
   simp [Builtin.append_,run_underlying ht,Zi w (show Jn P e=some k by simp [Jn,hi,hz.2.1]),Builtin.lenOf,hfc,storeCells]
  exact JC6 (QL hRR rfl hd (JDO rfl (by rw [g3,hxv];exact hrun)) (Qk (show Jd S ι A.obj w (.d (.sl k [])) _ from RepD.nil _ _ _))) Q
 ·have hpos:=List.length_pos_iff.2 h0
  have hkk:∀y∈es,y.length=k:=by
   generalize a.eval x=u at hv
   cases hv with
   |nil k p c=>exact absurd rfl h0
   |sl k es b off c vals hc hk=>exact fun y hy=>by obtain ⟨j,hj⟩:=List.getElem?_of_mem hy;exact hk j y hj
  obtain ⟨es',acc',e1,e2⟩:=JF6 hRR (k:=k) (f:=fun y=>.done [.slot 0 (.leaf (.d (.sl k y)))]) h2 (acc:=[]) (r:=([],[.slot 0 (.leaf (.d (.sl k es)))])) (by simp [JC1,Ev.run])
  have he:es'=es:=by
   simp only [Ev.run,Option.some.injEq,Prod.mk.injEq,List.cons.injEq,Wr.slot.injEq,AV.leaf,AV.val.injEq,AL.d.injEq,D.sl.injEq,true_and,and_true] at e1
   exact e1.2
  subst he
  obtain ⟨p,c,news,hxv,hnl,hall,had⟩:=e2 hkk hk0
  obtain ⟨ad,rfl,hnews⟩:=had hpos
  have hone:∀u∈news,u.oneCell'=true:=JDG hall
  have hr:=run_append_grow (P:=P) w t ty e i z ht hi hz.1 ⟨b,0,none⟩ 0 0 [] (by simp) (fun j u hj=>by simp at hj) ad es'.length c news (by rw [hz.2.1];exact hnl) hnews (by omega) (by omega) (growslice_fits (by omega) (by rw [Nat.zero_add];exact hlen.2))
  have hge:=grownCap_ge w (0+es'.length) 0 e
  have hcm:=grownCap_le_maxLen w (0+es'.length) 0 e (by simp only [maxLen];omega)
  have hex:(execOp a.eval ⟨some d,.call { callee:=.builtin .append,args:=#[s,x],argTypes:=#[t,t] },ty,pos,af,none⟩).run P w=.ok (.value _) _:=JDO rfl (by rw [g3,hxv];exact hr)
  refine Oper.wpIn_mono (fun a' w' h2=>JJ8 rfl hn hR h2) (JC6 (JEh hRR rfl hd hn (e:=e) (k:=k) (es:=es') (xs:=news) hex ⟨rfl,rfl,rfl,by simp,fun j hj _=>Below.heap_alloc w.drew _ j hj⟩ ?_ (fun j hj=>by simp [blk] at hj;omega) hall hkk hk0) Q)
  refine ⟨hnl,.inr ⟨w.heap.size,_,_,by rw [Nat.zero_add],Nat.zero_le _,heap_alloc_new w.drew _,by omega,hcm,?_,?_⟩⟩
  ·have h0:(0:Nat)+es'.length=es'.length:=Nat.zero_add _
   rw [h0] at hge
   simp only [Array.size_append,List.size_toArray,size_zeroCells,hz.2.2,hnl,List.nil_append,Nat.zero_add]
   simp only [List.length_nil,Nat.zero_add]
   rw [←Nat.add_mul]
   congr 1
   omega
  ·simp only [Array.toList_append,List.nil_append]
   rw [←hnl]
   exact List.take_left
theorem JF.apz {j:Nat}{s x:Operand}{t e ty:TypeId}{pos:String}{af:Array Edge}{q k:Nat}{es:List (List D)}{i:TypeInfo}{z:Value}{rs:List Loc}(hs:A.ev s=.leaf (.csl q 0 0))(hq:A.obj q=some (.cells []))(hx:A.ev x=.leaf (.d (.sl k es)))(hn:A.obj d=none)
  (ht:P.underlying t=some (.slice e)) (hi:P.info? e=some i) (hz:i.zero=some z∧i.size=k∧z.cells.size=k) (hk0:0<k) (hlen:es.length≤1048576∧es.length*i.bytes≤140737488355328)
  (hr:Q1 [s,x]++[.obj q,.obj d]=rs) (hp:A.put [.slot d (.leaf (.d (.sl k es)))]=A') (h':JF P ops l A' (⟨rs,[.slot d]⟩::acc) K) :
  JF P ops ((⟨some d,.call { callee:=.builtin .append,args:=#[s,x],argTypes:=#[t,t] },ty,pos,af,none⟩,j)::l) A acc K:=
 .cons (fun ho _ _ hrun=>⟨_,_,ho,by
  have:=YV.sem (P:=P) (ops:=ops) (o:=⟨some d,.call { callee:=.builtin .append,args:=#[s,x],argTypes:=#[t,t] },ty,pos,af,none⟩) (A:=A) (Q1 [s,x]++[.obj q,.obj d]) [.slot d (.leaf (.d (.sl k es)))] rfl fun B hB C a w Q hd hR=>
   JUV ((JA1 fun l hl=>hB l JAT).trans hs) ((hB (.obj q) (by simp)).trans hq) ((JA1 fun l hl=>hB l (by rw [JEX,JEX];simp [hl])).trans hx) ((hB (.obj d) (by simp)).trans hn) ht hi hz hk0 hlen (hd d rfl) hR Q
  rw [show Qt ops ⟨some d,.call { callee:=.builtin .append,args:=#[s,x],argTypes:=#[t,t] },ty,pos,af,none⟩++(Q1 [s,x]++[.obj q,.obj d])=rs from hr] at this
  exact this,rfl,hp▸hrun⟩) h'
def JO3 (P:Program)(e:TypeId)(k n:Nat):Bool:=match P.info? e with
 |some i=>match i.zero with
  |some z=>i.size==k&&(z.cells.size==k&&i.bytes==n)
  |none=>false
 |none=>false
theorem JF.apq {j:Nat}{s x:Operand}{t ty:TypeId}{pos:String}{af:Array Edge}(e:TypeId){q k n:Nat}{es:List (List D)}{rs:List Loc}(hs:A.ev s=.leaf (.csl q 0 0))(hq:A.obj q=some (.cells []))(hx:A.ev x=.leaf (.d (.sl k es)))(hn:A.obj d=none)
  (ht:J4 P t=some e) (hz:JO3 P e k n=true) (hk0:0<k) (hlen:es.length≤1048576∧n≤1000)
  (hr:Q1 [s,x]++[.obj q,.obj d]=rs) (hp:A.put [.slot d (.leaf (.d (.sl k es)))]=A') (h':JF P ops l A' (⟨rs,[.slot d]⟩::acc) K) :
  JF P ops ((⟨some d,.call { callee:=.builtin .append,args:=#[s,x],argTypes:=#[t,t] },ty,pos,af,none⟩,j)::l) A acc K:=by
 unfold JO3 at hz
 split at hz
 ·next i hi=>
  split at hz
  ·next z hz1=>
   simp only [Bool.and_eq_true,beq_iff_eq] at hz
   refine .apz hs hq hx hn (JAJ ht) hi ⟨hz1,hz.1,hz.2.1⟩ hk0 ⟨hlen.1,?_⟩ hr hp h'
   rw [hz.2.2]
   exact Nat.le_trans (Nat.mul_le_mul hlen.1 hlen.2) (by decide)
  ·cases hz
 ·cases hz
end
end Go.Mw

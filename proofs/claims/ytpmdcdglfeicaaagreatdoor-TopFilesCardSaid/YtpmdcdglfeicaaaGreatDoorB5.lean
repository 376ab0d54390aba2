/- Calls that are lent several objects; values of which less is known; no condition but those in each. -/
import Derived.Test.YtpmdcdglfeicaaaGreatDoorD1
import Derived.Test.YtpmdcdglfeicaaaGreatDoorB4
import Derived.Laws.Strings
import Derived.Below
import Derived.Lib.AppendStr
import Derived.Lib.Builder
import Derived.Lib.UnsafeStr
import Derived.Laws.Externs
import Derived.Laws.IdiomStrings
import Derived.Laws.BytesArg
import Derived.Lib.BufferMore
set_option linter.unusedSimpArgs false
set_option linter.unusedVariables false
set_option linter.unusedSectionVars false
set_option linter.deprecated false
namespace Go.Mw
open Go.RowKit
def FLe (l l':FL):Prop:=l'=l∨l'=.dead
theorem JRT {S:JZ}{ι:Nat→Value}{H:Nat→Option AO}{w:World}{fs fs':List FL}{v:Value}(h:JO FLe (fs.take fs'.length) fs')(hr:Ja S ι H w (.fpt fs) v):Ja S ι H w (.fpt fs') v:=by
 obtain ⟨b,off,rfl,hf⟩:=hr
 refine ⟨b,off,rfl,fun j f hj=>?_⟩
 obtain ⟨g,hg,hle⟩:=h.get2 hj
 rw [List.getElem?_take] at hg
 split at hg
 ·obtain ⟨h1,u,h2,h3⟩:=hf j g hg
  refine ⟨h1,u,h2,?_⟩
  rcases hle with rfl|rfl
  ·exact h3
  ·exact Yv.one S ι H w h3
 ·cases hg
theorem JV.fptW {r:Nat→Nat}{ns:List Nat}{fs fs':List FL}(hi:fs'.all (FL.inn ns)=true)(h:JO FLe (fs.take fs'.length) (fs'.map (FL.ren r))):JV r ns (.leaf (.fpt fs)) (.leaf (.fpt fs')):=by
 refine ⟨?_,fun S ι H w v ⟨l,hl,hr⟩=>?_⟩
 ·show [AL.fpt fs'].all (AL.inn ns)=true
  simp only [List.all_cons,List.all_nil,Bool.and_true]
  exact hi
 ·simp at hl;subst hl
  exact ⟨_,rfl,JRT (by simpa using h) hr⟩
def JDN (r:Nat→Nat):List (Nat × AO)→List (Nat × AO)
 |[]=>[]
 |p::l=>(r p.1,p.2.ren r)::JDN r l
theorem JNy (r:Nat→Nat):∀l:List (Nat × AO),JDN r l=l.map fun p=>(r p.1,p.2.ren r)
 |[]=>rfl
 |p::l=>by rw [JDN,JNy r l];rfl
@[go_sem] theorem JXw (r:Nat→Nat):JDN r []=[]:=rfl
@[go_sem] theorem JXv (r:Nat→Nat)(q:Nat)(x:AO)(l:List (Nat × AO)):JDN r ((q,x)::l)=(r q,x.ren r)::JDN r l:=rfl
@[go_sem ↓] theorem JVt (A:JD)(d:Nat)(r:Nat→Nat)(res:AV)(obs:List (Nat × AO))(b:Jc):after A d r res obs b=⟨(d,res.ren r)::A.tm,JDN r obs++A.ob,b⟩:=by
 rw [JNy];rfl
section
variable {P:Program} {ops:Array Oper} {Φ:JD→Prop} {r:List Oper} {A A':JD}
theorem JL4 {B:Nat}{lend:List (Nat × Nat)}{pre obs:List (Nat × AO)}{res:AV}(hdom:lend.map Prod.fst=pre.map Prod.fst)(hinj:(lend.map Prod.snd).Nodup)(hin:pre.all (fun p=>p.2.inn (Qf pre))=true)
  (hob:∀p∈pre,∀n,look lend p.1=some n→A.obj n=some (p.2.ren (rn lend B))) (hback:∀p∈pre,∃x',look obs p.1=some x' ∧ Zy p.2 x') (hnew:∀p∈obs,look lend p.1=none→A.obj (B+p.1)=none) (htg:(lend.all fun p=>Y1 (p.2%1000)==Y1 (p.1%1000))=true:=by rfl):Zp A B lend pre (.ret res obs):=by
 have h0:Zp A B lend pre (yB [] (JKJ pre)):=JQo hdom hinj hin hob htg
 refine ⟨h0.lent,h0.only,h0.inj,h0.tag,fun res' obs' hl=>?_⟩
 obtain ⟨rfl,rfl⟩:=hl.inv
 exact ⟨fun q x hx=>hback _ (JBb hx),fun q x' hx hn=>hnew _ (JBb hx) hn⟩
theorem JA.lendG {d:Nat}{f:Operand}{as:List Operand}{tys:Array TypeId}{ty:TypeId}{pos:String}{af:Array Edge}{gd:Option (Nat × Bool)}{g:FuncId}{caps:List AL}{args:List AV}{pre obs:List (Nat × AO)}{res:AV}{vs:List AV}(lend:List (Nat × Nat))
  (hw:Jv ops gd A=some true) (hcon:Qg P g args pre (.ret res obs)) (hcan:JM P g=true) (hf:JCr A (A.ev f) g caps) (hv:as.map A.ev=vs) (hwk:JO (JV (rn lend (1000*(d+1))) (Qf pre)) (vs++caps.map .leaf) args)
  (hdom:lend.map Prod.fst=pre.map Prod.fst) (hinj:(lend.map Prod.snd).Nodup) (hin:pre.all (fun p=>p.2.inn (Qf pre))=true)
  (hob:∀p∈pre,∀n,look lend p.1=some n→A.obj n=some (p.2.ren (rn lend (1000*(d+1))))) (hback:∀p∈pre,∃x',look obs p.1=some x' ∧ Zy p.2 x') (hnew:∀p∈obs,look lend p.1=none→A.obj (1000*(d+1)+p.1)=none)
  (hp:after A d (rn lend (1000*(d+1))) res obs A.bh=A') (h':JA P ops Φ r A') (htg:(lend.all fun p=>Y1 (p.2%1000)==Y1 (p.1%1000))=true:=by rfl) :
  JA P ops Φ (⟨some d,.call { callee:=.value f,args:=as.toArray,argTypes:=tys },ty,pos,af,gd⟩::r) A:=
 .cally (f:=f) (as:=as) (κ:=fun _ _=>A.bh) rfl hw (by simp [YU]) hf hcan (by rw [hv];exact hwk) hcon (JL4 hdom hinj hin hob hback hnew htg) rfl fun res' obs' hl=>by
  obtain ⟨rfl,rfl⟩:=hl.inv
  exact hp▸h'
end
end Go.Mw
namespace Go.Mw
open Go.RowKit
def AL.frs (o:Nat)(ds:List D):AL→AL
 |.csl q i n=>if q=o then (if i+n≤ds.length then .d (.sl 1 (((ds.drop i).take n).map fun x=>[x])) else .dead) else .csl q i n
 |.ptr q i=>if q=o then .dead else .ptr q i
 |l=>l
def JD.frs (A:JD)(o:Nat):JD:=match A.obj o with
 |some (.cells ls)=>match Jw ls with
  |some ds=>A.settle o (AL.frs o ds)
  |none=>A
 |_=>A
theorem JN.frs (A:JD)(o:Nat):JN A (A.frs o):=by
 unfold JD.frs
 split
 ·rename_i ls ho
  split
  case h_2=>exact JN.refl A
  rename_i ds hp
  refine JN.settle A o _ ho _ ds.length id (fun f=>by cases f<;>rfl) (fun fs=>by simp [AL.frs]) fun S S' ι w H' hok hS hT hH l v hne h=>?_
  obtain ⟨b,vs,el,hι,hheap,hall,_⟩:=hok
  have h1:=Ja.one S ι A.obj w h
  have hd:∀x v,RepD S w x v→RepD S' w x v:=fun x v h=>RepD.mono (S':=S') (w:=w) (w':=w) hS (fun _ _ _=>rfl) h
  have hds:=JDL hp hall
  cases l with
  |d x=>exact hd _ _ h
  |ptr q i=>
   simp only [AL.frs]
   split
   ·exact h1
   ·rename_i hqo
    obtain ⟨ls0,b',hq,hι',hv⟩:=h
    exact ⟨_,b',hH q _ hq hqo,hι',hv⟩
  |eptr q i j t=>
   obtain ⟨_,e',k',es',hq,hv⟩:=h
   have hqo:q≠o:=fun e=>by rw [e,ho] at hq;cases hq
   exact ⟨h1,e',k',es',hH q _ hq hqo,hv⟩
  |own q i n t=>
   obtain ⟨_,e',k',es',hq,hv⟩:=h
   have hqo:q≠o:=fun e=>by rw [e,ho] at hq;cases hq
   exact ⟨h1,e',k',es',hH q _ hq hqo,hv⟩
  |obj q=>
   obtain ⟨_,hv,x,hq,hx⟩:=h
   have hqo:q≠o:=fun e=>by rw [e,ho] at hq;cases hq;cases hx
   exact ⟨h1,hv,_,hH q _ hq hqo,by cases x<;>first|rfl|simp [AO.whole] at hx⟩
  |fpt fs=>exact absurd rfl (hne fs)
  |csl q i n=>
   simp only [AL.frs]
   split
   ·rename_i hqo
    have hqo:=hqo.symm
    subst hqo
    obtain ⟨ls0,b',c',hq,hι',rfl,hnc⟩:=h
    have hnc:=Nat.le_of_eq hnc
    rw [hι] at hι'
    simp only [Value.pointer.injEq,Option.some.injEq,Addr.mk.injEq,and_true] at hι'
    subst hι'
    split
    ·rename_i hin
     have hlen:(((ds.drop i).take n).map fun x=>[x]).length=n:=by simp;omega
     have key:∀(j q:Nat) (y:List D) (d:D),(((ds.drop i).take n).map fun x=>[x])[j]? = some y→y[q]? = some d→q=0∧ds[i+j]? = some d:=by
      intro j q y d hy hq
      rw [List.getElem?_map,List.getElem?_take] at hy
      split at hy
      ·rw [List.getElem?_drop] at hy
       cases hx:ds[i+j]? with
       |none=>simp [hx] at hy
       |some x=>
        simp only [hx,Option.map_some,Option.some.injEq] at hy
        subst hy
        cases q with
        |zero=>simp only [List.getElem?_cons_zero,Option.some.injEq] at hq;subst hq;exact ⟨rfl,rfl⟩
        |succ q=>simp at hq
      ·cases hy
     have:=RepD.sl (S:=S') (w:=w) 1 (((ds.drop i).take n).map fun x=>[x]) b i c' (fun j q=>vs.getD (i+j) undef) (by rw [hlen];exact hnc)
      (fun j y hy=>by
       obtain ⟨x,_,rfl⟩:=List.mem_map.1 (List.mem_of_getElem? hy)
       rfl)
      (fun j y q d hy hq=>by
       obtain ⟨rfl,hx⟩:=key j q y d hy hq
       have:=(List.getElem?_eq_some_iff.1 hx).1
       exact hT b _ (by rw [hι];rfl) (by omega))
      (fun j y q d hy hq=>by
       obtain ⟨rfl,hx⟩:=key j q y d hy hq
       obtain ⟨v,hv,_⟩:=hds.get' hx
       rw [show i+j*1+0=i+j by omega,JEu (H:=A.obj) hheap]
       simp [List.getD,hv])
      (fun j y q d hy hq=>by
       obtain ⟨rfl,hx⟩:=key j q y d hy hq
       obtain ⟨v,hv,hr⟩:=hds.get' hx
       have e:vs.getD (i+j) undef=v:=by simp [List.getD,hv]
       rw [e];exact hd _ _ hr)
     rw [hlen] at this
     exact this
    ·exact h1
   ·rename_i hqo
    obtain ⟨ls0,b',c',hq,hι',hv⟩:=h
    exact ⟨_,b',c',hH q _ hq hqo,hι',hv⟩
  |dead=>exact h
 ·exact JN.refl A
def JI8 (tm:List (Nat × AV))(ob:List (Nat × AO))(bh:Jc)(o:Nat):Option AO→JD
 |some (.cells ls)=>match Jw ls with
  |some ds=>⟨JBc (AL.frs o ds) tm,JA3 o (AL.frs o ds) ob,bh⟩
  |none=>⟨tm,ob,bh⟩
 |_=>⟨tm,ob,bh⟩
attribute [go_sem] JI8 AL.frs
@[go_sem] theorem JXX (tm:List (Nat × AV))(ob:List (Nat × AO))(bh:Jc)(o:Nat):(JD.mk tm ob bh).frs o=JI8 tm ob bh o (look ob o):=by
 unfold JD.frs
 simp only [JD.obj,JD.settle]
 cases h:look ob o with
 |none=>rfl
 |some x=>cases x<;>first|rfl|(rename_i ls;cases hp:Jw ls<;>simp [JI8,hp])
theorem JA.frs {P:Program}{ops:Array Oper}{Φ:JD→Prop}{A A':JD}{l:List Oper}(o:Nat)(hp:A.frs o=A')(h':JA P ops Φ l A'):JA P ops Φ l A:=.ghost (JN.frs A o) (hp▸h')
end Go.Mw
namespace Go.Mw
open Go.RowKit
def Env.oth {P:Program}(E:Env P)(b0:Jc):Env P where
 l:=E.l
 J b S M w:=(∃r o,b=.ret r o)∧E.J b0 S M w
 glob:=fun h=>E.glob h.2
 step:=fun ⟨h1,h2⟩ hf hM hN hS hT=>⟨h1,E.step h2 hf hM hN hS hT⟩
 yld:=fun ⟨⟨_,_,h⟩,_⟩ _=>by cases h
theorem Jf.gho {P:Program}{g:FuncId}{args:List AV}{res res':AV}{obs obs':List (Nat × AO)}(h:Jf P g args res obs)
  (hgo:JN ⟨[(0,res)],obs,.ret res' obs'⟩ ⟨[(0,res')],obs',.ret res' obs'⟩):Jf P g args res' obs':=by
 intro E S M ι w vs hin hmin hobj hdis hown htok hargs hJ
 refine (h (E.oth (.ret res' obs')) S M ι w vs hin hmin hobj hdis hown htok hargs ⟨⟨_,_,rfl⟩,hJ⟩).mono fun e w' ⟨v,res1,obs1,S',M',ι',he,hl,⟨_,hJ'⟩,hp⟩=>?_
 obtain ⟨rfl,rfl⟩:=Jc.Leaf.inv hl
 let C:Ctx P:=⟨E,S,1,fun _=>none,none,fun _=>none,by omega⟩
 have hR:Jb C S' M' ι' ⟨[(0,res1)],obs1,.ret res' obs'⟩ { tmps:=#[v],defers:=[] } w':={
  sub:=hp.sub,new:=hp.new,inn:=hp.inn,minn:=hp.minn
  sz:=rfl
  tms:=fun s=>by
   cases s with
   |zero=>exact hp.res
   |succ s=>trivial
  objs:=hp.objs,dis:=hp.dis,own:=hp.own
  env:=hJ'
  tok:=hp.tok
  fixed:=fun s v h=>by cases h
  marks:=⟨[],rfl,List.nodup_nil,by simp⟩
  rdok:=fun l r h=>by cases h
  pinned:=fun q u n x h=>by cases h
  pinN:=fun q h=>absurd rfl h }
 obtain ⟨S2,M2,ι2,hR2⟩:=hgo P C _ w' ⟨S',M',ι',hR⟩
 exact ⟨v,res',obs',S2,M2,ι2,he,.ret _ _,hR2.env,{
  sub:=hR2.sub,new:=hR2.new,inn:=hR2.inn,minn:=hR2.minn
  res:=hR2.tms 0
  objs:=hR2.objs,dis:=hR2.dis,own:=hR2.own,tok:=hR2.tok
  same:=fun o x x' h=>by cases h }⟩
theorem Jf.weak {P:Program}{g:FuncId}{args:List AV}{res res':AV}{obs:List (Nat × AO)}(h:Jf P g args res obs)(hw:Wk res res'):Jf P g args res' obs:=by
 intro E S M ι w vs hin hmin hobj hdis hown htok hargs hJ
 refine (h (E.oth (.ret res' obs)) S M ι w vs hin hmin hobj hdis hown htok hargs ⟨⟨_,_,rfl⟩,hJ⟩).mono fun e w' ⟨v,res1,obs1,S',M',ι',he,hl,⟨_,hJ'⟩,hp⟩=>?_
 obtain ⟨rfl,rfl⟩:=Jc.Leaf.inv hl
 exact ⟨v,res',obs1,S',M',ι',he,.ret _ _,hJ',{ hp with res:=hw _ _ _ _ _ hp.res }⟩
/-! Steps whose plain parts are found by the step itself. -/
theorem JA.o1 {P:Program}{ops:Array Oper}{Φ:JD→Prop}{A A':JD}{r:List Oper}{o:Oper}{rs:List Loc}{ws:List Wr}(h:JAR P ops o A=some (rs,ws))(h':JA P ops Φ r A')(hp:A.put ws=A':=by simp only [go_sem]<;>rfl):JA P ops Φ (o::r) A:=.op h hp h'
theorem JA.o {P:Program}{ops:Array Oper}{Φ:JD→Prop}{A A':JD}{r:List Oper}{o:Oper}{rs:List Loc}{ws:List Wr}(h':JA P ops Φ r A')(h:JAR P ops o A=some (rs,ws):=by simp only [go_sem]<;>rfl)(hp:A.put ws=A':=by simp only [go_sem]<;>rfl):JA P ops Φ (o::r) A:=.op h hp h'
theorem JG.o1 {P:Program}{ops:Array Oper}{A A':JD}{acc:List Fp}{K:List Fp→JD→Prop}{r:List (Oper × Nat)}{i:Nat}{o:Oper}{rs:List Loc}{ws:List Wr}{wl:List Loc}(h:JAR P ops o A=some (rs,ws))(h':JG P ops r A' (⟨rs,wl⟩::acc) K)
  (hp:A.put ws=A':=by simp only [go_sem]<;>rfl) (hw:Qn ws=wl:=by simp only [go_sem]<;>rfl):JG P ops ((o,i)::r) A acc K:=.op h hp hw h'
theorem JG.o {P:Program}{ops:Array Oper}{A A':JD}{acc:List Fp}{K:List Fp→JD→Prop}{r:List (Oper × Nat)}{i:Nat}{o:Oper}{rs:List Loc}{ws:List Wr}{wl:List Loc}(h':JG P ops r A' (⟨rs,wl⟩::acc) K)
  (h:JAR P ops o A=some (rs,ws):=by simp only [go_sem]<;>rfl) (hp:A.put ws=A':=by simp only [go_sem]<;>rfl) (hw:Qn ws=wl:=by simp only [go_sem]<;>rfl):JG P ops ((o,i)::r) A acc K:=.op h hp hw h'
section
variable {P:Program} {ops:Array Oper} {Φ:JD→Prop} {A A':JD} {r:List Oper}
theorem JA.s {dst:Nat}{op:Op}{ty:TypeId}{pos:String}{af:Array Edge}{g:Nat × Bool}(h':JA P ops Φ r A')(hw:Jv ops (some g) A=some false:=by simp only [go_sem]<;>rfl)(hp:A.put [.slot dst (.tup [])]=A':=by simp only [go_sem]<;>rfl) :
  JA P ops Φ (⟨some dst,op,ty,pos,af,some g⟩::r) A:=.skp hw hp h'
theorem JA.y1 {dst:Option Nat}{op:Op}{ty:TypeId}{pos:String}{af:Array Edge}{g:Nat × Bool}{rs:List Loc}{ws:List Wr}
  (h:(QE P op dst).run A (Qj ops ⟨dst,op,ty,pos,af,some g⟩)=some (rs,ws)) (h':JA P ops Φ r A') (hw:Jv ops (some g) A=some true:=by simp only [go_sem]<;>rfl) (hp:A.put ws=A':=by simp only [go_sem]<;>rfl) :
  JA P ops Φ (⟨dst,op,ty,pos,af,some g⟩::r) A:=.yes hw h hp h'
theorem JA.c1 {d:Nat}{g:FuncId}{as:List Operand}{tys:Array TypeId}{ty:TypeId}{pos:String}{af:Array Edge}{args:List AV}{res:AV}{obs:List (Nat × AO)}{vs:List AV}
  (hc:Jf P g args res obs) (hv:as.map A.ev=vs)
  (hp:A.put (obs.reverse.map (fun p=>.obj (1000*(d+1)+p.1) (p.2.ren (1000*(d+1) + ·)))++[.slot d (res.ren (1000*(d+1) + ·))])=A') (h':JA P ops Φ r A')
  (hcan:JM P g=true:=by simp only [go_sem])
  (hwk:JO (JV (rn [] (1000*(d+1))) []) vs args:=by repeat (first|exact trivial|refine ⟨by first|exact JV.pure rfl|exact JV.nil _|exact JV.int (by first|omega|(simp;done)|(simp;omega)),?_⟩))
  (hfr:∀q x,look obs q=some x→A.obj (1000*(d+1)+q)=none:=by exact Yr) :
  JA P ops Φ (⟨some d,.call { callee:=.value (.func g),args:=as.toArray,argTypes:=tys },ty,pos,af,none⟩::r) A:=.cal hc hcan hv hwk hfr hp h'
end
section
variable {P:Program} {ops:Array Oper} {A A':JD} {acc:List Fp} {K:List Fp→JD→Prop} {r:List (Oper × Nat)}
theorem JG.y1 {i:Nat}{dst:Option Nat}{op:Op}{ty:TypeId}{pos:String}{af:Array Edge}{g:Nat × Bool}{rs:List Loc}{ws:List Wr}{wl:List Loc}
  (h:(QE P op dst).run A (Qj ops ⟨dst,op,ty,pos,af,some g⟩)=some (rs,ws)) (h':JG P ops r A' (⟨rs,wl⟩::acc) K) (hw:Jv ops (some g) A=some true:=by simp only [go_sem]<;>rfl) (hp:A.put ws=A':=by simp only [go_sem]<;>rfl) (hl:Qn ws=wl:=by simp only [go_sem]<;>rfl) :
  JG P ops ((⟨dst,op,ty,pos,af,some g⟩,i)::r) A acc K:=.yes hw h hp hl h'
theorem JG.s {i dst:Nat}{op:Op}{ty:TypeId}{pos:String}{af:Array Edge}{g:Nat × Bool}{rs:List Loc}(h':JG P ops r A' (⟨rs,[.slot dst]⟩::acc) K)(hw:Jv ops (some g) A=some false:=by simp only [go_sem]<;>rfl)
  (hr:Qj ops ⟨some dst,op,ty,pos,af,some g⟩=rs:=by simp only [go_sem]<;>rfl) (hp:A.put [.slot dst (.tup [])]=A':=by simp only [go_sem]<;>rfl):JG P ops ((⟨some dst,op,ty,pos,af,some g⟩,i)::r) A acc K:=.skp hw hr hp h'
end
end Go.Mw
namespace Go.Mw
open Go.RowKit
section
variable {P:Program} {ops:Array Oper} {A A':JD} {acc:List Fp} {K:List Fp→JD→Prop} {r:List (Oper × Nat)} {Φ:JD→Prop}
theorem JQm {A:JD}{B:Nat}{res:AV}:Zp A B [] [] (.ret res []):=
 ⟨fun q x h=>by simp [look] at h,fun q n h=>by simp [look] at h,fun q q' n h=>by simp [look] at h,fun q n ls h=>by simp [look] at h,fun res' obs' hlf=>by
  obtain ⟨rfl,rfl⟩:=hlf.inv
  exact ⟨fun q x h=>by simp [look] at h,fun q x h=>by simp [look] at h⟩⟩
theorem JG.inv {i d:Nat}{recv:Operand}{name:String}{t:TypeId}{ag:Bool}{ds:List D}{g:FuncId}{as:List Operand}{tys:Array TypeId}{ty:TypeId}{pos:String}{af:Array Edge}{gd:Option (Nat × Bool)}{args:List AV}{res:AV}{vs:List AV}{rs wl:List Loc}
  (hwt:Jv ops gd A=some true) (hc:Jf P g args res []) (hf:A.ev recv=.leaf (.d (.ifc t ag ds))) (hmeth:JAl P t name=some g) (hcan:JM P g=true) (hv:as.map A.ev=vs) (hwk:JO (JV (rn [] (1000*(d+1))) []) (.val ag (ds.map .d)::vs) args)
  (hp:A.put [.slot d (res.ren (rn [] (1000*(d+1))))]=A')
  (hr:Qj ops ⟨some d,.call { callee:=.invoke recv name,args:=as.toArray,argTypes:=tys },ty,pos,af,gd⟩++YH (recv::as)=rs)
  (hw:Qn [.slot d (res.ren (rn [] (1000*(d+1))))]=wl)
  (h':JG P ops r A' (⟨rs,wl⟩::acc) K):JG P ops ((⟨some d,.call { callee:=.invoke recv name,args:=as.toArray,argTypes:=tys },ty,pos,af,gd⟩,i)::r) A acc K:=
 .cons (fun ho _ _ hrun=>⟨_,_,ho,by
  have:=YE.sem (P:=P) (ops:=ops) (o:=⟨some d,.call { callee:=.invoke recv name,args:=as.toArray,argTypes:=tys },ty,pos,af,gd⟩) (A:=A) (YH (recv::as)) [.slot d (res.ren (rn [] (1000*(d+1))))] hwt (fun B hB C a w Q hd hR=>by
   have ef:B.ev recv=A.ev recv:=JBs fun l hl=>hB l JBD
   have eas:as.map B.ev=as.map A.ev:=JC9 fun l hl=>hB l JBD
   obtain ⟨S,M,ι,hR⟩:=hR
   refine Oper.wpIn_mono (fun a' w' h=>?_) (JOh (lend:=[]) (pre:=[]) (b:=.ret res []) (κ:=fun _ _=>B.bh) hR hd rfl rfl (ef.trans hf) hmeth hcan (by rw [show as.toArray.toList=as from rfl,eas,hv];exact hwk) hc JQm rfl Q)
   obtain ⟨res',obs',hl,hR'⟩:=h
   obtain ⟨e1,e2⟩:=hl.inv
   subst e1 e2
   exact hR')
  rw [hr] at this
  exact this,hw.symm,hp▸hrun⟩) h'
end
theorem QB {α:Type}{a b:α}(h:a=b:=by repeat' (first|with_reducible_and_instances rfl|refine Q6 ?_ ?_ ?_|refine Q4 ?_|refine Q8 ?_|refine Q7 ?_ ?_|refine Qw ?_|refine Qy ?_|refine Q9 ?_|refine Q1 ?_ ?_|refine Q3 ?_ ?_|refine Q5 ?_|refine Qx ?_|(refine Qz ?_;omega))):a=b:=h
end Go.Mw
namespace Go.Mw
open Go.RowKit
def Env.pan (P:Program)(l:Nat)(S0:JZ)(M0:J3)(w0:World):Env P where
 l:=l
 J b S M w:=(∃res obs,b=.ret res obs)∧Fr S0 M0 w0 w∧(∀k,M k→M0 k∨w0.heap.size≤k)∧(∀b o,S0 b o→S b o)∧ZZ P S w
 glob:=fun h=>h.2.2.2.2
 step:=fun {b S M w S' M' w'} ⟨h1,h2,h3,h4,h5⟩ hf hM hN hS hT=>
  ⟨h1,⟨hf.os.trans h2.os,hf.tape.trans h2.tape,hf.output.trans h2.output,Nat.le_trans h2.size hf.size,fun k hk hn=>(hf.block k (Nat.lt_of_lt_of_le hk h2.size) fun hm=>by
   rcases h3 k hm with h|h
   ·exact hn h
   ·omega).trans (h2.block k hk hn),fun b o h=>(hf.cell b o (h4 b o h)).trans (h2.cell b o h)⟩,fun k hk=>by
   rcases hN k hk with h|⟨h,_⟩
   ·exact h3 k h
   ·exact .inr (Nat.le_trans h2.size h),fun b o h=>hS b o (h4 b o h),h5.step hS hf.cell⟩
 yld:=fun ⟨⟨res,obs,h⟩,_⟩ _=>by cases h
section leave
variable {P:Program} {C:Ctx P} {S:JZ} {M:J3} {ι:Nat→Value} {A:JD} {a:Act} {w:World}
theorem JNC {fn:Func}{R:Ending→World→Prop}{ch:List PanicEntry}(hrd:C.rd=none):∀(rs:List Nat) (a:Act) (w:World),Jb C S M ι A a w→a.defers=rs.map mark →
  (∀a' w',Jb C S M ι A a' w' → R (.panicked ch) w')→LeavesInM Fence.wide 0 P fn a.tmps R a.defers (.panicking ch) w
 |[],a,w,hR,hd,h=>by
  rw [hd]
  exact h a w hR
 |r::rs,a,w,hR,hd,h=>by
  obtain ⟨rs',h1,h2,h3⟩:=hR.marks
  have e:rs'=r::rs:=JJj (h1.symm.trans hd)
  subst e
  obtain ⟨hM,hheap⟩:=h3 r (by simp)
  have hlt:=(Array.getElem?_eq_some_iff.1 hheap).1
  have hcell:∀p:Addr,(w.putObj r (.deferred none)).cell? p=w.cell? p:=fun p=>by
   by_cases e:p.block=r
   ·unfold World.cell?
    rw [e,World.putObj_heap_same hlt,hheap]
   ·exact World.cell?_of_block (World.putObj_heap_other e)
  have hm:Mv S ι A.obj w S ι A.obj (w.putObj r (.deferred none)):=⟨fun _ _ h=>h.mono (fun _ _ h=>h) fun b o _=>hcell _,fun o ls h=>⟨⟨ls,h⟩,rfl⟩,fun o e k es h=>⟨es,h,Nat.le_refl _,fun _=>rfl⟩,fun b o hs=>⟨hs,hcell _⟩,fun o x h hx=>⟨⟨x,h,hx⟩,rfl⟩⟩
  have hnd:=List.nodup_cons.1 h2
  have hR':Jb C S M ι A { a with defers:=rs.map mark } (w.putObj r (.deferred none)):={
   sub:=hR.sub
   new:=hR.new
   inn:=fun b o h=>by simpa using hR.inn b o h
   minn:=fun k h=>by simpa using hR.minn k h
   sz:=hR.sz
   tms:=fun s=>hm.v (hR.tms s)
   objs:=fun o x h=>(hR.objs o x h).other hm rfl (fun k hk=>World.putObj_heap_other fun e=>by
    obtain ⟨_,_,z,hz,hd⟩:=(hR.objs o x h).blk_ge hk
    rw [e,hheap] at hz;cases hz;cases hd) fun _ _ _ h=>h
   dis:=hR.dis
   own:=hR.own
   env:=C.E.step hR.env ⟨rfl,rfl,rfl,by simp,fun b _ hb=>World.putObj_heap_other fun e=>hb (e▸hM),fun b o _=>hcell _⟩ (fun _ h=>h) (fun _ h=>.inl h) (fun _ _ h=>h) fun _ _ h=>.inl h
   tok:=hR.tok
   fixed:=hR.fixed
   marks:=⟨rs,rfl,hnd.2,fun q hq=>⟨(h3 q (by simp [hq])).1,(World.putObj_heap_other fun e=>hnd.1 (by rw [←e];exact hq)).trans (h3 q (by simp [hq])).2⟩⟩
   rdok:=fun l r h=>by rw [hrd] at h;cases h
   pinned:=hR.pinned
   pinN:=hR.pinN }
  have ih:=JNC (R:=R) (fn:=fn) hrd rs _ _ hR' rfl h
  rw [hd]
  exact ⟨by simp,.inl ⟨r,_,rfl,run_takeDeferred hheap,ih⟩⟩
end leave
theorem JAC {P:Program}(hm:P.follows .mixedOrders=true){f:FuncId}{fn:Func}{c:Code}{args:List AV}{pre:List (Nat × AO)}{pv:Value}(hf:P.funcs[f]? = some fn)(hb:fn.body=some c)
  (hn:args.length≤fn.ntmps∧fn.ntmps≤950) (hd:Yf (fun d=>d<fn.ntmps) c=true) (hpre:JJ3 fn.ntmps pre=true) (h:JB P c (fun e _=>e=.panic (JAJ pv)) ⟨JAv 0 args,pre,.ret .dead []⟩):YW P pv f args pre:=by
 intro l S M ι w vs hG hin hmin hobj hdis hown htok hargs
 have hl:=hargs.length
 have hnl:=hn.1
 refine callsIn_of_wp_marks hf hb trivial ?_ rfl
 have hpin:∀q x,look pre q=some x→fn.ntmps≤q∧q<1000:=fun q x hx=>by
  obtain ⟨y,hy⟩:=JED hx
  have:=List.all_eq_true.1 hpre _ hy
  simpa using this
 let C:Ctx P:={ E:=Env.pan P l S M w,S0:=S,N:=fn.ntmps,fix:=fun _=>none,rd:=none,pin:=fun _=>none,lim:=hn.2 }
 have hR:Jb C S M ι ⟨JAv 0 args,pre,.ret .dead []⟩ { tmps:=vs.toArray++Array.replicate (fn.ntmps-vs.toArray.size) undef,defers:=[] } w:={
  sub:=fun _ _ h=>h
  new:=fun _ _ h=>.inl h
  inn:=hin
  minn:=hmin
  sz:=by simp [C];omega
  tms:=by
   intro s
   show Jk S ι (look pre) w ((look (JAv 0 args) s).getD .dead) _
   rw [JJZ,if_pos (Nat.zero_le _),Nat.sub_zero]
   cases ha:args[s]? with
   |none=>trivial
   |some x=>
    obtain ⟨v,hv,hr⟩:=hargs.get' ha
    have hs:s<vs.length:=(List.getElem?_eq_some_iff.1 hv).1
    have:(vs.toArray++Array.replicate (fn.ntmps-vs.toArray.size) undef).getD s undef=v:=by
     rw [Array.getD_eq_getD_getElem?,Array.getElem?_append_left (by simpa using hs)]
     simp [hv]
    rw [this]
    exact hr
  objs:=hobj
  dis:=hdis
  own:=hown
  env:=⟨⟨_,_,rfl⟩,⟨rfl,rfl,rfl,Nat.le_refl _,fun _ _ _=>rfl,fun _ _ _=>rfl⟩,fun _ h=>.inl h,fun _ _ h=>h,hG⟩
  tok:=htok
  fixed:=by intro s v h;cases h
  marks:=⟨[],rfl,List.nodup_nil,by simp⟩
  rdok:=by intro l r h;cases h
  pinned:=by intro q u n x hq;cases hq
  pinN:=fun q hq=>absurd rfl hq }
 have hcan:∀d,decide (d<fn.ntmps)=true→C.can d:=fun d hd=>⟨by simpa using hd,rfl,rfl⟩
 refine JBI hm c (fun d=>d<fn.ntmps) hd C _ _ _ w hcan h ⟨S,M,ι,hR⟩ _ fun e A' a' w' hE hR'=>?_
 subst hE
 obtain ⟨S',M',ι',hR'⟩:=hR'
 obtain ⟨rs,hrs,_⟩:=hR'.marks
 show LeavesInM Fence.wide 0 P fn a'.tmps _ a'.defers (.panicking _) w'
 exact JNC rfl rs a' w' hR' hrs fun a3 w3 hR3=>⟨rfl,hR3.env.2.1⟩
section steps
variable {P:Program} {ops:Array Oper} {A:JD} {pv:Value} {Φ:JD→Prop}
theorem JB.pan1 {id:Nat}{Φ:Exit→JD→Prop}(k:Nat){o:Oper}(ho:ops.toList[k]? = some o)(h:JA P ops (fun B=>(∃rs,JBC P ops pv o B rs)∧Φ (.panic (JAJ pv)) ⟨[],[],B.bh⟩) (ops.toList.take k) A):JB P (.region id ops false) Φ A:=
 .inr ⟨pv,ops.toList.take k,o,ops.toList.drop (k+1),by
  obtain ⟨hk,he⟩:=List.getElem?_eq_some_iff.1 ho
  rw [←he,←List.drop_eq_getElem_cons hk,List.take_append_drop],h⟩
theorem JB.pan {id:Nat}{y:Code}{Φ:Exit→JD→Prop}(k:Nat){o:Oper}(ho:ops.toList[k]? = some o)(h:JA P ops (fun B=>(∃rs,JBC P ops pv o B rs)∧Φ (.panic (JAJ pv)) ⟨[],[],B.bh⟩) (ops.toList.take k) A):JB P (.seq (.region id ops false) y) Φ A:=
 JB.pan1 (id:=id) (Φ:=fun e A'=>match e with |.normal=>∃B,JN A' B∧JB P y Φ B|e=>Φ e A') k ho h
theorem JA.panc {Ψ:Prop}{d:Option Nat}{g:FuncId}{as:List Operand}{tys:Array TypeId}{ty:TypeId}{pos:String}{af:Array Edge}{args vs:List AV}
  (hp:YW P pv g args []) (hcan:JM P g=true) (hv:as.map A.ev=vs) (hwk:JO (JV (rn [] 0) []) vs args) (h:Ψ) :
  JA P ops (fun B=>(∃rs,JBC P ops pv ⟨d,.call { callee:=.value (.func g),args:=as.toArray,argTypes:=tys },ty,pos,af,none⟩ B rs)∧Ψ) [] A:=
 .nil ⟨⟨_,rfl,_,rfl,.inl ⟨.func g,as,g,[],0,args,[],[],by simp [YU],rfl,hcan,by rw [List.map_nil,List.append_nil,hv];exact hwk,⟨hp,rfl⟩,fun q x h=>by simp [look] at h,fun q q' n h=>by simp [look] at h,rfl⟩⟩,h⟩
theorem JA.pani {Ψ:Prop}{d:Option Nat}{x:Operand}{t:TypeId}{us:List Value}{ty:TypeId}{pos:String}{af:Array Edge}
  (hx:A.ev x=.leaf (.d (.ifc t true (us.map .raw)))) (hpv:pv=.iface t (.agg us.toArray)) (h:Ψ) :
  JA P ops (fun B=>(∃rs,JBC P ops pv ⟨d,.panic x,ty,pos,af,none⟩ B rs)∧Ψ) [] A:=
 .nil ⟨⟨_,rfl,_,rfl,.inr ⟨x,_,t,_,rfl,hx,hpv,fun S w u hr=>by
  cases hr with
  |ifa _ _ JY hl hr=>
   rw [hpv]
   have:JY=us:=by
    simp only [List.length_map] at hl
    refine List.ext_getElem? fun i=>?_
    by_cases hi:i<us.length
    ·have h1:=hr i (.raw us[i]) (JY[i]'(by omega)) (by simp [hi]) (by simp [show i<JY.length by omega])
     have h2:JY[i]'(by omega)=us[i]:=by
      generalize JY[i]'(by omega)=y at h1
      generalize us[i]=z at h1
      cases h1;rfl
     rw [List.getElem?_eq_getElem (show i<JY.length by omega),List.getElem?_eq_getElem hi,h2]
    ·simp [hi,show ¬i<JY.length by omega]
   rw [this],rfl⟩⟩,h⟩
end steps
end Go.Mw
namespace Go.Mw
open Go.RowKit
def JK0 (P:Program)(o:Oper)(xs:List Operand)(us:List Value)(r:AV):Prop:=
 ∀ρ:Operand→Value,xs.map ρ=us→∃u,(∀S ι H w,Jk S ι H w r u)∧∀w,(execOp ρ o).run P w=.ok (.value u) w
section pure
variable {P:Program} {ops:Array Oper} {A A':JD} {o:Oper} {C:Ctx P} {a:Act} {w:World}
theorem JMN {S:JZ}{M:J3}{ι:Nat→Value}(hR:Jb C S M ι A a w):∀ {xs:List Operand} {us:List Value},xs.map A.ev=us.map AV.raw→xs.map a.eval=us
 |[],[],_=>rfl
 |[],_::_,h=>by simp at h
 |_::_,[],h=>by simp at h
 |x::xs,u::us,h=>by
  simp only [List.map_cons,List.cons.injEq] at h ⊢
  have:=J4 hR x
  rw [h.1] at this
  exact ⟨Qd (Jm this),JMN hR h.2⟩
theorem JUs {xs:List Operand}{us:List Value}{r:AV}{d:Nat}(hdst:o.dst=some d)(hop:JK0 P o xs us r)(hx:xs.map A.ev=us.map AV.raw)(hd:∀d,o.dst=some d→C.can d)(hR:J7 C A a w)(Q:Exit→Act→World→Prop) :
  o.wpIn (QX C) 0 P a w (fun a' w'=>J7 C (A.put [.slot d r]) a' w') Q:=by
 obtain ⟨S,M,ι,hR⟩:=hR
 obtain ⟨u,h1,h2⟩:=hop a.eval (JMN hR hx)
 refine JB7 (h2 w) JBl ?_
 rw [Oper.uponIn_value,hdst]
 exact ⟨S,M,ι,hR.slot (hd d hdst) (h1 S ι A.obj w)⟩
theorem YE.pure {xs:List Operand}{us:List Value}{r:AV}{d:Nat}(hw:Jv ops o.guard A=some true)(hdst:o.dst=some d)(hop:JK0 P o xs us r)(hx:xs.map A.ev=us.map AV.raw):YE P ops o A (Qj ops o++YH xs) [.slot d r]:=
 .sem (YH xs) [.slot d r] hw fun A' hA C a w Q hd hR=>JUs hdst hop ((JC9 fun l hl=>hA l hl).trans hx) hd hR Q
end pure
def bs (l:List UInt8):ByteArray:=⟨l.toArray⟩
abbrev AV.str (l:List UInt8):AV:=.raw (.string (bs l))
@[simp] theorem Z5 (l:List UInt8):(bs l).size=l.length:=by simp [bs,ByteArray.size]
theorem JPi (s:ByteArray):bs s.data.toList=s:=by simp [bs]
theorem JAI (l:List UInt8):(bs l).data.toList=l:=by simp [bs]
theorem JPk (l:List UInt8):(bs l).toList=l:=by
 rw [ByteArray.toList_eq,JAI]
theorem JPh (x y:List UInt8):bs x++bs y=bs (x++y):=by
 apply ByteArray.ext
 simp [bs]
theorem JLj (l:List UInt8)(i:Nat):(bs l)[i]? = l[i]? :=by
 by_cases h:i<l.length
 ·rw [getElem?_pos (bs l) i (by simpa using h),List.getElem?_eq_getElem h]
  congr 1
 ·rw [getElem?_neg (bs l) i (by simpa using h),List.getElem?_eq_none (by omega)]
theorem JPj (l:List UInt8)(lo hi:Nat):(bs l).extract lo hi=bs ((l.take hi).drop lo):=by
 apply ByteArray.ext
 apply Array.ext'
 rw [ByteArray.data_extract]
 simp only [bs,List.extract_toArray,List.extract_eq_take_drop]
 rw [List.drop_take]
theorem JSf (l:List UInt8):(ByteArray.mk l.toArray)=bs l:=rfl
attribute [go_sem] Z5 JPh JPk JLj JPj JSf
end Go.Mw
namespace Go.Mw
open Go.RowKit
theorem JEv {P:Program}{f:FuncId}{args:List AV}{res:AV}(h:∀(S:JZ) (ι:Nat→Value) (w:World) (vs:List Value),ZZ P S w→(∀b o,S b o→b<w.heap.size)→JO (Jk S ι (look []) w) args vs →
  Calls P f vs.toArray w fun e w'=>∃v,e=.returned v∧(∀S ι H w,Jk S ι H w res v)∧Below w.heap.size w w'):Jf P f args res []:=by
 intro E S M ι w vs hin hmin hobj hdis hown htok hargs hJ
 have hc:=h S ι w vs (E.glob hJ) hin hargs
 rw [←callsIn_wide] at hc
 refine hc.mono fun e w' ⟨v,he,hr,hb⟩=>?_
 have hcell:∀b o,S b o→w'.cell? ⟨b,o,none⟩=w.cell? ⟨b,o,none⟩:=fun b o hs=>World.cell?_of_block (hb.block b (hin b o hs))
 refine ⟨v,res,[],S,M,ι,he,.ret _ _,E.step hJ ⟨hb.os,hb.tape,hb.output,hb.size,fun b hbl _=>hb.block b hbl,hcell⟩ (fun _ h=>h) (fun _ h=>.inl h) (fun _ _ h=>h) (fun _ _ h=>.inl h),?_⟩
 exact {
  sub:=fun _ _ h=>h,new:=fun _ _ h=>.inl h,inn:=fun b o h=>Nat.lt_of_lt_of_le (hin b o h) hb.size,minn:=fun b h=>Nat.lt_of_lt_of_le (hmin b h) hb.size
  res:=hr _ _ _ _
  objs:=fun o x h=>by cases h
  dis:=fun o o' x x' b h=>by cases h
  own:=fun o x b h=>by cases h
  tok:=fun o h=>by cases h
  same:=fun o x x' h=>by cases h }
theorem JQr {P:Program}{f:FuncId}{args:List AV}{q e k n:Nat}{es:List (List D)}(hn:es.length=n)(hk:∀x∈es,x.length=k)(hk0:0<k)(h:∀(S:JZ) (ι:Nat→Value) (w:World) (vs:List Value),ZZ P S w→(∀b o,S b o→b<w.heap.size)→JO (Jk S ι (look []) w) args vs →
  Calls P f vs.toArray w fun e' w'=>∃v xs,e'=.returned v∧w'.ownsRow w.heap.size e k v n xs∧(∀S w,JO (RepD S w) es.flatten xs)∧Below w.heap.size w w'):Jf P f args (.leaf (.own q 0 n n)) [(q,.arr e k es)]:=by
 subst hn
 intro E S M ι w vs hin hmin hobj hdis hown htok hargs hJ
 have hc:=h S ι w vs (E.glob hJ) hin hargs
 rw [←callsIn_wide] at hc
 refine hc.mono fun e' w' ⟨v,xs,he,hrow,hx,hb⟩=>?_
 have hcell:∀b o,S b o→w'.cell? ⟨b,o,none⟩=w.cell? ⟨b,o,none⟩:=fun b o hs=>World.cell?_of_block (hb.block b (hin b o hs))
 have hl:∀ {o:Nat} {x:AO},look [(q,AO.arr e k es)] o=some x→o=q∧x=.arr e k es:=fun {o x} h=>by
  by_cases ho:o=q
  ·subst ho;simp [look] at h;exact ⟨rfl,h.symm⟩
  ·simp [look,ho] at h
 have hblk:∀b,blk v=some b→w.heap.size≤b∧b<w'.heap.size:=fun b hb'=>by
  rcases hrow.2 with ⟨rfl,_⟩|⟨g,cap,cur,rfl,hg,hcur,_⟩
  ·simp [blk] at hb'
  ·simp [blk] at hb';subst hb';exact ⟨hg,(Array.getElem?_eq_some_iff.1 hcur).1⟩
 refine ⟨v,_,_,S,fun b=>M b∨(w.heap.size≤b∧b<w'.heap.size),fun _=>v,he,.ret _ _,E.step hJ ⟨hb.os,hb.tape,hb.output,hb.size,fun b hbl _=>hb.block b hbl,hcell⟩ (fun _ h=>.inl h) (fun _ h=>h) (fun _ _ h=>h) (fun _ _ h=>.inl h),?_⟩
 have hone:v.oneCell'=true:=by
  rcases hrow.2 with ⟨rfl,_⟩|⟨g,cap,cur,rfl,_⟩<;>rfl
 exact {
  sub:=fun _ _ h=>h,new:=fun _ _ h=>.inl h,inn:=fun b o h=>Nat.lt_of_lt_of_le (hin b o h) hb.size
  minn:=fun b h=>h.elim (fun h=>Nat.lt_of_lt_of_le (hmin b h) hb.size) (·.2)
  res:=Qc ⟨hone,e,k,es,by simp [look],Nat.le_refl _,fun _=>⟨by simp,JAq.tip hrow⟩⟩
  objs:=fun o x h=>by
   obtain ⟨rfl,rfl⟩:=hl h
   exact ⟨xs,⟨hrow.1,hrow.2.imp id fun ⟨g,cap,cur,h1,h2,h3⟩=>⟨g,cap,cur,h1,Nat.zero_le _,h3⟩⟩,hx _ _,hk,hk0,fun b hb' off hs=>by
    have:=hin b off hs
    have:=(hblk b hb').1
    omega⟩
  dis:=fun o o' x x' b h h' hne=>absurd ((hl h).1.trans (hl h').1.symm) hne
  own:=fun o x b h hb'=>.inr (hblk b hb')
  tok:=fun o h=>by have:=(hl h).2;cases this
  same:=fun o x x' h=>by cases h }
end Go.Mw
namespace Go.Mw
def _root_.Go.Act.more (a:Act)(ds:List Deferred):Act:={ a with defers:=a.defers++ds }
section defers
variable {F:Fence} {n:Nat} {P:Program} {ops:Array Oper} {ds:List Deferred} {a:Act} {w:World}
end defers
end Go.Mw
namespace Go.Mw
open Go.RowKit
def JCt (P:Program)(o:Oper)(A:JD)(r:AV):Prop:=∀(C:Ctx P) (S:JZ) (M:J3) (ι:Nat→Value) (a:Act) (w:World),Jb C S M ι A a w →
 ∃v,(execOp a.eval o).run P w=.ok (.value v) w∧Jk S ι A.obj w r v
section val
variable {P:Program} {ops:Array Oper} {A A':JD} {o:Oper} {C:Ctx P} {a:Act} {w:World} {d:Nat} {r:AV}
theorem JOm (hdst:o.dst=some d)(h:JCt P o A r)(hd:∀d,o.dst=some d→C.can d)(hR:J7 C A a w)(Q:Exit→Act→World→Prop):o.wpIn (QX C) 0 P a w (fun a' w'=>J7 C (A.put [.slot d r]) a' w') Q:=by
 obtain ⟨S,M,ι,hR⟩:=hR
 obtain ⟨v,h1,h2⟩:=h C S M ι a w hR
 refine JB7 h1 JBl ?_
 rw [Oper.uponIn_value,hdst]
 exact ⟨S,M,ι,hR.slot (hd d hdst) h2⟩
theorem JA.val {Φ:JD→Prop}{l:List Oper}{op:Op}{ty:TypeId}{pos:String}{af:Array Edge}{g:Option (Nat × Bool)}(h:JCt P ⟨some d,op,ty,pos,af,g⟩ A r)(hw:Jv ops g A=some true)
  (hp:A.put [.slot d r]=A') (h':JA P ops Φ l A'):JA P ops Φ (⟨some d,op,ty,pos,af,g⟩::l) A:=
 .sem (K:=fun B=>B=A') hw (fun C a w Q hd hR=>Oper.wpIn_mono (fun a' w' h=>⟨A',rfl,hp▸h⟩) (JOm rfl h hd hR Q)) fun B e=>e▸h'
theorem JG.val {acc:List Fp}{K:List Fp→JD→Prop}{l:List (Oper × Nat)}{i:Nat}(xs:List Loc){op:Op}{ty:TypeId}{pos:String}{af:Array Edge}{g:Option (Nat × Bool)}{rs:List Loc}
  (h:∀A',(∀l∈xs,agree A A' l)→JCt P ⟨some d,op,ty,pos,af,g⟩ A' r) (hw:Jv ops g A=some true) (hr:Qj ops ⟨some d,op,ty,pos,af,g⟩++xs=rs) (hp:A.put [.slot d r]=A')
  (h':JG P ops l A' (⟨rs,[.slot d]⟩::acc) K):JG P ops ((⟨some d,op,ty,pos,af,g⟩,i)::l) A acc K:=
 .cons (fun ho _ _ hrun=>⟨_,_,ho,by
  have:=YE.sem (ops:=ops) (o:=⟨some d,op,ty,pos,af,g⟩) (A:=A) xs [.slot d r] hw fun A' hA C a w Q hd hR=>JOm rfl (h A' hA) hd hR Q
  rw [hr] at this
  exact this,rfl,hp▸hrun⟩) h'
end val
section cells
variable {P:Program} {C:Ctx P} {S:JZ} {M:J3} {ι:Nat→Value} {A:JD} {a:Act} {w:World} {o:Oper} {d n:Nat}
theorem JUU (hR:Jb C S M ι A a w)(ho:o.dst=some d)(hd:C.can d)(hn:A.obj n=none)(hN:1000≤n){t:TypeId}(htag:JFt n t){ls:List AL}{vs:List Value}
  (hr:(execOp a.eval o).run P w=.ok (.value (.pointer (some ⟨w.heap.size,0,none⟩))) (w.alloc (.cells vs.toArray t))) (hall:JO (Ja S ι A.obj w) ls vs) :
  QU P C A [.slot d (.leaf (.ptr n 0)),.obj n (.cells ls)] a w o:=by
 have hon:QY ι A n w (w.alloc (.cells vs.toArray t)):=JBz A _
 have ht:Qa ι A n (.cells ls) (.pointer (some ⟨w.heap.size,0,none⟩)):=JAf hn _ _
 have hm:=hon.mv hR ht
 have hpin:C.pin n=none:=by
  cases hp:C.pin n with
  |none=>rfl
  |some q=>have:=hR.pinN n (by rw [hp];simp);omega
 refine JA9 ho hd hr (hR.chg hon ht (JJs htag hR.inn (hall.mono fun _ _=>hm.l)) (fun b hb=>?_) (by simp) fun _=>hpin) (Qc ⟨ls,w.heap.size,ZI _ _ _,upd_same _ _ _,rfl⟩)
 simp [blk] at hb;omega
end cells
section alloc
variable {P:Program} {ops:Array Oper} {A A':JD} {d:Nat}
theorem JA.alcT {Φ:JD→Prop}{l:List Oper}{t ty:TypeId}{pos:String}{af:Array Edge}(n:Nat){ag:Bool}{ds:List D}(hz:Jz P t=some (ag,ds))(hn:A.obj n=none)(hN:1000≤n)(htag:Y1 (n%1000)=some t)
  (hp:A.put [.slot d (.leaf (.ptr n 0)),.obj n (.cells (ds.map .d))]=A') (h':JA P ops Φ l A'):JA P ops Φ (⟨some d,.alloc t,ty,pos,af,none⟩::l) A:=
 .sem (K:=fun B=>B=A') rfl (fun C a w Q hd hR=>by
  obtain ⟨S,M,ι,hR⟩:=hR
  obtain ⟨i,z,hi,hzz,_,rfl,hall⟩:=JB9 hz
  refine Oper.wpIn_mono (fun a' w' h=>⟨A',rfl,hp▸h⟩) (JFy (JUU (o:=⟨some d,.alloc t,ty,pos,af,none⟩) hR rfl (hd d rfl) hn hN (t:=t) (fun t' h=>by rw [htag] at h;cases h;rfl) (vs:=z.cells.toList) ?_ (JEo hall)) Q)
  simp [execOp,Instr.alloc,zeroValue,typeInfo,hi,hzz,newVar,newRow]) fun B e=>e▸h'
end alloc
section bytes
variable {P:Program}
def Qp (l:List UInt8):List (List D):=l.map fun c=>[.raw (.int .u8 c.toNat)]
theorem JDp (l:List UInt8):(Qp l).length=l.length:=by simp [Qp]
theorem JPm (x y:List UInt8):Qp (x++y)=Qp x++Qp y:=by simp [Qp]
theorem JPq {S:JZ}{w:World}(l:List UInt8):JO (RepD S w) (Qp l).flatten (Lib.strCells (bs l)):=by
 rw [Lib.strCells,JAI]
 unfold Qp
 induction l with
 |nil=>trivial
 |cons c l ih=>exact ⟨.raw _ rfl,ih⟩
theorem JPp (l:List UInt8):∀x∈Qp l,x.length=1:=fun x h=>by
 unfold Qp at h
 obtain ⟨c,_,rfl⟩:=List.mem_map.1 h
 rfl
theorem JOD {w:World}{t u ty e:TypeId}{i:TypeInfo}(ht:P.underlying t=some (.slice e))(hu:P.underlying u=some .string)(hi:P.info? e=some i)(hz:i.zero=some (.int .u8 0))(hsize:i.size=1)(hby:i.bytes=1)
  {B n:Nat} {v:Value} {xs:List Value} (hown:w.ownsRow B e 1 v n xs) (s:ByteArray) (hlen:n+s.size≤140737488355328) (hB:B≤w.heap.size) :
  ∃v' w',(Builtin.append_ #[t,u] ty #[v,.string s]).run P w=.ok v' w' ∧ w'.ownsRow B e 1 v' (n+s.size) (xs++Lib.strCells s)∧w.grownBy w' (blk v) ∧
   (∀b,blk v'=some b→w.heap.size≤b∨blk v=some b)∧(s.size=0→v'=v):=by
 have h63:n+s.size≤maxLen:=by simp only [maxLen];omega
 rcases hown.2 with ⟨rfl,rfl⟩|⟨g,cap,cur,rfl,hbg,hg,hnc,hcm,hcs,htake⟩
 ·have hx:xs=[]:=List.eq_nil_of_length_eq_zero (by simpa using hown.1)
  subst hx
  obtain ⟨v',w',hr,ho',hgr,hnl⟩:=Lib.run_append_own_string (P:=P) w w.heap.size t u ty e i ht hu hi hz hsize hby (.slice none 0 0) 0 [] (World.ownsRow_nil w _ e 1) s h63 hlen (Nat.le_refl _)
  refine ⟨v',w',hr,⟨ho'.1,?_⟩,hgr,fun b hb=>.inl ?_,fun h=>hnl.2 ⟨rfl,h⟩⟩
  ·rcases ho'.2 with h|⟨g,cap,cur,e1,e2,rest⟩
   ·exact .inl h
   ·exact .inr ⟨g,cap,cur,e1,Nat.le_trans hB e2,rest⟩
  ·rcases ho'.2 with ⟨h,_⟩|⟨g,cap,cur,e1,e2,rest⟩
   ·rw [h] at hb;simp [blk] at hb
   ·rw [e1] at hb;simp [blk] at hb;omega
 ·have hll:(xs++Lib.strCells s).length=(n+s.size)*1:=by rw [List.length_append,hown.1,Lib.strCells_length,Nat.mul_one,Nat.mul_one]
  by_cases hroom:n+s.size≤cap
  ·have hr:=Lib.run_append_room_string (P:=P) w t u ty e i ht hu hi hsize g n cap cur hg s hroom (by rw [hcs,Nat.mul_one];exact hroom)
   refine ⟨_,_,hr,⟨hll,.inr ⟨g,cap,_,rfl,hbg,setRow_heap w g cur _ e _ hg,hroom,hcm,?_,?_⟩⟩,⟨rfl,rfl,rfl,by simp,fun k _ hk=>setRow_other w g k _ (fun e=>hk (by simp [blk,e]))⟩,fun b hb=>.inr hb,fun h=>by rw [h];rfl⟩
   ·simp only [List.size_toArray,List.length_append,List.length_take,List.length_drop,Array.length_toList,Lib.strCells_length]
    omega
   ·have ht':cur.toList.take n=xs:=by simpa using htake
    rw [ht',←hll]
    exact List.take_left
  ·have holds:∀j u,xs[j]? = some u→w.cell? ((⟨g,0,none⟩:Addr).add j)=some u:=hown.cells (g:=g) rfl
   have hr:=Lib.run_append_grow_string (P:=P) w t u ty e i (.int .u8 0) ht hu hi hz ⟨g,0,none⟩ n cap xs (by rw [hsize];exact hown.1) holds s (by omega) (by omega) (by rw [hby];exact growslice_fits (by omega) (by omega))
   have hge:=grownCap_ge w (n+s.size) cap e
   have hcm':grownCap w (n+s.size) cap e≤maxLen:=grownCap_le_maxLen w (n+s.size) cap e h63
   refine ⟨_,_,hr,⟨hll,.inr ⟨w.heap.size,_,_,rfl,hB,heap_alloc_new w.drew _,hge,hcm',?_,?_⟩⟩,⟨rfl,rfl,rfl,by simp,fun b hb _=>Below.heap_alloc w.drew _ b hb⟩,fun b hb=>.inl (by simp [blk] at hb;omega),fun h=>by omega⟩
   ·have hx1:=hown.1
    have hz1:(Value.int IntKind.u8 0).cells.size=1:=rfl
    simp only [Array.size_append,List.size_toArray,size_zeroCells,hz1,hx1,Lib.strCells_length]
    omega
   ·simp only [Array.toList_append,List.append_assoc]
    rw [←List.append_assoc,←hll]
    exact List.take_left
end bytes
section appS
variable {P:Program} {ops:Array Oper} {A A':JD} {d:Nat}
theorem JA.appS {Φ:JD→Prop}{l:List Oper}{t u e ty:TypeId}{s x:Operand}{pos:String}{af:Array Edge}{i:TypeInfo}(q:Nat)(b c:List UInt8)(hs:A.ev s=.leaf (.own q 0 b.length b.length)∨(b=[]∧c≠[]∧A.ev s=.raw (.slice none 0 0)))
  (hx:A.ev x=.str c) (hq:A.obj q=some (.arr e 1 (Qp b))) (ht:P.underlying t=some (.slice e)) (hu:P.underlying u=some .string) (hi:P.info? e=some i) (hz:i.zero=some (.int .u8 0)∧i.size=1∧i.bytes=1) (hlen:b.length+c.length≤140737488355328)
  (hp:A.put [.obj q (.arr e 1 (Qp (b++c))),.slot d (.leaf (.own q 0 (b++c).length (b++c).length))]=A') (h':JA P ops Φ l A') :
  JA P ops Φ (⟨some d,.call { callee:=.builtin .append,args:=#[s,x],argTypes:=#[t,u] },ty,pos,af,none⟩::l) A:=
 .sem (K:=fun B=>B=A') rfl (fun C a w Q hd hR=>by
  obtain ⟨S,M,ι,hR⟩:=hR
  obtain ⟨xs,hown,hall,hkk,_,hS⟩:=hR.objs q _ hq
  have hxv:a.eval x=.string (bs c):=by have:=J4 hR x;rw [hx] at this;exact Qd (Jm this)
  have hsz:(bs c).size=c.length:=Z5 c
  have hl1:(Qp b).length=b.length:=JDp b
  have key:∃v' w' B,(Builtin.append_ #[t,u] ty #[a.eval s,.string (bs c)]).run P w=.ok v' w' ∧ w'.ownsRow B e 1 v' (b.length+c.length) (xs++Lib.strCells (bs c))∧w.grownBy w' (blk (ι q))∧(∀k,blk v'=some k→w.heap.size≤k∨blk (ι q)=some k)∧(c.length=0→v'=ι q):=by
   rcases hs with hs|⟨hb,hc,hs⟩
   ·have h1:=J4 hR s
    rw [hs] at h1
    obtain ⟨_,e',k',es,hob,_,hval⟩:=Jm h1
    rw [hq] at hob;cases hob
    have hv:a.eval s=ι q:=(hval hl1).2.1 rfl rfl
    rw [hl1] at hown
    obtain ⟨v',w',hr,ho',hgr,hbk,hm⟩:=JOD (P:=P) (ty:=ty) ht hu hi hz.1 hz.2.1 hz.2.2 hown (bs c) (by rw [hsz];exact hlen) (Nat.zero_le _)
    rw [hsz] at ho' hm
    exact ⟨v',w',0,by rw [hv];exact hr,ho',hgr,hbk,hm⟩
   ·subst hb
    have h1:=J4 hR s
    rw [hs] at h1
    have hv:=Qd (Jm h1)
    have hx0:xs=[]:=List.eq_nil_of_length_eq_zero (by simpa [Qp] using hown.1)
    subst hx0
    obtain ⟨v',w',hr,ho',hgr,hbk,hm⟩:=JOD (P:=P) (ty:=ty) ht hu hi hz.1 hz.2.1 hz.2.2 (World.ownsRow_nil w 0 e 1) (bs c) (by rw [hsz];simpa using hlen) (Nat.zero_le _)
    rw [hsz] at ho' hm
    refine ⟨v',w',0,by rw [hv];exact hr,ho',⟨hgr.os,hgr.tape,hgr.output,hgr.size,fun k hk hne=>hgr.block k hk (by simp [blk])⟩,fun k hk=>.inl ?_,fun h=>absurd (List.eq_nil_of_length_eq_zero h) hc⟩
    rcases hbk k hk with h|h
    ·exact h
    ·simp [blk] at h
  obtain ⟨v',w',B,hr,ho',hgr,hbk,hm0⟩:=key
  have hl2:(Qp (b++c)).length=b.length+c.length:=by rw [JDp,List.length_append]
  have hon:QY ι A q w w':=JJw hgr fun g hg=>⟨_,hq,hg⟩
  have hu1:v'.oneCell'=true:=by rcases ho'.2 with ⟨rfl,_⟩|⟨_,_,_,rfl,_⟩<;>rfl
  have ht':Qa ι A q (.arr e 1 (Qp (b++c))) v':=by
   unfold Qa
   rw [hq]
   exact ⟨_,rfl,by rw [hl1,hl2];omega,fun he=>hm0 (by rw [hl1,hl2] at he;omega)⟩
  have hm:=hon.mv hR ht'
  have ho0:w'.ownsRow 0 e 1 v' (Qp (b++c)).length (xs++Lib.strCells (bs c)):=by
   rw [hl2]
   exact ⟨ho'.1,ho'.2.imp id fun ⟨g,cap,cur,h1,_,h2⟩=>⟨g,cap,cur,h1,Nat.zero_le _,h2⟩⟩
  have hRR:=hR.chg hon ht' ⟨xs++Lib.strCells (bs c),by rw [upd_same];exact ho0,by rw [JPm,List.flatten_append];exact (hall.append (JPq c)).mono fun _ _=>hm.d _ _,JPp _,by omega,fun k hk off hs'=>by
   rw [upd_same] at hk
   rcases hbk k hk with h2|h2
   ·have:=hR.inn _ _ hs';omega
   ·exact hS k h2 off hs'⟩ (fun k hk=>by
   rcases hbk k hk with h2|h2
   ·exact .inl h2
   ·exact .inr ⟨_,hq,h2⟩) (by simp) (fun hn=>by rw [hq] at hn;cases hn)
  have hex:(execOp a.eval ⟨some d,.call { callee:=.builtin .append,args:=#[s,x],argTypes:=#[t,u] },ty,pos,af,none⟩).run P w=.ok (.value v') w':=JFO rfl (by rw [hxv];exact hr)
  refine JB7 hex JBl ?_
  ·rw [Oper.uponIn_value]
   refine ⟨A',rfl,?_⟩
   rw [←hp]
   exact ⟨S,_,_,hRR.slot (hd d rfl) (Qc ⟨hu1,e,1,Qp (b++c),ZI _ _ _,by rw [JDp];exact Nat.le_refl _,fun _=>⟨by omega,by rw [upd_same,List.length_append];rw [hl2] at ho0;exact JAq.tip ho0⟩⟩)⟩) fun B e=>e▸h'
end appS
end Go.Mw
namespace Go.Mw
open Go.RowKit
section ptr
variable {P:Program} {A:JD} {d n:Nat} {x y:Operand} {ty:TypeId} {pos:String} {af:Array Edge} {g:Option (Nat × Bool)} {ls:List AL} {src dst t u:TypeId}
theorem JEK {C:Ctx P}{S:JZ}{M:J3}{ι:Nat→Value}{a:Act}{w:World}(hR:Jb C S M ι A a w){i:Nat}(hx:A.ev x=.leaf (.ptr n i))(hn:A.obj n=some (.cells ls)) :
  ∃b vs el,ι n=.pointer (some ⟨b,0,none⟩)∧a.eval x=.pointer (some ⟨b,i,none⟩)∧w.heap[b]? = some (.cells vs.toArray el (0,0))∧JO (Ja S ι A.obj w) ls vs∧JFt n el:=by
 have hv:=J4 hR x
 rw [hx] at hv
 obtain ⟨ls',b,h1,h2,h3⟩:=Jm hv
 obtain ⟨b',vs,el,g1,g2,g3,g4⟩:=hR.objs n _ hn
 rw [h2] at g1;cases g1
 exact ⟨b,vs,el,h2,h3,g2,g3,g4.2⟩
theorem JOT (hs:P.underlying src=some (.pointer t))(hd:P.underlying dst=some .unsafePointer){k:Nat}(hj:(P.info? t).map (·.size)=some k)(hk:k≠0)(hx:A.ev x=.leaf (.ptr n 0))(hn:A.obj n=some (.cells ls))(hl:ls≠[]) :
  JCt P ⟨some d,.convert src dst x,ty,pos,af,g⟩ A (.leaf (.ptr n 0)):=by
 intro C S M ι a w hR
 obtain ⟨b,vs,el,h1,h2,h3,h4,_⟩:=JEK hR hx hn
 obtain ⟨j,hj1,hj2⟩:=Option.map_eq_some_iff.1 hj
 have h0:0<vs.length:=by rw [←h4.length];exact List.length_pos_iff.2 hl
 refine ⟨_,?_,Qc ⟨ls,b,hn,h1,rfl⟩⟩
 have:=Lib.run_to_unsafe (P:=P) w ⟨b,0,none⟩ hs hd hj1 (by rw [hj2];exact hk) (e:=el) (cells:=vs.length) (by simp [World.shape?,h3]) h0
 simp [execOp,h2,this]
theorem JOR (hs:P.underlying src=some .unsafePointer)(hd:P.underlying dst=some (.pointer u))(hj:(P.info? u).isSome=true)(hx:A.ev x=.leaf (.ptr n 0))(hn:A.obj n=some (.cells ls)){T:TypeId}(htag:Y1 (n%1000)=some T)
  (hl:liesAt P P.depth T (ls.length / P.cellsOf T) 0 u 1=true) :
  JCt P ⟨some d,.convert src dst x,ty,pos,af,g⟩ A (.leaf (.ptr n 0)):=by
 intro C S M ι a w hR
 obtain ⟨b,vs,el,h1,h2,h3,h4,h5⟩:=JEK hR hx hn
 obtain ⟨j,hj1⟩:=Option.isSome_iff_exists.1 hj
 have hel:=h5 T htag
 subst hel
 refine ⟨_,?_,Qc ⟨ls,b,hn,h1,rfl⟩⟩
 have:=Lib.run_from_unsafe (P:=P) w ⟨b,0,none⟩ hs hd hj1 (e:=el) (cells:=vs.length) (by simp [World.shape?,h3]) (by rw [←h4.length];exact hl)
 simp [execOp,h2,this]
theorem JOQ {tp te tz:TypeId}(hp:P.underlying tp=some (.pointer te))(hj:(P.info? te).isSome=true){i:Nat}(hx:A.ev x=.leaf (.ptr n i))(hy:A.ev y=.leaf (.ptr n i))(hn:A.obj n=some (.cells ls)) :
  JCt P ⟨some d,.binOp .neq tp x y tz,ty,pos,af,g⟩ A (.bool false):=by
 intro C S M ι a w hR
 obtain ⟨b,vs,el,h1,h2,_⟩:=JEK hR hx hn
 obtain ⟨b',vs',el',h1',h2',_⟩:=JEK hR hy hn
 rw [h1] at h1';cases h1'
 obtain ⟨j,hj1⟩:=Option.isSome_iff_exists.1 hj
 refine ⟨_,?_,⟨_,rfl,RepD.raw _ rfl⟩⟩
 have:=Lib.run_neq_ptr_same (P:=P) w ⟨b,i,none⟩ hp hj1
 simp [execOp,h2,h2',eqGuard_at_pointer,this]
theorem JOS {f:FuncId}{tys:Array TypeId}(hrun:∀v w,(callFunc f #[v]).run P w=.ok (.value v) w){i:Nat}(hx:A.ev x=.leaf (.ptr n i))(hn:A.obj n=some (.cells ls)) :
  JCt P ⟨some d,.call { callee:=.value (.func f),args:=#[x],argTypes:=tys },ty,pos,af,g⟩ A (.leaf (.ptr n i)):=by
 intro C S M ι a w hR
 obtain ⟨b,vs,el,h1,h2,_⟩:=JEK hR hx hn
 refine ⟨_,?_,Qc ⟨ls,b,hn,h1,rfl⟩⟩
 have hfv:a.eval (.func f)=.func (.func f) #[] #[]:=rfl
 have:=hrun (a.eval x) w
 rw [h2] at this
 simp [execOp,resolve,hfv,Deferred.ofValue,invoke,h2,this]
end ptr
section eat
variable {P:Program} {ops:Array Oper} {A:JD} {d:Nat} {r:AV}
theorem JA.eat {Φ:JD→Prop}{l:List Oper}{f:FuncId}{as:List Operand}{tys:Array TypeId}{ty:TypeId}{pos:String}{af:Array Edge}(hcan:JM P f=true)
  (law:∀(C:Ctx P) (S:JZ) (M:J3) (ι:Nat→Value) (a:Act) (w:World),Jb C S M ι A a w→Calls P f (as.map a.eval).toArray w fun e w'=>∃v,e=.returned v∧(∀S ι H w,Jk S ι H w r v) ∧
   ∃U:J3,(∀k,U k→∃o x,A.obj o=some x∧blk (ι o)=some k)∧Fr S U w w')
  (h':JA P ops Φ l ⟨[(d,r)],[],A.bh⟩):JA P ops Φ (⟨some d,.call { callee:=.value (.func f),args:=as.toArray,argTypes:=tys },ty,pos,af,none⟩::l) A:=
 .sem (K:=fun B=>B=⟨[(d,r)],[],A.bh⟩) rfl (fun C a w Q hd hR=>by
  obtain ⟨S,M,ι,hR⟩:=hR
  have hexec:(execOp a.eval ⟨some d,.call { callee:=.value (.func f),args:=as.toArray,argTypes:=tys },ty,pos,af,none⟩).run P w=.ok (.enter f (as.map a.eval).toArray) w:=by
   have hfv:a.eval (.func f)=.func (.func f) #[] #[]:=rfl
   have e1:as.toArray.map a.eval=(as.map a.eval).toArray:=by apply Array.ext';simp
   simp [execOp,resolve,hfv,Deferred.ofValue,invoke,JFn hcan]
  refine JB7 hexec JBl ?_
  rw [Oper.uponIn_enter]
  refine ⟨JFP C,JGk C ?_⟩
  have hl:=law C S M ι a w hR
  rw [←callsIn_wide] at hl
  refine hl.mono fun e w' ⟨v,he,hr,U,hU,hf⟩=>?_
  subst he
  refine ⟨_,rfl,?_⟩
  obtain ⟨S2,M2,ι2,hR2⟩:=hR.forget hU hf
  exact ⟨S2,M2,ι2,hR2.slot (hd d rfl) (hr _ _ _ _)⟩) fun B e=>e▸h'
end eat
end Go.Mw
namespace Go.Mw
section
variable {P:Program} {ops:Array Oper} {A A':JD} {acc:List Fp} {K:List Fp→JD→Prop} {r:List (Oper × Nat)}
theorem JNs (l:List (Nat × AO)):∀(B:JD),B.put (l.reverse.map fun p=>.obj p.1 p.2)=⟨B.tm,l++B.ob,B.bh⟩:=by
 induction l with
 |nil=>intro B;rfl
 |cons p l ih=>
  intro B
  have happ:∀(a b:List Wr) (B:JD),B.put (a++b)=(B.put a).put b:=by
   intro a
   induction a with
   |nil=>intro b B;rfl
   |cons x a ih2=>intro b B;exact ih2 b _
  rw [List.reverse_cons,List.map_append,happ,ih]
  rfl
theorem JVb (a b:List Wr):Qn (a++b)=Qn a++Qn b:=by
 induction a with
 |nil=>rfl
 |cons x a ih=>cases x<;>simp [Qn,ih]
theorem JVc (l:List (Nat × AO)):Qn (l.map fun p=>.obj p.1 p.2)=l.map fun p=>.obj p.1:=by
 induction l with
 |nil=>rfl
 |cons p l ih=>simp [Qn,ih]
theorem JG.lendG {i d:Nat}{f:Operand}{g:FuncId}{ds:List D}{as:List Operand}{tys:Array TypeId}{ty:TypeId}{pos:String}{af:Array Edge}{gd:Option (Nat × Bool)}{args:List AV}{pre obs:List (Nat × AO)}{res:AV}{vs:List AV}{rs wl:List Loc}(lend:List (Nat × Nat))
  (hwt:Jv ops gd A=some true) (hcon:Qg P g args pre (.ret res obs)) (hcan:JM P g=true) (hf:A.ev f=.leaf (.d (.fn g ds))) (hv:as.map A.ev=vs) (hwk:JO (JV (rn lend (1000*(d+1))) (Qf pre)) (vs++ds.map fun x=>.leaf (.d x)) args)
  (hdom:lend.map Prod.fst=pre.map Prod.fst) (hinj:(lend.map Prod.snd).Nodup) (hin:pre.all (fun p=>p.2.inn (Qf pre))=true)
  (hob:∀p∈pre,∀n,look lend p.1=some n→A.obj n=some (p.2.ren (rn lend (1000*(d+1))))) (hback:∀p∈pre,∃x',look obs p.1=some x' ∧ Zy p.2 x') (hnew:obs.all (fun p=>(look lend p.1).isSome)=true)
  (hp:after A d (rn lend (1000*(d+1))) res obs A.bh=A')
  (hr:Qj ops ⟨some d,.call { callee:=.value f,args:=as.toArray,argTypes:=tys },ty,pos,af,gd⟩++(YH (f::as)++lend.map fun p=>.obj p.2)=rs)
  (hw:((obs.map fun p=>Loc.obj (rn lend (1000*(d+1)) p.1)).reverse++[.slot d])=wl)
  (h':JG P ops r A' (⟨rs,wl⟩::acc) K) (htg:(lend.all fun p=>Y1 (p.2%1000)==Y1 (p.1%1000))=true:=by rfl) :
  JG P ops ((⟨some d,.call { callee:=.value f,args:=as.toArray,argTypes:=tys },ty,pos,af,gd⟩,i)::r) A acc K:=
 .cons (fun ho _ _ hrun=>⟨_,_,ho,by
  have:=YE.sem (P:=P) (ops:=ops) (o:=⟨some d,.call { callee:=.value f,args:=as.toArray,argTypes:=tys },ty,pos,af,gd⟩) (A:=A) (YH (f::as)++lend.map fun p=>.obj p.2)
    (((obs.map fun p=>(rn lend (1000*(d+1)) p.1,p.2.ren (rn lend (1000*(d+1))))).reverse.map fun p=>.obj p.1 p.2)++[.slot d (res.ren (rn lend (1000*(d+1))))]) hwt (fun B hB C a w Q hd hR=>by
   have ef:B.ev f=A.ev f:=JBs fun l hl=>hB l JBD
   have eas:as.map B.ev=as.map A.ev:=JC9 fun l hl=>hB l JBD
   obtain ⟨S,M,ι,hR⟩:=hR
   have hob':∀p∈pre,∀n,look lend p.1=some n→B.obj n=some (p.2.ren (rn lend (1000*(d+1)))):=fun p hp n hn=>by
    have h1:Mw.agree A B (.obj n):=hB (.obj n) (List.mem_append.2 (.inr (List.mem_map.2 ⟨(p.1,n),JBb hn,rfl⟩)))
    exact Eq.trans h1 (hob p hp n hn)
   refine Oper.wpIn_mono (fun a' w' h=>?_) (JHd (f:=f) (as:=as) (caps:=ds.map .d) (lend:=lend) (pre:=pre) (b:=.ret res obs) (κ:=fun _ _=>B.bh) hR hd rfl (by simp [YU]) (.inl ⟨ds,ef.trans hf,rfl⟩) hcan
    (by rw [eas,hv,List.map_map];exact hwk) hcon (JL4 hdom hinj hin hob' hback (fun p hp hn=>by have:=List.all_eq_true.1 hnew p hp;rw [hn] at this;cases this) htg) rfl Q)
   obtain ⟨res',obs',hl,hR'⟩:=h
   obtain ⟨e1,e2⟩:=hl.inv
   subst e1 e2
   have happ:∀(a b:List Wr) (B:JD),B.put (a++b)=(B.put a).put b:=by
    intro a
    induction a with
    |nil=>intro b B;rfl
    |cons x a ih2=>intro b B;exact ih2 b _
   rw [happ,JNs]
   exact hR')
  rw [hr] at this
  exact this,by rw [←hw,JVb,JVc,List.map_reverse,List.map_map];rfl,by
   have happ:∀(a b:List Wr) (B:JD),B.put (a++b)=(B.put a).put b:=by
    intro a
    induction a with
    |nil=>intro b B;rfl
    |cons x a ih2=>intro b B;exact ih2 b _
   rw [happ,JNs]
   show QS P ops _ (after A d (rn lend (1000*(d+1))) res obs A.bh) _ _
   rw [hp];exact hrun⟩) h'
end
def Qu (a b:Nat)(l:List UInt8):List AL:=if l=[] then [.d (.raw (.pointer none)),.d (.raw (.slice none 0 0))] else [.ptr a 0,.own b 0 l.length l.length]
theorem JJ1 (a b:Nat):Qu a b []=[.d (.raw (.pointer none)),.d (.raw (.slice none 0 0))]:=rfl
theorem JEI {l:List UInt8}(h:l≠[])(a b:Nat):Qu a b l=[.ptr a 0,.own b 0 l.length l.length]:=if_neg h
theorem JTN (a b:Nat)(l:List UInt8)(r:Nat→Nat):(Qu a b l).map (AL.ren r)=Qu (r a) (r b) l:=by
 unfold Qu;split<;>rfl
theorem JTM (a b:Nat)(l:List UInt8)(os:List Nat)(h:(os.contains a&&os.contains b)=true):(Qu a b l).map (AL.keep os)=Qu a b l:=by
 rw [Bool.and_eq_true] at h
 unfold Qu
 split
 ·rfl
 ·simp only [List.map_cons,List.map_nil,AL.keep,h.1,h.2,if_true]
@[go_sem ↓] theorem JTQ (a b:Nat)(l:List UInt8)(r:Nat→Nat):(AO.cells (Qu a b l)).ren r=.cells (Qu (r a) (r b) l):=congrArg AO.cells (JTN a b l r)
@[go_sem ↓] theorem JXq (a b:Nat)(l:List UInt8)(os:List Nat)(h:(os.contains a&&os.contains b)=true):(AO.cells (Qu a b l)).keep os=.cells (Qu a b l):=congrArg AO.cells (JTM a b l os h)
@[go_sem ↓] theorem JXr (a b:Nat)(l:List UInt8)(r:Nat→Nat)(n:Nat):AO.ren r ((n,AO.cells (Qu a b l)):Nat × AO).2=.cells (Qu (r a) (r b) l):=JTQ a b l r
@[go_sem] theorem JXo (o k:Nat)(es:List (List D))(a b:Nat)(l:List UInt8)(h:(b==o)=false):(Qu a b l).map (AL.frz o k es)=Qu a b l:=by
 have hb:¬b=o:=by simpa using h
 unfold Qu
 split
 ·rfl
 ·simp only [List.map_cons,List.map_nil,AL.frz,if_neg hb]
@[go_sem] theorem JXp (o:Nat)(ds:List D)(a b:Nat)(l:List UInt8)(h:(a==o)=false):(Qu a b l).map (AL.frzc o ds)=Qu a b l:=by
 have ha:¬a=o:=by simpa using h
 unfold Qu
 split
 ·rfl
 ·simp only [List.map_cons,List.map_nil,AL.frzc,if_neg ha]
theorem JTL (a b:Nat)(l:List UInt8)(ns:List Nat)(ha:ns.contains a=true)(hb:ns.contains b=true):(Qu a b l).all (AL.inn ns)=true:=by
 unfold Qu
 split
 ·rfl
 ·simp only [List.all_cons,List.all_nil,AL.inn,ha,hb];rfl
theorem JTO (a b:Nat)(l:List UInt8)(e k:Nat)(es:List (List D)):([(a,AO.cells (Qu a b l)),(b,.arr e k es)]:List (Nat × AO)).all (fun p=>p.2.inn (Qf [(a,AO.cells (Qu a b l)),(b,.arr e k es)]))=true:=by
 have h1:(Qf [(a,AO.cells (Qu a b l)),(b,AO.arr e k es)]).contains a=true:=by simp [Qf]
 have h2:(Qf [(a,AO.cells (Qu a b l)),(b,AO.arr e k es)]).contains b=true:=by simp [Qf]
 simp only [List.all_cons,List.all_nil,Bool.and_true]
 show ((Qu a b l).all (AL.inn (Qf _))&&true)=true
 rw [JTL a b l _ h1 h2];rfl
end Go.Mw
namespace Go.Mw
open Go.RowKit
section conv
variable {P:Program} {A:JD} {d:Nat} {x:Operand} {ty:TypeId} {pos:String} {af:Array Edge} {g:Option (Nat × Bool)} {src dst e:TypeId}
theorem JPn (l:List UInt8):(Qp l).flatten=l.map fun c=>D.raw (.int .u8 c.toNat):=by
 unfold Qp
 induction l with
 |nil=>rfl
 |cons c l ih=>simp [ih]
end conv
end Go.Mw
namespace Go.Mw
open Go.RowKit
theorem JN.arr0 (A:JD)(o:Nat)(e:TypeId)(k:Nat)(ho:A.obj o=none)(hk:0<k)(hN:1000≤o):JN A (A.put [.obj o (.arr e k [])]):=by
 intro P C a w ⟨S,M,ι,hR⟩
 have hon:QY ι A o w w:=⟨rfl,rfl,rfl,Nat.le_refl _,fun _ _ _=>rfl⟩
 have ht:Qa ι A o (.arr e k []) (.slice none 0 0):=JAf ho _ _
 have hpin:C.pin o=none:=by
  cases hp:C.pin o with
  |none=>rfl
  |some q=>have:=hR.pinN o (by rw [hp];simp);omega
 exact ⟨S,_,_,hR.chg hon ht ⟨[],by rw [upd_same];exact World.ownsRow_nil w 0 e k,by trivial,by simp,hk,fun b hb=>by rw [upd_same] at hb;simp [blk] at hb⟩ (fun b hb=>by simp [blk] at hb) (by simp) fun _=>hpin⟩
theorem JA.arr0 {P:Program}{ops:Array Oper}{Ψ:JD→Prop}{A A':JD}{l:List Oper}(o:Nat)(e:TypeId)(k:Nat)(ho:A.obj o=none)(hk:0<k)(hN:1000≤o)(hp:A.put [.obj o (.arr e k [])]=A')(h':JA P ops Ψ l A'):JA P ops Ψ l A:=
 .ghost (JN.arr0 A o e k ho hk hN) (hp▸h')
section appC
variable {P:Program} {ops:Array Oper} {A A':JD} {d:Nat}
structure JDY (P:Program) (A:JD) (s x:Operand) (t e:TypeId) (q r:Nat) (ds:List D) (es:List (List D)) (d:Nat) (i:TypeInfo) (z:Value):Prop where
 hs:A.ev s=.leaf (.csl q 0 ds.length)
 hx:A.ev x=.leaf (.own r 0 es.length es.length)
 hq:A.obj q=some (.cells (ds.map .d))
 hr:A.obj r=some (.arr e 1 es)
 hd:A.obj d=none
 ht:P.underlying t=some (.slice e)
 hi:P.info? e=some i
 hz:i.zero=some z∧i.size=1∧z.cells.size=1
 h0:0<es.length
 hlen:ds.length+es.length≤1048576∧(ds.length+es.length)*i.bytes≤140737488355328
theorem JOd {C:Ctx P}{a:Act}{w:World}{s x:Operand}{t e ty:TypeId}{pos:String}{af:Array Edge}{q r:Nat}{ds:List D}{es:List (List D)}{i:TypeInfo}{z:Value}(h:JDY P A s x t e q r ds es d i z)(hd:C.can d)(hR:J7 C A a w)(Q:Exit→Act→World→Prop) :
  (⟨some d,.call { callee:=.builtin .append,args:=#[s,x],argTypes:=#[t,t] },ty,pos,af,none⟩:Oper).wpIn (QX C) 0 P a w
   (fun a' w'=>J7 C (A.put [.slot d (.leaf (.own d 0 ((ds.map fun y=>[y])++es).length ((ds.map fun y=>[y])++es).length)),.obj d (.arr e 1 ((ds.map fun y=>[y])++es))]) a' w') Q:=by
 obtain ⟨S,M,ι,hR⟩:=hR
 have h1:=J4 hR s
 rw [h.hs] at h1
 obtain ⟨ls,b,c,g1,g2,g3,g4⟩:=Jm h1
 rw [h.hq] at g1;cases g1
 subst g4
 obtain ⟨b',vs,el,k1,k2,k3,_⟩:=hR.objs q _ h.hq
 rw [g2] at k1;cases k1
 have h2:=J4 hR x
 rw [h.hx] at h2
 obtain ⟨_,e',k',es',j1,_,j2⟩:=Jm h2
 rw [h.hr] at j1;cases j1
 have j2:=(j2 rfl).2.1 rfl rfl
 obtain ⟨xs,hown,hall,hkk,_,hS⟩:=hR.objs r _ h.hr
 obtain ⟨g,cap,cur,u1,u2,u3,u4,u5,u6,u7⟩:∃g cap cur,ι r=.slice (some ⟨g,0,none⟩) es.length cap∧0≤g∧w.heap[g]? = some (.cells cur e (0,0))∧es.length≤cap∧cap≤maxLen∧cur.size=cap*1∧cur.toList.take (es.length*1)=xs:=by
  rcases hown.2 with ⟨_,hz⟩|h
  ·exact absurd hz (by have:=h.h0;omega)
  ·exact h
 have hcs:=hown.cells (g:=g) (by rw [u1];rfl)
 have hvl:vs.length=ds.length:=by have:=k3.length;simpa using this.symm
 have hxl:xs.length=es.length:=by simpa using hown.1
 have holds:∀j u,vs[j]? = some u→w.cell? ((⟨b,0,none⟩:Addr).add j)=some u:=fun j u hj=>by
  rw [Addr.add_lit]
  show w.cell? ⟨b,0+j,none⟩=_
  rw [Nat.zero_add,Lib.cell_of_heap k2]
  simpa using hj
 have hnews:∀j u,xs[j]? = some u→w.cell? ((⟨g,0,none⟩:Addr).add j)=some u:=hcs
 have hone:∀u∈xs,u.oneCell'=true:=JDm hall
 have hr:=run_append_grow (P:=P) w t ty e i z h.ht h.hi h.hz.1 ⟨b,0,none⟩ ds.length ds.length vs (by rw [h.hz.2.1,hvl,Nat.mul_one]) holds ⟨g,0,none⟩ es.length cap xs (by rw [h.hz.2.1,hxl,Nat.mul_one]) hnews (by have:=h.h0;omega) (by have:=h.hlen;omega) (growslice_fits (by have:=h.h0;omega) h.hlen.2)
 have hge:=grownCap_ge w (ds.length+es.length) ds.length e
 have hcm:=grownCap_le_maxLen w (ds.length+es.length) ds.length e (by have:=h.hlen;simp only [maxLen];omega)
 have hll:(vs++xs).length=(ds.length+es.length)*1:=by rw [List.length_append,hvl,hxl,Nat.mul_one]
 have hflat:((ds.map fun y=>[y])++es).flatten=ds++es.flatten:=by
  rw [List.flatten_append]
  congr 1
  clear h hR h1 h2 k3 hall g3 holds hr hge hcm hll hvl
  induction ds with
  |nil=>rfl
  |cons y l ih=>simp [ih]
 have hlen2:((ds.map fun y=>[y])++es).length=ds.length+es.length:=by simp
 have hds:JO (RepD S w) ds vs:=by
  clear h hR h1 h2 hall g3 holds hr hge hcm hll hvl hflat hlen2 k2
  induction ds generalizing vs with
  |nil=>cases vs with
   |nil=>trivial
   |cons _ _=>exact k3.elim
  |cons y l ih=>cases vs with
   |nil=>exact k3.elim
   |cons v vs=>exact ⟨k3.1,ih _ k3.2⟩
 have hex:(execOp a.eval ⟨some d,.call { callee:=.builtin .append,args:=#[s,x],argTypes:=#[t,t] },ty,pos,af,none⟩).run P w=.ok (.value _) _:=JFO rfl (by rw [g3,j2,u1];exact hr)
 refine JFy (JFr hR rfl hd h.hd (k:=1) (es:=(ds.map fun y=>[y])++es) (xs:=vs++xs) hex ⟨rfl,rfl,rfl,by simp,fun k hk _=>Below.heap_alloc w.drew _ k hk⟩ ?_ (fun k hk=>by simp [blk] at hk;omega) ?_ ?_ (by omega)) Q
 ·rw [hlen2]
  refine ⟨hll,.inr ⟨w.heap.size,_,_,rfl,Nat.zero_le _,heap_alloc_new w.drew _,hge,hcm,?_,?_⟩⟩
  ·simp only [Array.size_append,List.size_toArray,size_zeroCells,h.hz.2.2,hvl,hxl]
   omega
  ·simp only [Array.toList_append,List.append_assoc]
   rw [←List.append_assoc,←hll]
   exact List.take_left
 ·rw [hflat];exact hds.append hall
 ·intro y hy
  rcases List.mem_append.1 hy with hy|hy
  ·obtain ⟨_,_,rfl⟩:=List.mem_map.1 hy;rfl
  ·exact hkk y hy
theorem JDY.agr {s x:Operand}{t e:TypeId}{q r:Nat}{ds:List D}{es:List (List D)}{i:TypeInfo}{z:Value}(h:JDY P A s x t e q r ds es d i z){B:JD}(ha:∀l∈YH [s,x]++[.obj q,.obj r,.obj d],Mw.agree A B l):JDY P B s x t e q r ds es d i z:=by
 have hs:B.ev s=A.ev s:=JBs fun l hl=>ha l JBD
 have hx:B.ev x=A.ev x:=JBs fun l hl=>ha l (by rw [JHP,JHP];simp [hl])
 have hq:Mw.agree A B (.obj q):=ha (.obj q) (by simp)
 have hr:Mw.agree A B (.obj r):=ha (.obj r) (by simp)
 have hd:Mw.agree A B (.obj d):=ha (.obj d) (by simp)
 exact { h with hs:=hs.trans h.hs,hx:=hx.trans h.hx,hq:=Eq.trans hq h.hq,hr:=Eq.trans hr h.hr,hd:=Eq.trans hd h.hd }
theorem JA.appC {Φ:JD→Prop}{l:List Oper}{s x:Operand}{t e ty:TypeId}{pos:String}{af:Array Edge}{ds:List D}{es:List (List D)}{i:TypeInfo}{z:Value}(q r:Nat)(h:JDY P A s x t e q r ds es d i z)
  (hp:A.put [.slot d (.leaf (.own d 0 ((ds.map fun y=>[y])++es).length ((ds.map fun y=>[y])++es).length)),.obj d (.arr e 1 ((ds.map fun y=>[y])++es))]=A') (h':JA P ops Φ l A') :
  JA P ops Φ (⟨some d,.call { callee:=.builtin .append,args:=#[s,x],argTypes:=#[t,t] },ty,pos,af,none⟩::l) A:=
 .sem (K:=fun B=>B=A') rfl (fun C a w Q hd hR=>Oper.wpIn_mono (fun a' w' h=>⟨A',rfl,hp▸h⟩) (JOd h (hd d rfl) hR Q)) fun B e=>e▸h'
theorem JG.appC {acc:List Fp}{K:List Fp→JD→Prop}{l:List (Oper × Nat)}{k:Nat}{s x:Operand}{t e ty:TypeId}{pos:String}{af:Array Edge}{ds:List D}{es:List (List D)}{i:TypeInfo}{z:Value}{rs:List Loc}(q r:Nat)(h:JDY P A s x t e q r ds es d i z)
  (hr:YH [s,x]++[.obj q,.obj r,.obj d]=rs)
  (hp:A.put [.slot d (.leaf (.own d 0 ((ds.map fun y=>[y])++es).length ((ds.map fun y=>[y])++es).length)),.obj d (.arr e 1 ((ds.map fun y=>[y])++es))]=A')
  (h':JG P ops l A' (⟨rs,[.slot d,.obj d]⟩::acc) K):JG P ops ((⟨some d,.call { callee:=.builtin .append,args:=#[s,x],argTypes:=#[t,t] },ty,pos,af,none⟩,k)::l) A acc K:=
 .cons (fun ho _ _ hrun=>⟨_,_,ho,by
  have:=YE.sem (P:=P) (ops:=ops) (o:=⟨some d,.call { callee:=.builtin .append,args:=#[s,x],argTypes:=#[t,t] },ty,pos,af,none⟩) (A:=A) (YH [s,x]++[.obj q,.obj r,.obj d]) [.slot d (.leaf (.own d 0 ((ds.map fun y=>[y])++es).length ((ds.map fun y=>[y])++es).length)),.obj d (.arr e 1 ((ds.map fun y=>[y])++es))] rfl fun B hB C a w Q hd hR=>JOd (h.agr hB) (hd d rfl) hR Q
  rw [show Qj ops ⟨some d,.call { callee:=.builtin .append,args:=#[s,x],argTypes:=#[t,t] },ty,pos,af,none⟩++(YH [s,x]++[.obj q,.obj r,.obj d])=rs from hr] at this
  exact this,rfl,hp▸hrun⟩) h'
end appC
end Go.Mw
namespace Go.Mw
open Go.RowKit
section
variable {P:Program} {A:JD} {d:Nat} {x:Operand} {ty:TypeId} {pos:String} {af:Array Edge} {g:Option (Nat × Bool)} {t tz e:TypeId}
end
end Go.Mw
namespace Go.Mw
section
variable {P:Program} {ops:Array Oper} {A A':JD} {pv:Value}
end
end Go.Mw
namespace Go.Mw
open Go.RowKit
def JK1 (P:Program)(f g:FuncId)(T1 T2:TypeId):Prop:=∀(x:Value) (w:World) (G:Value→World→Prop),
  Calls P g #[x] ((w.alloc (.cells #[.slice none 0 0] T1)).alloc (.cells #[.int .i64 0] T2)) (fun e w'=>∃p n c,e=.returned (.slice p n c)∧G (.slice p n c) w' ∧
   w'.heap[w.heap.size]? = some (.cells #[.slice none 0 0] T1 (0,0))∧w'.heap[w.heap.size+1]? = some (.cells #[.int .i64 0] T2 (0,0))) →
  Calls P f #[.func (.func g) #[] #[x]] w fun e w'=>∃r w2,G r w2∧e=.returned (.tuple #[r,.int .i64 0])∧w'=(w2.setCell ⟨w.heap.size,0,none⟩ r).setCell ⟨w.heap.size+1,0,none⟩ (.int .i64 0)
def JK2 (P:Program)(f g:FuncId)(pv:Value)(T1 T2 T3:TypeId):Prop:=∀(x:Value) (w:World) (G:World→Prop),
  Calls P g #[x] ((w.alloc (.cells #[.slice none 0 0] T1)).alloc (.cells #[.int .i64 0] T2)) (fun e w'=>e=.panicked (JAJ pv)∧G w' ∧
   w'.heap[w.heap.size]? = some (.cells #[.slice none 0 0] T1 (0,0))∧w'.heap[w.heap.size+1]? = some (.cells #[.int .i64 0] T2 (0,0))) →
  Calls P f #[.func (.func g) #[] #[x]] w fun e w'=>∃w2,G w2∧e=.returned (.tuple #[.slice none 0 0,.int .i64 8])∧w'=(((w2.setCell ⟨w.heap.size,0,none⟩ (.slice none 0 0)).setCell ⟨w.heap.size+1,0,none⟩ (.int .i64 8)).alloc (.cells #[.int .i64 8] T3)).drew
section
variable {P:Program} {f g:FuncId} {T1 T2 T3:TypeId}
theorem JO2 (w:World)(o1 o2:Obj):((w.alloc o1).alloc o2).heap.size=w.heap.size+2∧((w.alloc o1).alloc o2).heap[w.heap.size]? = some o1∧((w.alloc o1).alloc o2).heap[w.heap.size+1]? = some o2 ∧
  ∀k,k<w.heap.size→((w.alloc o1).alloc o2).heap[k]? = w.heap[k]? :=by
 have hs:(w.alloc o1).heap.size=w.heap.size+1:=by rw [World.alloc,Array.size_push]
 refine ⟨by rw [World.alloc,Array.size_push,hs],?_,?_,fun k hk=>?_⟩
 ·exact (Below.heap_alloc (w.alloc o1) o2 _ (by omega)).trans (heap_alloc_new w o1)
 ·have:=heap_alloc_new (w.alloc o1) o2
  rwa [hs] at this
 ·exact (Below.heap_alloc (w.alloc o1) o2 _ (by omega)).trans (Below.heap_alloc w o1 _ hk)
def JRD (E:Env P)(b:Jc)(b1 b2:Nat)(x1 x2:Obj):Env P where
 l:=E.l
 J:=fun c S M w=>(∃r o,c=.ret r o)∧E.J b S (fun k=>M k∨k=b1∨k=b2) w∧w.heap[b1]? = some x1∧w.heap[b2]? = some x2∧¬M b1∧¬M b2
 glob:=fun h=>E.glob h.2.1
 step:=fun {c S M w S' M' w'} ⟨h0,h1,h2,h3,h4,h5⟩ hf hM hM' hS hS'=>by
  have l1:=(Array.getElem?_eq_some_iff.1 h2).1
  have l2:=(Array.getElem?_eq_some_iff.1 h3).1
  refine ⟨h0,E.step h1 ⟨hf.os,hf.tape,hf.output,hf.size,fun k hk hn=>hf.block k hk fun h=>hn (.inl h),hf.cell⟩ (fun k h=>h.imp_left (hM k)) (fun k h=>?_) hS (fun k o h=>(hS' k o h).imp_right .inl),(hf.block b1 l1 h4).trans h2,(hf.block b2 l2 h5).trans h3,?_,?_⟩
  ·rcases h with h|h
   ·exact (hM' k h).imp_left .inl
   ·exact .inl (.inr h)
  ·intro h;rcases hM' b1 h with h|h
   ·exact h4 h
   ·omega
  ·intro h;rcases hM' b2 h with h|h
   ·exact h5 h
   ·omega
 yld:=fun {args k S M w vs} h=>by obtain ⟨⟨r,o,h⟩,_⟩:=h;cases h
theorem JQt (hw:JK1 P f g T1 T2){d x:D}(hx:∀S w v,RepD S w x v→∃p n c,v=.slice p n c)(hc:Qg P g [.leaf (.d d)] [] (.ret (.leaf (.d x)) [])) :
  Jf P f [.leaf (.d (.fn g [d]))] (.tup [(false,[.d x]),(false,[.d (.raw (.int .i64 0))])]) []:=by
 intro E S M ι w vs hin hmin hobj hdis hown htok hargs hJ
 match vs,hargs with
 |[v],⟨q0,_⟩=>
 have hv:=Jm q0
 obtain ⟨xv,rfl,hxv⟩:∃xv,v=.func (.func g) #[] #[xv]∧RepD S w d xv:=by
  cases hv with
  |fn _ _ JY hl hr=>
   match JY,hl with
   |[xv],_=>exact ⟨xv,rfl,hr 0 d xv rfl rfl⟩
 obtain ⟨t1,t2,t3,t4⟩:=JO2 w (.cells #[.slice none 0 0] T1) (.cells #[.int .i64 0] T2)
 have hcell:∀b o,S b o→((w.alloc (.cells #[.slice none 0 0] T1)).alloc (.cells #[.int .i64 0] T2)).cell? ⟨b,o,none⟩=w.cell? ⟨b,o,none⟩:=fun b o h=>World.cell?_of_block (t4 b (hin b o h))
 have n1:¬M w.heap.size:=fun h=>by have:=hmin _ h;omega
 have n2:¬M (w.heap.size+1):=fun h=>by have:=hmin _ h;omega
 have hJ1:E.J (.ret (.tup [(false,[.d x]),(false,[.d (.raw (.int .i64 0))])]) []) S (fun k=>M k∨k=w.heap.size∨k=w.heap.size+1) ((w.alloc (.cells #[.slice none 0 0] T1)).alloc (.cells #[.int .i64 0] T2)):=
  E.step hJ ⟨rfl,rfl,rfl,by omega,fun k hk _=>t4 k hk,hcell⟩ (fun _ h=>.inl h) (fun k h=>by rcases h with h|h|h<;>first|exact .inl h|(right;omega)) (fun _ _ h=>h) (fun _ _ h=>.inl h)
 have hcal:=hc (JRD E _ w.heap.size (w.heap.size+1) _ _) S M JAO _ [xv] (fun b o h=>by have:=hin b o h;omega) (fun k h=>by have:=hmin k h;omega) (fun o y h=>by cases h) (fun o o' y y' b h=>by cases h) (fun o y b h=>by cases h) (fun o h=>by cases h)
  ⟨Qc (RepD.mono (fun _ _ h=>h) hcell hxv),trivial⟩ ⟨⟨_,_,rfl⟩,hJ1,t2,t3,n1,n2⟩
 rw [callsIn_wide] at hcal
 have hres:=hw xv w (fun r w2=>∃(S':JZ) (M':J3),E.J (.ret (.tup [(false,[.d x]),(false,[.d (.raw (.int .i64 0))])]) []) S' (fun k=>M' k∨k=w.heap.size∨k=w.heap.size+1) w2∧RepD S' w2 x r∧¬M' w.heap.size∧¬M' (w.heap.size+1) ∧
   (∀b o,S b o→S' b o)∧(∀b o,S' b o→S b o∨M' b)∧(∀b o,S' b o→b<w2.heap.size)∧(∀b,M' b→b<w2.heap.size)∧w.heap.size+2≤w2.heap.size) (hcal.mono fun e w2 ⟨v,res,obs,S',M',ι',he,hl,hJ',hP⟩=>by
  obtain ⟨rfl,rfl⟩:=hl.inv
  obtain ⟨_,j1,j2,j3,j4,j5⟩:=hJ'
  have hr:=Jm hP.res
  obtain ⟨p,n,c,rfl⟩:=hx _ _ _ hr
  have:=(Array.getElem?_eq_some_iff.1 j3).1
  exact ⟨p,n,c,he,⟨S',M',j1,hr,j4,j5,hP.sub,hP.new,hP.inn,hP.minn,by omega⟩,j2,j3⟩)
 rw [←callsIn_wide] at hres
 refine hres.mono fun e w' ⟨r,w2,⟨S',M',j1,hr,j4,j5,k1,k2,k3,k4,k5⟩,he,hw'⟩=>?_
 have hne:∀b o,S' b o→b≠w.heap.size∧b≠w.heap.size+1:=fun b o h=>by
  rcases k2 b o h with h|h
  ·have:=hin b o h;omega
  ·exact ⟨fun e=>j4 (e▸h),fun e=>j5 (e▸h)⟩
 have hot:∀k,k≠w.heap.size→k≠w.heap.size+1→w'.heap[k]? = w2.heap[k]? :=fun k h1 h2=>by
  rw [hw',Below.heap_setCell _ ⟨w.heap.size+1,0,none⟩ _ k h2,Below.heap_setCell _ ⟨w.heap.size,0,none⟩ _ k h1]
 have hsz:w'.heap.size=w2.heap.size:=by rw [hw'];simp [World.setCell]
 have hc2:∀b o,S' b o→w'.cell? ⟨b,o,none⟩=w2.cell? ⟨b,o,none⟩:=fun b o h=>World.cell?_of_block (hot b (hne b o h).1 (hne b o h).2)
 refine ⟨_,_,_,S',fun k=>M' k∨k=w.heap.size∨k=w.heap.size+1,JAO,he,.ret _ _,
  E.step j1 ⟨by rw [hw'];rfl,by rw [hw'];rfl,by rw [hw'];rfl,by omega,fun k _ hn=>hot k (fun e=>hn (.inr (.inl e))) (fun e=>hn (.inr (.inr e))),hc2⟩ (fun _ h=>h) (fun _ h=>.inl h) (fun _ _ h=>h) (fun _ _ h=>.inl h),?_⟩
 exact {
  sub:=k1,new:=fun b o h=>(k2 b o h).imp_right .inl,inn:=fun b o h=>by have:=k3 b o h;omega
  minn:=fun b h=>by
   rcases h with h|h|h
   ·have:=k4 b h;omega
   ·omega
   ·omega
  res:=⟨[r,.int .i64 0],rfl,⟨_,rfl,RepD.mono (fun _ _ h=>h) hc2 hr⟩,⟨_,rfl,.raw _ rfl⟩,trivial⟩
  objs:=fun o y h=>by cases h
  dis:=fun o o' y y' b h=>by cases h
  own:=fun o y b h=>by cases h
  tok:=fun o h=>by cases h
  same:=fun o y y' h=>by cases h }
theorem JQu {pv:Value}(hw:JK2 P f g pv T1 T2 T3){d x:D}(hx:∀S w,RepD S w x (.slice none 0 0))(hc:YW P pv g [.leaf (.d d)] []) :
  Jf P f [.leaf (.d (.fn g [d]))] (.tup [(false,[.d x]),(false,[.d (.raw (.int .i64 8))])]) []:=by
 intro E S M ι w vs hin hmin hobj hdis hown htok hargs hJ
 match vs,hargs with
 |[v],⟨q0,_⟩=>
 have hv:=Jm q0
 obtain ⟨xv,rfl,hxv⟩:∃xv,v=.func (.func g) #[] #[xv]∧RepD S w d xv:=by
  cases hv with
  |fn _ _ JY hl hr=>
   match JY,hl with
   |[xv],_=>exact ⟨xv,rfl,hr 0 d xv rfl rfl⟩
 obtain ⟨t1,t2,t3,t4⟩:=JO2 w (.cells #[.slice none 0 0] T1) (.cells #[.int .i64 0] T2)
 have hcell:∀b o,S b o→((w.alloc (.cells #[.slice none 0 0] T1)).alloc (.cells #[.int .i64 0] T2)).cell? ⟨b,o,none⟩=w.cell? ⟨b,o,none⟩:=fun b o h=>World.cell?_of_block (t4 b (hin b o h))
 have n1:¬M w.heap.size:=fun h=>by have:=hmin _ h;omega
 have n2:¬M (w.heap.size+1):=fun h=>by have:=hmin _ h;omega
 have hcal:=hc E.l S M JAO _ [xv] ((E.glob hJ).step (fun _ _ h=>h) hcell) (fun b o h=>by have:=hin b o h;omega) (fun k h=>by have:=hmin k h;omega) (fun o y h=>by cases h) (fun o o' y y' b h=>by cases h) (fun o y b h=>by cases h) (fun o h=>by cases h)
  ⟨Qc (RepD.mono (fun _ _ h=>h) hcell hxv),trivial⟩
 rw [callsIn_wide] at hcal
 have hres:=hw xv w (fun w2=>Fr S M ((w.alloc (.cells #[.slice none 0 0] T1)).alloc (.cells #[.int .i64 0] T2)) w2) (hcal.mono fun e w2 ⟨he,hf⟩=>⟨he,hf,(hf.block _ (by omega) n1).trans t2,(hf.block _ (by omega) n2).trans t3⟩)
 rw [←callsIn_wide] at hres
 refine hres.mono fun e w' ⟨w2,hf,he,hw'⟩=>?_
 have hs2:w.heap.size+2≤w2.heap.size:=by have:=hf.size;omega
 have hz:((w2.setCell ⟨w.heap.size,0,none⟩ (.slice none 0 0)).setCell ⟨w.heap.size+1,0,none⟩ (.int .i64 8)).heap.size=w2.heap.size:=by simp [World.setCell]
 have hot:∀k,k<w2.heap.size→k≠w.heap.size→k≠w.heap.size+1→w'.heap[k]? = w2.heap[k]? :=fun k hk h1 h2=>by
  rw [hw']
  exact (Below.heap_alloc _ _ k (by omega)).trans (by rw [Below.heap_setCell _ ⟨w.heap.size+1,0,none⟩ _ k h2,Below.heap_setCell _ ⟨w.heap.size,0,none⟩ _ k h1])
 have hsz:w'.heap.size=w2.heap.size+1:=by
  rw [hw']
  show (World.alloc _ _).heap.size=_
  rw [World.alloc,Array.size_push,hz]
 have hold:∀k,k<w.heap.size→¬M k→w'.heap[k]? = w.heap[k]? :=fun k hk hn=>(hot k (by omega) (by omega) (by omega)).trans ((hf.block k (by omega) hn).trans (t4 k hk))
 have hc2:∀b o,S b o→w'.cell? ⟨b,o,none⟩=w.cell? ⟨b,o,none⟩:=fun b o h=>by
  have hb:=hin b o h
  exact (World.cell?_of_block (a:=⟨b,o,none⟩) (hot b (by omega) (by omega) (by omega))).trans ((hf.cell b o h).trans (hcell b o h))
 refine ⟨_,_,_,S,fun k=>M k∨(w.heap.size≤k∧k<w'.heap.size),JAO,he,.ret _ _,
  E.step hJ ⟨by rw [hw'];exact hf.os,by rw [hw'];exact hf.tape,by rw [hw'];exact hf.output,by omega,hold,hc2⟩ (fun _ h=>.inl h) (fun _ h=>h) (fun _ _ h=>h) (fun _ _ h=>.inl h),?_⟩
 exact {
  sub:=fun _ _ h=>h,new:=fun b o h=>.inl h,inn:=fun b o h=>by have:=hin b o h;omega
  minn:=fun b h=>by
   rcases h with h|h
   ·have:=hmin b h;omega
   ·omega
  res:=⟨[.slice none 0 0,.int .i64 8],rfl,⟨_,rfl,hx _ _⟩,⟨_,rfl,.raw _ rfl⟩,trivial⟩
  objs:=fun o y h=>by cases h
  dis:=fun o o' y y' b h=>by cases h
  own:=fun o y b h=>by cases h
  tok:=fun o h=>by cases h
  same:=fun o y y' h=>by cases h }
theorem JUK {S:JZ}{w:World}{v:Value}{k:Nat}{es:List (List D)}(h:RepD S w (.sl k es) v):∃p n c,v=.slice p n c:=by
 cases h<;>exact ⟨_,_,_,rfl⟩
end
end Go.Mw
namespace Go.Mw
section
variable {P:Program} {ops:Array Oper} {A A':JD} {Φ:JD→Prop}
theorem JLU {α β:Type}{R:α→β→Prop}:∀ {l:List α} {m:List β} {j:Nat} {x y:α},JO R l m→l[j]? = some x→(∀v,R x v→R y v)→JO R (l.set j y) m
 |[],_,_,_,_,_,h,_=>by simp at h
 |_::_,[],_,_,_,h,_,_=>h.elim
 |a::l,b::m,0,x,y,h,hj,hr=>by
  have:a=x:=by simpa using hj
  subst this
  exact ⟨hr _ h.1,h.2⟩
 |a::l,b::m,j+1,x,y,h,hj,hr=>⟨h.1,JLU h.2 (by simpa using hj) hr⟩
theorem Wk.nilAt {ls:List AL}{j:Nat}(k:Nat)(hj:ls[j]? = some (.d (.raw (.slice none 0 0)))):Wk (.val true ls) (.val true (ls.set j (.d (.sl k [])))):=by
 intro S ι H w v h
 obtain ⟨vs,hv,ha⟩:=h
 exact ⟨vs,hv,JLU ha hj fun u hu=>by cases hu;exact RepD.nil k none 0⟩
theorem JA.nildA {l:List Oper}(s j k:Nat){ls:List AL}(hs:A.get s=.val true ls)(hj:ls[j]? = some (.d (.raw (.slice none 0 0))))(hp:A.put [.slot s (.val true (ls.set j (.d (.sl k []))))]=A')(h':JA P ops Φ l A'):JA P ops Φ l A:=
 .ghost (JN.wk _ (by rw [hs];exact Wk.nilAt k hj)) (hp▸h')
theorem JA.nilc {l:List Oper}(q j o:Nat)(e:TypeId)(k:Nat){ls:List AL}(hq:A.obj q=some (.cells ls))(hj:ls[j]? = some (.d (.raw (.slice none 0 0))))(ho:A.obj o=none)(hk:0<k)(hN:1000≤o)
  (hp:A.put [.obj o (.arr e k []),.obj q (.cells (ls.set j (.own o 0 0 0)))]=A') (h':JA P ops Φ l A'):JA P ops Φ l A:=.ghost (JN.nilc A q j o e k hq hj ho hk hN) (hp▸h')
end
end Go.Mw
namespace Go
structure Fx (p:Prop):Prop where
 h:p
theorem Fx.a {p q:Prop}(x:Fx p)(h:q):Fx (p∧q):=⟨x.h,h⟩
end Go
namespace Go.Mw
open Go.RowKit
section pins
variable {P:Program} {ops:Array Oper} {A A':JD} {C:Ctx P} {S:JZ} {M:J3} {ι:Nat→Value} {a:Act} {w:World} {Φ:JD→Prop}
theorem JSl (o:Nat):QY ι A o w w:=⟨rfl,rfl,rfl,Nat.le_refl _,fun _ _ _=>rfl⟩
theorem Jb.pin (hR:Jb C S M ι A a w){G:Nat}{u:Value}{l:AL}(hG:(A.obj G=none∧1000≤G)∨∃v l',A.obj G=some (.pin v l'))(hl:Ja S ι A.obj w l u) :
  Jb C S (grow M w w) (upd ι G undef) (A.put [.obj G (.pin u l)]) a w:=by
 have hpin:A.obj G=none→C.pin G=none:=fun hn=>by
  rcases hG with ⟨_,hN⟩|⟨v,l',h⟩
  ·cases hp:C.pin G with
   |none=>rfl
   |some q=>have:=hR.pinN G (by rw [hp];simp);omega
  ·rw [h] at hn;cases hn
 have ht:Qa ι A G (.pin u l) undef:=by
  rcases hG with ⟨hn,_⟩|⟨v,l',h⟩
  ·exact JAf hn _ _
  ·unfold Qa
   rw [h]
   exact ⟨rfl,(hR.objs G _ h).1.symm⟩
 have hon:QY ι A G w w:=JSl G
 exact hR.chg hon ht ⟨upd_same ..,(hon.mv hR ht).l hl⟩ (fun b hb=>by simp [blk,undef] at hb) (by simp) hpin
theorem JN.unpinS {G d:Nat}{v:Value}{l:AL}(hG:A.obj G=some (.pin v l))(hs:A.get d=.leaf (.d (.raw v))):JN A (A.put [.slot d (.leaf l)]):=by
 intro P C a w ⟨S,M,ι,hR⟩
 obtain ⟨_,hp⟩:=hR.objs G _ hG
 refine ⟨S,M,ι,hR.sub,hR.new,hR.inn,hR.minn,hR.sz,fun s=>?_,hR.objs,hR.dis,hR.own,hR.env,hR.tok,hR.fixed,hR.marks,hR.rdok,hR.pinned,hR.pinN⟩
 by_cases hq:s=d
 ·subst hq
  have h1:(A.put [.slot s (.leaf l)]).get s=.leaf l:=by simp [JD.put,JD.put1,JD.get,look]
  rw [h1]
  have h2:=hR.tms s
  rw [hs] at h2
  have h3:=Qd (Jm h2)
  rw [h3]
  exact ⟨l,rfl,hp⟩
 ·have h1:(A.put [.slot d (.leaf l)]).get s=A.get s:=by simp [JD.put,JD.put1,JD.get,look,hq]
  rw [h1];exact hR.tms s
theorem YE.pin {o:Oper}{d G:Nat}{v:Value}{l:AL}{rs:List Loc}(hw:Jv ops o.guard A=some true)(h:(QE P o.op o.dst).run A (Qj ops o)=some (rs,[.slot d (.leaf (.d (.raw v)))]))(hG:A.obj G=some (.pin v l)) :
  YE P ops o A (Qj ops o++(rs++[.obj G])) [.slot d (.leaf l)]:=by
 refine .sem (rs++[.obj G]) _ hw fun B hB C a w Q hd hR=>?_
 have h2:YE P ops o B rs [.slot d (.leaf (.d (.raw v)))]:=(YE.eff rs _ hw h).agree fun l hl=>hB l Ze
 have hG':B.obj G=some (.pin v l):=(hB (.obj G) (by simp)).trans hG
 have hwB:Jv ops o.guard B=some true:=(JBg fun l hl=>hB l (by simp [Ev.run_acc _ _ h l hl])).trans hw
 have h3:=JB3 (Q:=Q) (K:=fun a' w'=>J7 C (B.put [.slot d (.leaf l)]) a' w') hR hd h2 fun a' w' h4=>by
  have hg:=JN.unpinS (A:=B.put [.slot d (.leaf (.d (.raw v)))]) (G:=G) (d:=d) (v:=v) (l:=l) hG' (by simp [JD.put,JD.put1,JD.get,look])
  have hsm:Same ((B.put [.slot d (.leaf (.d (.raw v)))]).put [.slot d (.leaf l)]) (B.put [.slot d (.leaf l)]):=⟨fun l'=>?_,rfl⟩
  ·exact JKB hsm (hg P C a' w' h4)
  cases l' with
  |slot s=>
   show (B.put [.slot d (.leaf l)]).get s=((B.put [.slot d (.leaf (.d (.raw v)))]).put [.slot d (.leaf l)]).get s
   by_cases hs:s=d<;>simp [JD.put,JD.put1,JD.get,look,hs]
  |obj q=>rfl
 obtain ⟨S,M,ι,hRL⟩:=hR
 rw [if_pos (ZY hRL hwB)] at h3
 exact h3
theorem JUE {o:Oper}{s G T n:Nat}{K:JD→Prop}(hs:A.get s=.leaf (.own T 0 n n))(hG:(A.obj G=none∧1000≤G)∨∃v l',A.obj G=some (.pin v l'))
  (hw:∀u,Jv ops o.guard (A.put [.slot s (.leaf (.d (.raw u))),.obj G (.pin u (.own T 0 n n))])=some true)
  (h:∀u,∃rs ws,JAR P ops o (A.put [.slot s (.leaf (.d (.raw u))),.obj G (.pin u (.own T 0 n n))])=some (rs,ws)∧K ((A.put [.slot s (.leaf (.d (.raw u))),.obj G (.pin u (.own T 0 n n))]).put ws)):JEc P o A K:=by
 intro C a w Q hd ⟨S,M,ι,hR⟩
 have h1:=hR.tms s
 rw [hs] at h1
 have h2:Ja S ι A.obj w (.own T 0 n n) (a.tmps.getD s undef):=Jm h1
 generalize hu:a.tmps.getD s undef=u at h1 h2
 have hone:u.oneCell'=true:=h2.1
 have hR1:Jb C S M ι (A.put [.slot s (.leaf (.d (.raw u)))]) a w:=by
  refine ⟨hR.sub,hR.new,hR.inn,hR.minn,hR.sz,fun q=>?_,hR.objs,hR.dis,hR.own,hR.env,hR.tok,hR.fixed,hR.marks,hR.rdok,hR.pinned,hR.pinN⟩
  by_cases hq:q=s
  ·subst hq
   have e:(A.put [.slot q (.leaf (.d (.raw u)))]).get q=.leaf (.d (.raw u)):=by simp [JD.put,JD.put1,JD.get,look]
   rw [e,hu]
   exact ⟨_,rfl,RepD.raw u hone⟩
  ·have e:(A.put [.slot s (.leaf (.d (.raw u)))]).get q=A.get q:=by simp [JD.put,JD.put1,JD.get,look,hq]
   rw [e];exact hR.tms q
 have hR2:=hR1.pin (G:=G) (u:=u) (l:=.own T 0 n n) hG h2
 obtain ⟨rs,ws,h3,h4⟩:=h u
 have h5:=JB3 (ops:=ops) (Q:=Q) (K:=fun a' w'=>∃A',K A' ∧ J7 C A' a' w') ⟨_,_,_,hR2⟩ hd (JKb h3) fun a' w' hR'=>⟨_,h4,hR'⟩
 rw [if_pos (ZY hR2 (hw u))] at h5
 exact h5
def JKz (P:Program)(ops:Array Oper)(n p:Nat)(o:Oper)(Ψ:JD→Prop)(fs:List Fp)(B:JD):Prop:=
 (decide (fs.length=p)&&(down ops&&(List.range p).all fun i=>Qq ops n p i))=true∧Y0 ops n ((List.range p).zip fs)=true∧Jv ops o.guard B=some true∧∃K,JEc P o B K∧∀B',K B' → Ψ B'
end pins
end Go.Mw
namespace Go.Mw
section
variable {P:Program} {ops:Array Oper} {A A':JD}
theorem JKz.pin {n p s G T m:Nat}{o:Oper}{Ψ:JD→Prop}{fs:List Fp}{B:JD}{rs:Value→List Loc}{ws:Value→List Wr}{F:Value→JD}(hl:(decide (fs.length=p)&&(down ops&&(List.range p).all fun i=>Qq ops n p i))=true)(ho:Y0 ops n ((List.range p).zip fs)=true)
  (hw:Jv ops o.guard B=some true) (hs:B.get s=.leaf (.own T 0 m m)) (hG:(B.obj G=none∧1000≤G)∨∃v l',B.obj G=some (.pin v l'))
  (hw2:∀u,Jv ops o.guard (B.put [.slot s (.leaf (.d (.raw u))),.obj G (.pin u (.own T 0 m m))])=some true)
  (h:∀u,JAR P ops o (B.put [.slot s (.leaf (.d (.raw u))),.obj G (.pin u (.own T 0 m m))])=some (rs u,ws u))
  (hF:∀u,(B.put [.slot s (.leaf (.d (.raw u))),.obj G (.pin u (.own T 0 m m))]).put (ws u)=F u) (h':∀u,Ψ (F u)):JKz P ops n p o Ψ fs B:=
 ⟨hl,ho,hw,fun B'=>∃u,B'=F u,JUE hs hG hw2 fun u=>⟨rs u,ws u,h u,u,hF u⟩,fun B' ⟨u,hu⟩=>hu▸h' u⟩
end
end Go.Mw
namespace Go.Mw
open Go.RowKit
section byt
variable {P:Program} {ops:Array Oper} {A A':JD} {d:Nat}
end byt
end Go.Mw

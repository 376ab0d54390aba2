/- Calls that are lent several objects; values of which less is known; no condition but those in each. -/
import Derived.Test.YtpmdcdglfeicaaaGreatDoorD1
import Derived.Test.YtpmdcdglfeicaaaGreatDoorB3
import Derived.Laws.Strings
import Derived.Below
import Derived.Lib.AppendStr
import Derived.Lib.Builder
import Derived.Lib.UnsafeStr
import Derived.Laws.Externs
import Derived.Laws.IdiomStrings
import Derived.Laws.BytesArg
import Derived.Lib.BufferMore
set_option linter.unusedSimpArgs false
set_option linter.unusedVariables false
set_option linter.unusedSectionVars false
set_option linter.deprecated false
namespace Go.Mw
open Go.RowKit
def FLe (l l':FL):Prop:=l'=l∨l'=.dead
theorem JR7 {S:Jd}{ι:Nat→Value}{H:Nat→Option AO}{w:World}{fs fs':List FL}{v:Value}(h:JR FLe (fs.take fs'.length) fs')(hr:Jh S ι H w (.fpt fs) v):Jh S ι H w (.fpt fs') v:=by
 obtain ⟨b,off,rfl,hf⟩:=hr
 refine ⟨b,off,rfl,fun j f hj=>?_⟩
 obtain ⟨g,hg,hle⟩:=h.get2 hj
 rw [List.getElem?_take] at hg
 split at hg
 ·obtain ⟨h1,u,h2,h3⟩:=hf j g hg
  refine ⟨h1,u,h2,?_⟩
  rcases hle with rfl|rfl
  ·exact h3
  ·exact ZX.one S ι H w h3
 ·cases hg
theorem Jj.fptW {r:Nat→Nat}{ns:List Nat}{fs fs':List FL}(hi:fs'.all (FL.inn ns)=true)(h:JR FLe (fs.take fs'.length) (fs'.map (FL.ren r))):Jj r ns (.leaf (.fpt fs)) (.leaf (.fpt fs')):=by
 refine ⟨?_,fun S ι H w v ⟨l,hl,hr⟩=>?_⟩
 ·show [AL.fpt fs'].all (AL.inn ns)=true
  simp only [List.all_cons,List.all_nil,Bool.and_true]
  exact hi
 ·simp at hl;subst hl
  exact ⟨_,rfl,JR7 JAM hr⟩
def JDa (r:Nat→Nat):List (Nat × AO)→List (Nat × AO)
 |[]=>[]
 |p::l=>(r p.1,p.2.ren r)::JDa r l
theorem JN2 (r:Nat→Nat):∀l:List (Nat × AO),JDa r l=l.map fun p=>(r p.1,p.2.ren r)
 |[]=>rfl
 |p::l=>by rw [JDa,JN2 r l];rfl
@[go_sem] theorem JYm (r:Nat→Nat):JDa r []=[]:=rfl
@[go_sem] theorem JYl (r:Nat→Nat)(q:Nat)(x:AO)(l:List (Nat × AO)):JDa r ((q,x)::l)=(r q,x.ren r)::JDa r l:=rfl
@[go_sem ↓] theorem JWn (A:JE)(d:Nat)(r:Nat→Nat)(res:AV)(obs:List (Nat × AO))(b:Jg):after A d r res obs b=⟨(d,res.ren r)::A.tm,JDa r obs++A.ob,b⟩:=by
 rw [JN2];rfl
section
variable {P:Program} {ops:Array Oper} {Φ:JE→Prop} {r:List Oper} {A A':JE}
theorem JLx {B:Nat}{lend:List (Nat × Nat)}{pre obs:List (Nat × AO)}{res:AV}(hdom:lend.map Prod.fst=pre.map Prod.fst)(hinj:(lend.map Prod.snd).Nodup)(hin:pre.all (fun p=>p.2.inn (Qh pre))=true)
  (hob:∀p∈pre,∀n,look lend p.1=some n→A.obj n=some (p.2.ren (rn lend B))) (hback:∀p∈pre,∃x',look obs p.1=some x' ∧ Z5 p.2 x') (hnew:∀p∈obs,look lend p.1=none→A.obj (B+p.1)=none) (htg:(lend.all fun p=>ZG (p.2%1000)==ZG (p.1%1000))=true:=by rfl):Z6 A B lend pre (.ret res obs):=by
 have h0:Z6 A B lend pre (yB [] (JJ7 pre)):=JRT hdom hinj hin hob htg
 refine ⟨h0.lent,h0.only,h0.inj,h0.tag,fun res' obs' hl=>?_⟩
 obtain ⟨rfl,rfl⟩:=hl.inv
 exact ⟨fun q x hx=>hback _ (JBV hx),fun q x' hx hn=>hnew _ (JBV hx) hn⟩
theorem JA.lendG {d:Nat}{f:Operand}{as:List Operand}{tys:Array TypeId}{ty:TypeId}{pos:String}{af:Array Edge}{gd:Option (Nat × Bool)}{g:FuncId}{caps:List AL}{args:List AV}{pre obs:List (Nat × AO)}{res:AV}{vs:List AV}(lend:List (Nat × Nat))
  (hw:J3 ops gd A=some true) (hcon:Qr P g args pre (.ret res obs)) (hcan:JN P g=true) (hf:JDn A (A.ev f) g caps) (hv:as.map A.ev=vs) (hwk:JR (Jj (rn lend (1000*(d+1))) (Qh pre)) (vs++caps.map .leaf) args)
  (hdom:lend.map Prod.fst=pre.map Prod.fst) (hinj:(lend.map Prod.snd).Nodup) (hin:pre.all (fun p=>p.2.inn (Qh pre))=true)
  (hob:∀p∈pre,∀n,look lend p.1=some n→A.obj n=some (p.2.ren (rn lend (1000*(d+1))))) (hback:∀p∈pre,∃x',look obs p.1=some x' ∧ Z5 p.2 x') (hnew:∀p∈obs,look lend p.1=none→A.obj (1000*(d+1)+p.1)=none)
  (hp:after A d (rn lend (1000*(d+1))) res obs A.bh=A') (h':JA P ops Φ r A') (htg:(lend.all fun p=>ZG (p.2%1000)==ZG (p.1%1000))=true:=by rfl) :
  JA P ops Φ (⟨some d,.call { callee:=.value f,args:=as.toArray,argTypes:=tys },ty,pos,af,gd⟩::r) A:=
 .cally (f:=f) (as:=as) (κ:=fun _ _=>A.bh) rfl hw (by simp [Ym]) hf hcan (by rw [hv];exact hwk) hcon (JLx hdom hinj hin hob hback hnew htg) rfl fun res' obs' hl=>by
  obtain ⟨rfl,rfl⟩:=hl.inv
  exact hp▸h'
end
end Go.Mw
namespace Go.Mw
open Go.RowKit
def AL.frs (o:Nat)(ds:List D):AL→AL
 |.csl q i n=>if q=o then (if i+n≤ds.length then .d (.sl 1 (((ds.drop i).take n).map fun x=>[x])) else .dead) else .csl q i n
 |.ptr q i=>if q=o then .dead else .ptr q i
 |l=>l
def JE.frs (A:JE)(o:Nat):JE:=match A.obj o with
 |some (.cells ls)=>match J5 ls with
  |some ds=>A.settle o (AL.frs o ds)
  |none=>A
 |_=>A
theorem JO.frs (A:JE)(o:Nat):JO A (A.frs o):=by
 unfold JE.frs
 split
 ·rename_i ls ho
  split
  case h_2=>exact JO.refl A
  rename_i ds hp
  refine JO.settle A o _ ho _ ds.length id (fun f=>by cases f<;>rfl) (fun fs=>by simp [AL.frs]) fun S S' ι w H' hok hS hT hH l v hne h=>?_
  obtain ⟨b,vs,el,hι,hheap,hall,_⟩:=hok
  have h1:=Jh.one S ι A.obj w h
  have hd:∀x v,RepD S w x v→RepD S' w x v:=fun x v h=>RepD.mono (S':=S') (w:=w) (w':=w) hS (fun _ _ _=>rfl) h
  have hds:=JDZ hp hall
  cases l with
  |d x=>exact hd _ _ h
  |ptr q i=>
   simp only [AL.frs]
   split
   ·exact h1
   ·rename_i hqo
    obtain ⟨ls0,b',hq,hι',hv⟩:=h
    exact ⟨_,b',hH q _ hq hqo,hι',hv⟩
  |eptr q i j t=>
   obtain ⟨_,e',k',es',hq,hv⟩:=h
   have hqo:q≠o:=fun e=>by rw [e,ho] at hq;cases hq
   exact ⟨h1,e',k',es',hH q _ hq hqo,hv⟩
  |own q i n t=>
   obtain ⟨_,e',k',es',hq,hv⟩:=h
   have hqo:q≠o:=fun e=>by rw [e,ho] at hq;cases hq
   exact ⟨h1,e',k',es',hH q _ hq hqo,hv⟩
  |obj q=>
   obtain ⟨_,hv,x,hq,hx⟩:=h
   have hqo:q≠o:=fun e=>by rw [e,ho] at hq;cases hq;cases hx
   exact ⟨h1,hv,_,hH q _ hq hqo,by cases x<;>first|rfl|simp [AO.whole] at hx⟩
  |fpt fs=>exact absurd rfl (hne fs)
  |csl q i n=>
   simp only [AL.frs]
   split
   ·rename_i hqo
    have hqo:=hqo.symm
    subst hqo
    obtain ⟨ls0,b',c',hq,hι',rfl,hnc⟩:=h
    have hnc:=Nat.le_of_eq hnc
    rw [hι] at hι'
    simp only [Value.pointer.injEq,Option.some.injEq,Addr.mk.injEq,and_true] at hι'
    subst hι'
    split
    ·rename_i hin
     have hlen:(((ds.drop i).take n).map fun x=>[x]).length=n:=by simp;omega
     have key:∀(j q:Nat) (y:List D) (d:D),(((ds.drop i).take n).map fun x=>[x])[j]? = some y→y[q]? = some d→q=0∧ds[i+j]? = some d:=by
      intro j q y d hy hq
      rw [List.getElem?_map,List.getElem?_take] at hy
      split at hy
      ·rw [List.getElem?_drop] at hy
       cases hx:ds[i+j]? with
       |none=>simp [hx] at hy
       |some x=>
        simp only [hx,Option.map_some,Option.some.injEq] at hy
        subst hy
        cases q with
        |zero=>simp only [List.getElem?_cons_zero,Option.some.injEq] at hq;subst hq;exact ⟨rfl,rfl⟩
        |succ q=>simp at hq
      ·cases hy
     have:=RepD.sl (S:=S') (w:=w) 1 (((ds.drop i).take n).map fun x=>[x]) b i c' (fun j q=>vs.getD (i+j) undef) (by rw [hlen];exact hnc)
      (fun j y hy=>by
       obtain ⟨x,_,rfl⟩:=List.mem_map.1 (List.mem_of_getElem? hy)
       rfl)
      (fun j y q d hy hq=>by
       obtain ⟨rfl,hx⟩:=key j q y d hy hq
       have:=(List.getElem?_eq_some_iff.1 hx).1
       exact hT b _ (by rw [hι];rfl) (by omega))
      (fun j y q d hy hq=>by
       obtain ⟨rfl,hx⟩:=key j q y d hy hq
       obtain ⟨v,hv,_⟩:=hds.get' hx
       rw [show i+j*1+0=i+j by omega,JEG (H:=A.obj) hheap]
       simp [List.getD,hv])
      (fun j y q d hy hq=>by
       obtain ⟨rfl,hx⟩:=key j q y d hy hq
       obtain ⟨v,hv,hr⟩:=hds.get' hx
       have e:vs.getD (i+j) undef=v:=by simp [List.getD,hv]
       rw [e];exact hd _ _ hr)
     rw [hlen] at this
     exact this
    ·exact h1
   ·rename_i hqo
    obtain ⟨ls0,b',c',hq,hι',hv⟩:=h
    exact ⟨_,b',c',hH q _ hq hqo,hι',hv⟩
  |dead=>exact h
 ·exact JO.refl A
def JI3 (tm:List (Nat × AV))(ob:List (Nat × AO))(bh:Jg)(o:Nat):Option AO→JE
 |some (.cells ls)=>match J5 ls with
  |some ds=>⟨JBv (AL.frs o ds) tm,JBB o (AL.frs o ds) ob,bh⟩
  |none=>⟨tm,ob,bh⟩
 |_=>⟨tm,ob,bh⟩
attribute [go_sem] JI3 AL.frs
@[go_sem] theorem JYN (tm:List (Nat × AV))(ob:List (Nat × AO))(bh:Jg)(o:Nat):(JE.mk tm ob bh).frs o=JI3 tm ob bh o (look ob o):=by
 unfold JE.frs
 simp only [JE.obj,JE.settle]
 cases h:look ob o with
 |none=>rfl
 |some x=>cases x<;>first|rfl|(rename_i ls;cases hp:J5 ls<;>simp [JI3,hp])
theorem JA.frs {P:Program}{ops:Array Oper}{Φ:JE→Prop}{A A':JE}{l:List Oper}(o:Nat)(hp:A.frs o=A')(h':JA P ops Φ l A'):JA P ops Φ l A:=.ghost (JO.frs A o) (hp▸h')
end Go.Mw
namespace Go.Mw
open Go.RowKit
def Env.oth {P:Program}(E:Env P)(b0:Jg):Env P where
 l:=E.l
 J b S M w:=(∃r o,b=.ret r o)∧E.J b0 S M w
 glob:=fun h=>E.glob h.2
 step:=fun ⟨h1,h2⟩ hf hM hN hS hT=>⟨h1,E.step h2 hf hM hN hS hT⟩
 yld:=fun ⟨⟨_,_,h⟩,_⟩ _=>by cases h
theorem Ja.gho {P:Program}{g:FuncId}{args:List AV}{res res':AV}{obs obs':List (Nat × AO)}(h:Ja P g args res obs)
  (hgo:JO ⟨[(0,res)],obs,.ret res' obs'⟩ ⟨[(0,res')],obs',.ret res' obs'⟩):Ja P g args res' obs':=by
 intro E S M ι w vs hin hmin hobj hdis hown htok hargs hJ
 refine (h (E.oth (.ret res' obs')) S M ι w vs hin hmin hobj hdis hown htok hargs ⟨⟨_,_,rfl⟩,hJ⟩).mono fun e w' ⟨v,res1,obs1,S',M',ι',he,hl,⟨_,hJ'⟩,hp⟩=>?_
 obtain ⟨rfl,rfl⟩:=Jg.Leaf.inv hl
 let C:Ctx P:=⟨E,S,1,fun _=>none,none,fun _=>none,by omega⟩
 have hR:Jf C S' M' ι' ⟨[(0,res1)],obs1,.ret res' obs'⟩ { tmps:=#[v],defers:=[] } w':={
  sub:=hp.sub,new:=hp.new,inn:=hp.inn,minn:=hp.minn
  sz:=rfl
  tms:=fun s=>by
   cases s with
   |zero=>exact hp.res
   |succ s=>trivial
  objs:=hp.objs,dis:=hp.dis,own:=hp.own
  env:=hJ'
  tok:=hp.tok
  fixed:=fun s v h=>by cases h
  marks:=⟨[],rfl,List.nodup_nil,by simp⟩
  rdok:=fun l r h=>by cases h
  pinned:=fun q u n x h=>by cases h
  pinN:=fun q h=>absurd rfl h }
 obtain ⟨S2,M2,ι2,hR2⟩:=hgo P C _ w' ⟨S',M',ι',hR⟩
 exact ⟨v,res',obs',S2,M2,ι2,he,.ret _ _,hR2.env,{
  sub:=hR2.sub,new:=hR2.new,inn:=hR2.inn,minn:=hR2.minn
  res:=hR2.tms 0
  objs:=hR2.objs,dis:=hR2.dis,own:=hR2.own,tok:=hR2.tok
  same:=fun o x x' h=>by cases h }⟩
theorem Ja.weak {P:Program}{g:FuncId}{args:List AV}{res res':AV}{obs:List (Nat × AO)}(h:Ja P g args res obs)(hw:Wk res res'):Ja P g args res' obs:=by
 intro E S M ι w vs hin hmin hobj hdis hown htok hargs hJ
 refine (h (E.oth (.ret res' obs)) S M ι w vs hin hmin hobj hdis hown htok hargs ⟨⟨_,_,rfl⟩,hJ⟩).mono fun e w' ⟨v,res1,obs1,S',M',ι',he,hl,⟨_,hJ'⟩,hp⟩=>?_
 obtain ⟨rfl,rfl⟩:=Jg.Leaf.inv hl
 exact ⟨v,res',obs1,S',M',ι',he,.ret _ _,hJ',{ hp with res:=hw _ _ _ _ _ hp.res }⟩
/-! Steps whose plain parts are found by the step itself. -/
theorem JA.o1 {P:Program}{ops:Array Oper}{Φ:JE→Prop}{A A':JE}{r:List Oper}{o:Oper}{rs:List Loc}{ws:List Wr}(h:JAZ P ops o A=some (rs,ws))(h':JA P ops Φ r A')(hp:A.put ws=A':=by simp only [go_sem]<;>rfl):JA P ops Φ (o::r) A:=.op h hp h'
theorem JA.o {P:Program}{ops:Array Oper}{Φ:JE→Prop}{A A':JE}{r:List Oper}{o:Oper}{rs:List Loc}{ws:List Wr}(h':JA P ops Φ r A')(h:JAZ P ops o A=some (rs,ws):=by simp only [go_sem]<;>rfl)(hp:A.put ws=A':=by simp only [go_sem]<;>rfl):JA P ops Φ (o::r) A:=.op h hp h'
theorem JF.o1 {P:Program}{ops:Array Oper}{A A':JE}{acc:List Fp}{K:List Fp→JE→Prop}{r:List (Oper × Nat)}{i:Nat}{o:Oper}{rs:List Loc}{ws:List Wr}{wl:List Loc}(h:JAZ P ops o A=some (rs,ws))(h':JF P ops r A' (⟨rs,wl⟩::acc) K)
  (hp:A.put ws=A':=by simp only [go_sem]<;>rfl) (hw:YP ws=wl:=by simp only [go_sem]<;>rfl):JF P ops ((o,i)::r) A acc K:=.op h hp hw h'
theorem JF.o {P:Program}{ops:Array Oper}{A A':JE}{acc:List Fp}{K:List Fp→JE→Prop}{r:List (Oper × Nat)}{i:Nat}{o:Oper}{rs:List Loc}{ws:List Wr}{wl:List Loc}(h':JF P ops r A' (⟨rs,wl⟩::acc) K)
  (h:JAZ P ops o A=some (rs,ws):=by simp only [go_sem]<;>rfl) (hp:A.put ws=A':=by simp only [go_sem]<;>rfl) (hw:YP ws=wl:=by simp only [go_sem]<;>rfl):JF P ops ((o,i)::r) A acc K:=.op h hp hw h'
section
variable {P:Program} {ops:Array Oper} {Φ:JE→Prop} {A A':JE} {r:List Oper}
theorem JA.s {dst:Nat}{op:Op}{ty:TypeId}{pos:String}{af:Array Edge}{g:Nat × Bool}(h':JA P ops Φ r A')(hw:J3 ops (some g) A=some false:=by simp only [go_sem]<;>rfl)(hp:A.put [.slot dst (.tup [])]=A':=by simp only [go_sem]<;>rfl) :
  JA P ops Φ (⟨some dst,op,ty,pos,af,some g⟩::r) A:=.skp hw hp h'
theorem JA.y1 {dst:Option Nat}{op:Op}{ty:TypeId}{pos:String}{af:Array Edge}{g:Nat × Bool}{rs:List Loc}{ws:List Wr}
  (h:(Qd P op dst).run A (Qo ops ⟨dst,op,ty,pos,af,some g⟩)=some (rs,ws)) (h':JA P ops Φ r A') (hw:J3 ops (some g) A=some true:=by simp only [go_sem]<;>rfl) (hp:A.put ws=A':=by simp only [go_sem]<;>rfl) :
  JA P ops Φ (⟨dst,op,ty,pos,af,some g⟩::r) A:=.yes hw h hp h'
theorem JA.c1 {d:Nat}{g:FuncId}{as:List Operand}{tys:Array TypeId}{ty:TypeId}{pos:String}{af:Array Edge}{args:List AV}{res:AV}{obs:List (Nat × AO)}{vs:List AV}
  (hc:Ja P g args res obs) (hv:as.map A.ev=vs)
  (hp:A.put (obs.reverse.map (fun p=>.obj (1000*(d+1)+p.1) (p.2.ren (1000*(d+1) + ·)))++[.slot d (res.ren (1000*(d+1) + ·))])=A') (h':JA P ops Φ r A')
  (hcan:JN P g=true:=by simp only [go_sem])
  (hwk:JR (Jj (rn [] (1000*(d+1))) []) vs args:=by repeat (first|exact trivial|refine ⟨by first|exact Jj.pure rfl|exact Jj.nil _|exact Jj.int (by first|omega|(simp;done)|(simp;omega)),?_⟩))
  (hfr:∀q x,look obs q=some x→A.obj (1000*(d+1)+q)=none:=by exact Qm) :
  JA P ops Φ (⟨some d,.call { callee:=.value (.func g),args:=as.toArray,argTypes:=tys },ty,pos,af,none⟩::r) A:=.cal hc hcan hv hwk hfr hp h'
end
section
variable {P:Program} {ops:Array Oper} {A A':JE} {acc:List Fp} {K:List Fp→JE→Prop} {r:List (Oper × Nat)}
theorem JF.y1 {i:Nat}{dst:Option Nat}{op:Op}{ty:TypeId}{pos:String}{af:Array Edge}{g:Nat × Bool}{rs:List Loc}{ws:List Wr}{wl:List Loc}
  (h:(Qd P op dst).run A (Qo ops ⟨dst,op,ty,pos,af,some g⟩)=some (rs,ws)) (h':JF P ops r A' (⟨rs,wl⟩::acc) K) (hw:J3 ops (some g) A=some true:=by simp only [go_sem]<;>rfl) (hp:A.put ws=A':=by simp only [go_sem]<;>rfl) (hl:YP ws=wl:=by simp only [go_sem]<;>rfl) :
  JF P ops ((⟨dst,op,ty,pos,af,some g⟩,i)::r) A acc K:=.yes hw h hp hl h'
theorem JF.s {i dst:Nat}{op:Op}{ty:TypeId}{pos:String}{af:Array Edge}{g:Nat × Bool}{rs:List Loc}(h':JF P ops r A' (⟨rs,[.slot dst]⟩::acc) K)(hw:J3 ops (some g) A=some false:=by simp only [go_sem]<;>rfl)
  (hr:Qo ops ⟨some dst,op,ty,pos,af,some g⟩=rs:=by simp only [go_sem]<;>rfl) (hp:A.put [.slot dst (.tup [])]=A':=by simp only [go_sem]<;>rfl):JF P ops ((⟨some dst,op,ty,pos,af,some g⟩,i)::r) A acc K:=.skp hw hr hp h'
end
end Go.Mw
namespace Go.Mw
open Go.RowKit
section
variable {P:Program} {ops:Array Oper} {A A':JE} {acc:List Fp} {K:List Fp→JE→Prop} {r:List (Oper × Nat)} {Φ:JE→Prop}
theorem JRR {A:JE}{B:Nat}{res:AV}:Z6 A B [] [] (.ret res []):=
 ⟨fun q x h=>by simp [look] at h,fun q n h=>by simp [look] at h,fun q q' n h=>by simp [look] at h,fun q n ls h=>by simp [look] at h,fun res' obs' hlf=>by
  obtain ⟨rfl,rfl⟩:=hlf.inv
  exact ⟨fun q x h=>by simp [look] at h,fun q x h=>by simp [look] at h⟩⟩
theorem JF.inv {i d:Nat}{recv:Operand}{name:String}{t:TypeId}{ag:Bool}{ds:List D}{g:FuncId}{as:List Operand}{tys:Array TypeId}{ty:TypeId}{pos:String}{af:Array Edge}{gd:Option (Nat × Bool)}{args:List AV}{res:AV}{vs:List AV}{rs wl:List Loc}
  (hwt:J3 ops gd A=some true) (hc:Ja P g args res []) (hf:A.ev recv=.leaf (.d (.ifc t ag ds))) (hmeth:JBW P t name=some g) (hcan:JN P g=true) (hv:as.map A.ev=vs) (hwk:JR (Jj (rn [] (1000*(d+1))) []) (.val ag (ds.map .d)::vs) args)
  (hp:A.put [.slot d (res.ren (rn [] (1000*(d+1))))]=A')
  (hr:Qo ops ⟨some d,.call { callee:=.invoke recv name,args:=as.toArray,argTypes:=tys },ty,pos,af,gd⟩++YJ (recv::as)=rs)
  (hw:YP [.slot d (res.ren (rn [] (1000*(d+1))))]=wl)
  (h':JF P ops r A' (⟨rs,wl⟩::acc) K):JF P ops ((⟨some d,.call { callee:=.invoke recv name,args:=as.toArray,argTypes:=tys },ty,pos,af,gd⟩,i)::r) A acc K:=
 .cons (fun ho _ _ hrun=>⟨_,_,ho,by
  have:=YU.sem (P:=P) (ops:=ops) (o:=⟨some d,.call { callee:=.invoke recv name,args:=as.toArray,argTypes:=tys },ty,pos,af,gd⟩) (A:=A) (YJ (recv::as)) [.slot d (res.ren (rn [] (1000*(d+1))))] hwt (fun B hB C a w Q hd hR=>by
   have ef:B.ev recv=A.ev recv:=JBq fun l hl=>hB l JAp
   have eas:as.map B.ev=as.map A.ev:=JCt fun l hl=>hB l JAp
   obtain ⟨S,M,ι,hR⟩:=hR
   refine Oper.wpIn_mono (fun a' w' h=>?_) (JOf (lend:=[]) (pre:=[]) (b:=.ret res []) (κ:=fun _ _=>B.bh) hR hd rfl rfl (ef.trans hf) hmeth hcan (by rw [show as.toArray.toList=as from rfl,eas,hv];exact hwk) hc JRR rfl Q)
   obtain ⟨res',obs',hl,hR'⟩:=h
   obtain ⟨e1,e2⟩:=hl.inv
   subst e1 e2
   exact hR')
  rw [hr] at this
  exact this,hw.symm,hp▸hrun⟩) h'
end
theorem Ql {α:Type}{a b:α}(h:a=b:=by repeat' (first|with_reducible_and_instances rfl|refine Q8 ?_ ?_ ?_|refine Q7 ?_|refine YN ?_|refine Q9 ?_ ?_|refine Q2 ?_|refine Q3 ?_|refine YO ?_|refine Q6 ?_ ?_|refine YK ?_ ?_|refine YM ?_|refine YH ?_|(refine Q4 ?_;omega))):a=b:=h
end Go.Mw
namespace Go.Mw
open Go.RowKit
def Env.pan (P:Program)(l:Nat)(S0:Jd)(M0:QA)(w0:World):Env P where
 l:=l
 J b S M w:=(∃res obs,b=.ret res obs)∧Fr S0 M0 w0 w∧(∀k,M k→M0 k∨w0.heap.size≤k)∧(∀b o,S0 b o→S b o)∧ZW P S w
 glob:=fun h=>h.2.2.2.2
 step:=fun {b S M w S' M' w'} ⟨h1,h2,h3,h4,h5⟩ hf hM hN hS hT=>
  ⟨h1,⟨hf.os.trans h2.os,hf.tape.trans h2.tape,hf.output.trans h2.output,Nat.le_trans h2.size hf.size,fun k hk hn=>(hf.block k (Nat.lt_of_lt_of_le hk h2.size) fun hm=>by
   rcases h3 k hm with h|h
   ·exact hn h
   ·omega).trans (h2.block k hk hn),fun b o h=>(hf.cell b o (h4 b o h)).trans (h2.cell b o h)⟩,fun k hk=>by
   rcases hN k hk with h|⟨h,_⟩
   ·exact h3 k h
   ·exact .inr (Nat.le_trans h2.size h),fun b o h=>hS b o (h4 b o h),h5.step hS hf.cell⟩
 yld:=fun ⟨⟨res,obs,h⟩,_⟩ _=>by cases h
section leave
variable {P:Program} {C:Ctx P} {S:Jd} {M:QA} {ι:Nat→Value} {A:JE} {a:Act} {w:World}
theorem JM7 {fn:Func}{R:Ending→World→Prop}{ch:List PanicEntry}(hrd:C.rd=none):∀(rs:List Nat) (a:Act) (w:World),Jf C S M ι A a w→a.defers=rs.map mark →
  (∀a' w',Jf C S M ι A a' w' → R (.panicked ch) w')→LeavesInM Fence.wide 0 P fn a.tmps R a.defers (.panicking ch) w
 |[],a,w,hR,hd,h=>by
  rw [hd]
  exact h a w hR
 |r::rs,a,w,hR,hd,h=>by
  obtain ⟨rs',h1,h2,h3⟩:=hR.marks
  have e:rs'=r::rs:=JJa (h1.symm.trans hd)
  subst e
  obtain ⟨hM,hheap⟩:=h3 r (by simp)
  have hlt:=(Array.getElem?_eq_some_iff.1 hheap).1
  have hcell:∀p:Addr,(w.putObj r (.deferred none)).cell? p=w.cell? p:=fun p=>by
   by_cases e:p.block=r
   ·unfold World.cell?
    rw [e,World.putObj_heap_same hlt,hheap]
   ·exact World.cell?_of_block (World.putObj_heap_other e)
  have hm:Mv S ι A.obj w S ι A.obj (w.putObj r (.deferred none)):=⟨fun _ _ h=>h.mono (fun _ _ h=>h) fun b o _=>hcell _,fun o ls h=>⟨⟨ls,h⟩,rfl⟩,fun o e k es h=>⟨es,h,Nat.le_refl _,fun _=>rfl⟩,fun b o hs=>⟨hs,hcell _⟩,fun o x h hx=>⟨⟨x,h,hx⟩,rfl⟩⟩
  have hnd:=List.nodup_cons.1 h2
  have hR':Jf C S M ι A { a with defers:=rs.map mark } (w.putObj r (.deferred none)):={
   sub:=hR.sub
   new:=hR.new
   inn:=fun b o h=>by simpa using hR.inn b o h
   minn:=fun k h=>by simpa using hR.minn k h
   sz:=hR.sz
   tms:=fun s=>hm.v (hR.tms s)
   objs:=fun o x h=>(hR.objs o x h).other hm rfl (fun k hk=>World.putObj_heap_other fun e=>by
    obtain ⟨_,_,z,hz,hd⟩:=(hR.objs o x h).blk_ge hk
    rw [e,hheap] at hz;cases hz;cases hd) fun _ _ _ h=>h
   dis:=hR.dis
   own:=hR.own
   env:=C.E.step hR.env ⟨rfl,rfl,rfl,by simp,fun b _ hb=>World.putObj_heap_other fun e=>hb (e▸hM),fun b o _=>hcell _⟩ (fun _ h=>h) (fun _ h=>.inl h) (fun _ _ h=>h) fun _ _ h=>.inl h
   tok:=hR.tok
   fixed:=hR.fixed
   marks:=⟨rs,rfl,hnd.2,fun q hq=>⟨(h3 q (by simp [hq])).1,(World.putObj_heap_other fun e=>hnd.1 (by rw [←e];exact hq)).trans (h3 q (by simp [hq])).2⟩⟩
   rdok:=fun l r h=>by rw [hrd] at h;cases h
   pinned:=hR.pinned
   pinN:=hR.pinN }
  have ih:=JM7 (R:=R) (fn:=fn) hrd rs _ _ hR' rfl h
  rw [hd]
  exact ⟨by simp,.inl ⟨r,_,rfl,run_takeDeferred hheap,ih⟩⟩
end leave
theorem YG {P:Program}(hm:P.follows .mixedOrders=true){f:FuncId}{fn:Func}{c:Code}{args:List AV}{pre:List (Nat × AO)}{pv:Value}(hf:P.funcs[f]? = some fn)(hb:fn.body=some c)
  (hn:args.length≤fn.ntmps∧fn.ntmps≤950) (hd:Yx (fun d=>d<fn.ntmps) c=true) (hpre:JJv fn.ntmps pre=true) (h:JB P c (fun e _=>e=.panic (Zc pv)) ⟨JA3 0 args,pre,.ret .dead []⟩):QZ P pv f args pre:=by
 intro l S M ι w vs hG hin hmin hobj hdis hown htok hargs
 have hl:=hargs.length
 have hnl:=hn.1
 refine callsIn_of_wp_marks hf hb trivial ?_ rfl
 have hpin:∀q x,look pre q=some x→fn.ntmps≤q∧q<1000:=fun q x hx=>by
  obtain ⟨y,hy⟩:=JEV hx
  have:=List.all_eq_true.1 hpre _ hy
  simpa using this
 let C:Ctx P:={ E:=Env.pan P l S M w,S0:=S,N:=fn.ntmps,fix:=fun _=>none,rd:=none,pin:=fun _=>none,lim:=hn.2 }
 have hR:Jf C S M ι ⟨JA3 0 args,pre,.ret .dead []⟩ { tmps:=vs.toArray++Array.replicate (fn.ntmps-vs.toArray.size) undef,defers:=[] } w:={
  sub:=fun _ _ h=>h
  new:=fun _ _ h=>.inl h
  inn:=hin
  minn:=hmin
  sz:=by simp [C];omega
  tms:=by
   intro s
   show Jk S ι (look pre) w ((look (JA3 0 args) s).getD .dead) _
   rw [JJT,if_pos (Nat.zero_le _),Nat.sub_zero]
   cases ha:args[s]? with
   |none=>trivial
   |some x=>
    obtain ⟨v,hv,hr⟩:=hargs.get' ha
    have hs:s<vs.length:=(List.getElem?_eq_some_iff.1 hv).1
    have:(vs.toArray++Array.replicate (fn.ntmps-vs.toArray.size) undef).getD s undef=v:=by
     rw [Array.getD_eq_getD_getElem?,Array.getElem?_append_left (by simpa using hs)]
     simp [hv]
    rw [this]
    exact hr
  objs:=hobj
  dis:=hdis
  own:=hown
  env:=⟨⟨_,_,rfl⟩,⟨rfl,rfl,rfl,Nat.le_refl _,fun _ _ _=>rfl,fun _ _ _=>rfl⟩,fun _ h=>.inl h,fun _ _ h=>h,hG⟩
  tok:=htok
  fixed:=by intro s v h;cases h
  marks:=⟨[],rfl,List.nodup_nil,by simp⟩
  rdok:=by intro l r h;cases h
  pinned:=by intro q u n x hq;cases hq
  pinN:=fun q hq=>absurd rfl hq }
 have hcan:∀d,decide (d<fn.ntmps)=true→C.can d:=fun d hd=>⟨by simpa using hd,rfl,rfl⟩
 refine JBR hm c (fun d=>d<fn.ntmps) hd C _ _ _ w hcan h ⟨S,M,ι,hR⟩ _ fun e A' a' w' hE hR'=>?_
 subst hE
 obtain ⟨S',M',ι',hR'⟩:=hR'
 obtain ⟨rs,hrs,_⟩:=hR'.marks
 show LeavesInM Fence.wide 0 P fn a'.tmps _ a'.defers (.panicking _) w'
 exact JM7 rfl rs a' w' hR' hrs fun a3 w3 hR3=>⟨rfl,hR3.env.2.1⟩
section steps
variable {P:Program} {ops:Array Oper} {A:JE} {pv:Value} {Φ:JE→Prop}
theorem JB.pan1 {id:Nat}{Φ:Exit→JE→Prop}(k:Nat){o:Oper}(ho:ops.toList[k]? = some o)(h:JA P ops (fun B=>(∃rs,JAo P ops pv o B rs)∧Φ (.panic (Zc pv)) ⟨[],[],B.bh⟩) (ops.toList.take k) A):JB P (.region id ops false) Φ A:=
 .inr ⟨pv,ops.toList.take k,o,ops.toList.drop (k+1),by
  obtain ⟨hk,he⟩:=List.getElem?_eq_some_iff.1 ho
  rw [←he,←List.drop_eq_getElem_cons hk,List.take_append_drop],h⟩
theorem JB.pan {id:Nat}{y:Code}{Φ:Exit→JE→Prop}(k:Nat){o:Oper}(ho:ops.toList[k]? = some o)(h:JA P ops (fun B=>(∃rs,JAo P ops pv o B rs)∧Φ (.panic (Zc pv)) ⟨[],[],B.bh⟩) (ops.toList.take k) A):JB P (.seq (.region id ops false) y) Φ A:=
 JB.pan1 (id:=id) (Φ:=fun e A'=>match e with |.normal=>∃B,JO A' B∧JB P y Φ B|e=>Φ e A') k ho h
theorem JA.panc {Ψ:Prop}{d:Option Nat}{g:FuncId}{as:List Operand}{tys:Array TypeId}{ty:TypeId}{pos:String}{af:Array Edge}{args vs:List AV}
  (hp:QZ P pv g args []) (hcan:JN P g=true) (hv:as.map A.ev=vs) (hwk:JR (Jj (rn [] 0) []) vs args) (h:Ψ) :
  JA P ops (fun B=>(∃rs,JAo P ops pv ⟨d,.call { callee:=.value (.func g),args:=as.toArray,argTypes:=tys },ty,pos,af,none⟩ B rs)∧Ψ) [] A:=
 .nil ⟨⟨_,rfl,_,rfl,.inl ⟨.func g,as,g,[],0,args,[],[],by simp [Ym],rfl,hcan,by rw [List.map_nil,List.append_nil,hv];exact hwk,⟨hp,rfl⟩,fun q x h=>by simp [look] at h,fun q q' n h=>by simp [look] at h,rfl⟩⟩,h⟩
theorem JA.pang {Ψ:Prop}{d:Option Nat}{f:Operand}{g:FuncId}{ds:List D}{as:List Operand}{tys:Array TypeId}{ty:TypeId}{pos:String}{af:Array Edge}{args vs:List AV}{pre:List (Nat × AO)}(lend:List (Nat × Nat))(B:Nat)
  (hp:QZ P pv g args pre) (hcan:JN P g=true) (hf:A.ev f=.leaf (.d (.fn g ds))) (hv:as.map A.ev=vs) (hwk:JR (Jj (rn lend B) (Qh pre)) (vs++ds.map fun x=>.leaf (.d x)) args)
  (lent:∀q x,look pre q=some x→∃n y,look lend q=some n∧A.obj n=some y∧QO y (x.ren (rn lend B))∧x.inn (Qh pre)=true) (inj:∀q q' n,look lend q=some n→look lend q'=some n→q=q') (h:Ψ) (htg:(pre.all fun p=>(ZG (p.1%1000)).isNone)=true:=by rfl) :
  JA P ops (fun B=>(∃rs,JAo P ops pv ⟨d,.call { callee:=.value f,args:=as.toArray,argTypes:=tys },ty,pos,af,none⟩ B rs)∧Ψ) [] A:=
 .nil ⟨⟨_,rfl,_,rfl,.inl ⟨f,as,g,ds,B,args,lend,pre,by simp [Ym],hf,hcan,by rw [hv];exact hwk,⟨hp,htg⟩,lent,inj,rfl⟩⟩,h⟩
theorem JA.pani {Ψ:Prop}{d:Option Nat}{x:Operand}{t:TypeId}{us:List Value}{ty:TypeId}{pos:String}{af:Array Edge}
  (hx:A.ev x=.leaf (.d (.ifc t true (us.map .raw)))) (hpv:pv=.iface t (.agg us.toArray)) (h:Ψ) :
  JA P ops (fun B=>(∃rs,JAo P ops pv ⟨d,.panic x,ty,pos,af,none⟩ B rs)∧Ψ) [] A:=
 .nil ⟨⟨_,rfl,_,rfl,.inr ⟨x,_,t,_,rfl,hx,hpv,fun S w u hr=>by
  cases hr with
  |ifa _ _ vals hl hr=>
   rw [hpv]
   have:vals=us:=by
    simp only [List.length_map] at hl
    refine List.ext_getElem? fun i=>?_
    by_cases hi:i<us.length
    ·have h1:=hr i (.raw us[i]) (vals[i]'(by omega)) (by simp [hi]) (by simp [show i<vals.length by omega])
     have h2:vals[i]'(by omega)=us[i]:=by
      generalize vals[i]'(by omega)=y at h1
      generalize us[i]=z at h1
      cases h1;rfl
     rw [List.getElem?_eq_getElem (show i<vals.length by omega),List.getElem?_eq_getElem hi,h2]
    ·simp [hi,show ¬i<vals.length by omega]
   rw [this],rfl⟩⟩,h⟩
end steps
end Go.Mw
namespace Go.Mw
open Go.RowKit
def JKi (P:Program)(o:Oper)(xs:List Operand)(us:List Value)(r:AV):Prop:=
 ∀ρ:Operand→Value,xs.map ρ=us→∃u,(∀S ι H w,Jk S ι H w r u)∧∀w,(execOp ρ o).run P w=.ok (.value u) w
section pure
variable {P:Program} {ops:Array Oper} {A A':JE} {o:Oper} {C:Ctx P} {a:Act} {w:World}
theorem JMR {S:Jd}{M:QA}{ι:Nat→Value}(hR:Jf C S M ι A a w):∀ {xs:List Operand} {us:List Value},xs.map A.ev=us.map AV.raw→xs.map a.eval=us
 |[],[],_=>rfl
 |[],_::_,h=>by simp at h
 |_::_,[],h=>by simp at h
 |x::xs,u::us,h=>by
  simp only [List.map_cons,List.cons.injEq] at h ⊢
  have:=QD hR x
  rw [h.1] at this
  exact ⟨Qa (Jn this),JMR hR h.2⟩
theorem JVf {xs:List Operand}{us:List Value}{r:AV}{d:Nat}(hdst:o.dst=some d)(hop:JKi P o xs us r)(hx:xs.map A.ev=us.map AV.raw)(hd:∀d,o.dst=some d→C.can d)(hR:QP C A a w)(Q:Exit→Act→World→Prop) :
  o.wpIn (Qj C) 0 P a w (fun a' w'=>QP C (A.put [.slot d r]) a' w') Q:=by
 obtain ⟨S,M,ι,hR⟩:=hR
 obtain ⟨u,h1,h2⟩:=hop a.eval (JMR hR hx)
 refine JB7 (h2 w) JBh ?_
 rw [Oper.uponIn_value,hdst]
 exact ⟨S,M,ι,hR.slot (hd d hdst) (h1 S ι A.obj w)⟩
theorem YU.pure {xs:List Operand}{us:List Value}{r:AV}{d:Nat}(hw:J3 ops o.guard A=some true)(hdst:o.dst=some d)(hop:JKi P o xs us r)(hx:xs.map A.ev=us.map AV.raw):YU P ops o A (Qo ops o++YJ xs) [.slot d r]:=
 .sem (YJ xs) [.slot d r] hw fun A' hA C a w Q hd hR=>JVf hdst hop ((JCt fun l hl=>hA l hl).trans hx) hd hR Q
end pure
def bs (l:List UInt8):ByteArray:=⟨l.toArray⟩
abbrev AV.str (l:List UInt8):AV:=.raw (.string (bs l))
@[simp] theorem Zb (l:List UInt8):(bs l).size=l.length:=by simp [bs,ByteArray.size]
theorem JPz (s:ByteArray):bs s.data.toList=s:=by simp [bs]
theorem Zz (l:List UInt8):(bs l).data.toList=l:=by simp [bs]
theorem JLW (l:List UInt8):(bs l).toList=l:=by
 rw [ByteArray.toList_eq,Zz]
theorem JPy (x y:List UInt8):bs x++bs y=bs (x++y):=by
 apply ByteArray.ext
 simp [bs]
theorem JLV (l:List UInt8)(i:Nat):(bs l)[i]? = l[i]? :=by
 by_cases h:i<l.length
 ·rw [getElem?_pos (bs l) i JAM,List.getElem?_eq_getElem h]
  congr 1
 ·rw [getElem?_neg (bs l) i JAM,List.getElem?_eq_none (by omega)]
theorem JP0 (l:List UInt8)(lo hi:Nat):(bs l).extract lo hi=bs ((l.take hi).drop lo):=by
 apply ByteArray.ext
 apply Array.ext'
 rw [ByteArray.data_extract]
 simp only [bs,List.extract_toArray,List.extract_eq_take_drop]
 rw [List.drop_take]
theorem JSr (l:List UInt8):(ByteArray.mk l.toArray)=bs l:=rfl
attribute [go_sem] Zb JPy JLW JLV JP0 JSr
end Go.Mw
namespace Go.Mw
open Go.RowKit
theorem JCr {P:Program}{f:FuncId}{args:List AV}{res:AV}(h:∀(S:Jd) (ι:Nat→Value) (w:World) (vs:List Value),ZW P S w→(∀b o,S b o→b<w.heap.size)→JR (Jk S ι (look []) w) args vs →
  Calls P f vs.toArray w fun e w'=>∃v,e=.returned v∧(∀S ι H w,Jk S ι H w res v)∧Below w.heap.size w w'):Ja P f args res []:=by
 intro E S M ι w vs hin hmin hobj hdis hown htok hargs hJ
 have hc:=h S ι w vs (E.glob hJ) hin hargs
 rw [←callsIn_wide] at hc
 refine hc.mono fun e w' ⟨v,he,hr,hb⟩=>?_
 have hcell:∀b o,S b o→w'.cell? ⟨b,o,none⟩=w.cell? ⟨b,o,none⟩:=fun b o hs=>World.cell?_of_block (hb.block b (hin b o hs))
 refine ⟨v,res,[],S,M,ι,he,.ret _ _,E.step hJ ⟨hb.os,hb.tape,hb.output,hb.size,fun b hbl _=>hb.block b hbl,hcell⟩ (fun _ h=>h) (fun _ h=>.inl h) (fun _ _ h=>h) (fun _ _ h=>.inl h),?_⟩
 exact {
  sub:=fun _ _ h=>h,new:=fun _ _ h=>.inl h,inn:=fun b o h=>Nat.lt_of_lt_of_le (hin b o h) hb.size,minn:=fun b h=>Nat.lt_of_lt_of_le (hmin b h) hb.size
  res:=hr _ _ _ _
  objs:=fun o x h=>by cases h
  dis:=fun o o' x x' b h=>by cases h
  own:=fun o x b h=>by cases h
  tok:=fun o h=>by cases h
  same:=fun o x x' h=>by cases h }
theorem JRY {P:Program}{f:FuncId}{args:List AV}{q e k n:Nat}{es:List (List D)}(hn:es.length=n)(hk:∀x∈es,x.length=k)(hk0:0<k)(h:∀(S:Jd) (ι:Nat→Value) (w:World) (vs:List Value),ZW P S w→(∀b o,S b o→b<w.heap.size)→JR (Jk S ι (look []) w) args vs →
  Calls P f vs.toArray w fun e' w'=>∃v xs,e'=.returned v∧w'.ownsRow w.heap.size e k v n xs∧(∀S w,JR (RepD S w) es.flatten xs)∧Below w.heap.size w w'):Ja P f args (.leaf (.own q 0 n n)) [(q,.arr e k es)]:=by
 subst hn
 intro E S M ι w vs hin hmin hobj hdis hown htok hargs hJ
 have hc:=h S ι w vs (E.glob hJ) hin hargs
 rw [←callsIn_wide] at hc
 refine hc.mono fun e' w' ⟨v,xs,he,hrow,hx,hb⟩=>?_
 have hcell:∀b o,S b o→w'.cell? ⟨b,o,none⟩=w.cell? ⟨b,o,none⟩:=fun b o hs=>World.cell?_of_block (hb.block b (hin b o hs))
 have hl:∀ {o:Nat} {x:AO},look [(q,AO.arr e k es)] o=some x→o=q∧x=.arr e k es:=fun {o x} h=>by
  by_cases ho:o=q
  ·subst ho;simp [look] at h;exact ⟨rfl,h.symm⟩
  ·simp [look,ho] at h
 have hblk:∀b,blk v=some b→w.heap.size≤b∧b<w'.heap.size:=fun b hb'=>by
  rcases hrow.2 with ⟨rfl,_⟩|⟨g,cap,cur,rfl,hg,hcur,_⟩
  ·simp [blk] at hb'
  ·simp [blk] at hb';subst hb';exact ⟨hg,(Array.getElem?_eq_some_iff.1 hcur).1⟩
 refine ⟨v,_,_,S,fun b=>M b∨(w.heap.size≤b∧b<w'.heap.size),fun _=>v,he,.ret _ _,E.step hJ ⟨hb.os,hb.tape,hb.output,hb.size,fun b hbl _=>hb.block b hbl,hcell⟩ (fun _ h=>.inl h) (fun _ h=>h) (fun _ _ h=>h) (fun _ _ h=>.inl h),?_⟩
 have hone:v.oneCell'=true:=by
  rcases hrow.2 with ⟨rfl,_⟩|⟨g,cap,cur,rfl,_⟩<;>rfl
 exact {
  sub:=fun _ _ h=>h,new:=fun _ _ h=>.inl h,inn:=fun b o h=>Nat.lt_of_lt_of_le (hin b o h) hb.size
  minn:=fun b h=>h.elim (fun h=>Nat.lt_of_lt_of_le (hmin b h) hb.size) (·.2)
  res:=Qx ⟨hone,e,k,es,by simp [look],Nat.le_refl _,fun _=>⟨by simp,JAx.tip hrow⟩⟩
  objs:=fun o x h=>by
   obtain ⟨rfl,rfl⟩:=hl h
   exact ⟨xs,⟨hrow.1,hrow.2.imp id fun ⟨g,cap,cur,h1,h2,h3⟩=>⟨g,cap,cur,h1,Nat.zero_le _,h3⟩⟩,hx _ _,hk,hk0,fun b hb' off hs=>by
    have:=hin b off hs
    have:=(hblk b hb').1
    omega⟩
  dis:=fun o o' x x' b h h' hne=>absurd ((hl h).1.trans (hl h').1.symm) hne
  own:=fun o x b h hb'=>.inr (hblk b hb')
  tok:=fun o h=>by have:=(hl h).2;cases this
  same:=fun o x x' h=>by cases h }
end Go.Mw
namespace Go.Mw
def _root_.Go.Act.more (a:Act)(ds:List Deferred):Act:={ a with defers:=a.defers++ds }
section defers
variable {F:Fence} {n:Nat} {P:Program} {ops:Array Oper} {ds:List Deferred} {a:Act} {w:World}
end defers
end Go.Mw
namespace Go.Mw
open Go.RowKit
def JAc (P:Program)(o:Oper)(A:JE)(r:AV):Prop:=∀(C:Ctx P) (S:Jd) (M:QA) (ι:Nat→Value) (a:Act) (w:World),Jf C S M ι A a w →
 ∃v,(execOp a.eval o).run P w=.ok (.value v) w∧Jk S ι A.obj w r v
section val
variable {P:Program} {ops:Array Oper} {A A':JE} {o:Oper} {C:Ctx P} {a:Act} {w:World} {d:Nat} {r:AV}
theorem JOj (hdst:o.dst=some d)(h:JAc P o A r)(hd:∀d,o.dst=some d→C.can d)(hR:QP C A a w)(Q:Exit→Act→World→Prop):o.wpIn (Qj C) 0 P a w (fun a' w'=>QP C (A.put [.slot d r]) a' w') Q:=by
 obtain ⟨S,M,ι,hR⟩:=hR
 obtain ⟨v,h1,h2⟩:=h C S M ι a w hR
 refine JB7 h1 JBh ?_
 rw [Oper.uponIn_value,hdst]
 exact ⟨S,M,ι,hR.slot (hd d hdst) h2⟩
theorem JA.val {Φ:JE→Prop}{l:List Oper}{op:Op}{ty:TypeId}{pos:String}{af:Array Edge}{g:Option (Nat × Bool)}(h:JAc P ⟨some d,op,ty,pos,af,g⟩ A r)(hw:J3 ops g A=some true)
  (hp:A.put [.slot d r]=A') (h':JA P ops Φ l A'):JA P ops Φ (⟨some d,op,ty,pos,af,g⟩::l) A:=
 .sem (K:=fun B=>B=A') hw (fun C a w Q hd hR=>Oper.wpIn_mono (fun a' w' h=>⟨A',rfl,hp▸h⟩) (JOj rfl h hd hR Q)) fun B e=>e▸h'
theorem JF.val {acc:List Fp}{K:List Fp→JE→Prop}{l:List (Oper × Nat)}{i:Nat}(xs:List Loc){op:Op}{ty:TypeId}{pos:String}{af:Array Edge}{g:Option (Nat × Bool)}{rs:List Loc}
  (h:∀A',(∀l∈xs,agree A A' l)→JAc P ⟨some d,op,ty,pos,af,g⟩ A' r) (hw:J3 ops g A=some true) (hr:Qo ops ⟨some d,op,ty,pos,af,g⟩++xs=rs) (hp:A.put [.slot d r]=A')
  (h':JF P ops l A' (⟨rs,[.slot d]⟩::acc) K):JF P ops ((⟨some d,op,ty,pos,af,g⟩,i)::l) A acc K:=
 .cons (fun ho _ _ hrun=>⟨_,_,ho,by
  have:=YU.sem (ops:=ops) (o:=⟨some d,op,ty,pos,af,g⟩) (A:=A) xs [.slot d r] hw fun A' hA C a w Q hd hR=>JOj rfl (h A' hA) hd hR Q
  rw [hr] at this
  exact this,rfl,hp▸hrun⟩) h'
end val
section cells
variable {P:Program} {C:Ctx P} {S:Jd} {M:QA} {ι:Nat→Value} {A:JE} {a:Act} {w:World} {o:Oper} {d n:Nat}
theorem JVL (hR:Jf C S M ι A a w)(ho:o.dst=some d)(hd:C.can d)(hn:A.obj n=none)(hN:1000≤n){t:TypeId}(htag:JGG n t){ls:List AL}{vs:List Value}
  (hr:(execOp a.eval o).run P w=.ok (.value (.pointer (some ⟨w.heap.size,0,none⟩))) (w.alloc (.cells vs.toArray t))) (hall:JR (Jh S ι A.obj w) ls vs) :
  Qy P C A [.slot d (.leaf (.ptr n 0)),.obj n (.cells ls)] a w o:=by
 have hon:Q0 ι A n w (w.alloc (.cells vs.toArray t)):=JC3 A _
 have ht:Qt ι A n (.cells ls) (.pointer (some ⟨w.heap.size,0,none⟩)):=JAw hn _ _
 have hm:=hon.mv hR ht
 have hpin:C.pin n=none:=by
  cases hp:C.pin n with
  |none=>rfl
  |some q=>have:=hR.pinN n (by rw [hp];simp);omega
 refine JBZ ho hd hr (hR.chg hon ht (JJe htag hR.inn (hall.mono fun _ _=>hm.l)) (fun b hb=>?_) (by simp) fun _=>hpin) (Qx ⟨ls,w.heap.size,ZV _ _ _,upd_same _ _ _,rfl⟩)
 simp [blk] at hb;omega
end cells
section alloc
variable {P:Program} {ops:Array Oper} {A A':JE} {d:Nat}
theorem JA.alcT {Φ:JE→Prop}{l:List Oper}{t ty:TypeId}{pos:String}{af:Array Edge}(n:Nat){ag:Bool}{ds:List D}(hz:QE P t=some (ag,ds))(hn:A.obj n=none)(hN:1000≤n)(htag:ZG (n%1000)=some t)
  (hp:A.put [.slot d (.leaf (.ptr n 0)),.obj n (.cells (ds.map .d))]=A') (h':JA P ops Φ l A'):JA P ops Φ (⟨some d,.alloc t,ty,pos,af,none⟩::l) A:=
 .sem (K:=fun B=>B=A') rfl (fun C a w Q hd hR=>by
  obtain ⟨S,M,ι,hR⟩:=hR
  obtain ⟨i,z,hi,hzz,_,rfl,hall⟩:=JDB hz
  refine Oper.wpIn_mono (fun a' w' h=>⟨A',rfl,hp▸h⟩) (JDm (JVL (o:=⟨some d,.alloc t,ty,pos,af,none⟩) hR rfl (hd d rfl) hn hN (t:=t) (fun t' h=>by rw [htag] at h;cases h;rfl) (vs:=z.cells.toList) ?_ (JGl hall)) Q)
  simp [execOp,Instr.alloc,zeroValue,typeInfo,hi,hzz,newVar,newRow]) fun B e=>e▸h'
end alloc
section bytes
variable {P:Program}
def Jr (l:List UInt8):List (List D):=l.map fun c=>[.raw (.int .u8 c.toNat)]
theorem Y2 (l:List UInt8):(Jr l).length=l.length:=by simp [Jr]
theorem JLZ (x y:List UInt8):Jr (x++y)=Jr x++Jr y:=by simp [Jr]
theorem JP6 {S:Jd}{w:World}(l:List UInt8):JR (RepD S w) (Jr l).flatten (Lib.strCells (bs l)):=by
 rw [Lib.strCells,Zz]
 unfold Jr
 induction l with
 |nil=>trivial
 |cons c l ih=>exact ⟨.raw _ rfl,ih⟩
theorem JLb (l:List UInt8):∀x∈Jr l,x.length=1:=fun x h=>by
 unfold Jr at h
 obtain ⟨c,_,rfl⟩:=List.mem_map.1 h
 rfl
theorem JOF {w:World}{t u ty e:TypeId}{i:TypeInfo}(ht:P.underlying t=some (.slice e))(hu:P.underlying u=some .string)(hi:P.info? e=some i)(hz:i.zero=some (.int .u8 0))(hsize:i.size=1)(hby:i.bytes=1)
  {B n:Nat} {v:Value} {xs:List Value} (hown:w.ownsRow B e 1 v n xs) (s:ByteArray) (hlen:n+s.size≤140737488355328) (hB:B≤w.heap.size) :
  ∃v' w',(Builtin.append_ #[t,u] ty #[v,.string s]).run P w=.ok v' w' ∧ w'.ownsRow B e 1 v' (n+s.size) (xs++Lib.strCells s)∧w.grownBy w' (blk v) ∧
   (∀b,blk v'=some b→w.heap.size≤b∨blk v=some b)∧(s.size=0→v'=v):=by
 have h63:n+s.size≤maxLen:=by simp only [maxLen];omega
 rcases hown.2 with ⟨rfl,rfl⟩|⟨g,cap,cur,rfl,hbg,hg,hnc,hcm,hcs,htake⟩
 ·have hx:xs=[]:=List.eq_nil_of_length_eq_zero (by simpa using hown.1)
  subst hx
  obtain ⟨v',w',hr,ho',hgr,hnl⟩:=Lib.run_append_own_string (P:=P) w w.heap.size t u ty e i ht hu hi hz hsize hby (.slice none 0 0) 0 [] (World.ownsRow_nil w _ e 1) s h63 hlen (Nat.le_refl _)
  refine ⟨v',w',hr,⟨ho'.1,?_⟩,hgr,fun b hb=>.inl ?_,fun h=>hnl.2 ⟨rfl,h⟩⟩
  ·rcases ho'.2 with h|⟨g,cap,cur,e1,e2,rest⟩
   ·exact .inl h
   ·exact .inr ⟨g,cap,cur,e1,Nat.le_trans hB e2,rest⟩
  ·rcases ho'.2 with ⟨h,_⟩|⟨g,cap,cur,e1,e2,rest⟩
   ·rw [h] at hb;simp [blk] at hb
   ·rw [e1] at hb;simp [blk] at hb;omega
 ·have hll:(xs++Lib.strCells s).length=(n+s.size)*1:=by rw [List.length_append,hown.1,Lib.strCells_length,Nat.mul_one,Nat.mul_one]
  by_cases hroom:n+s.size≤cap
  ·have hr:=Lib.run_append_room_string (P:=P) w t u ty e i ht hu hi hsize g n cap cur hg s hroom (by rw [hcs,Nat.mul_one];exact hroom)
   refine ⟨_,_,hr,⟨hll,.inr ⟨g,cap,_,rfl,hbg,setRow_heap w g cur _ e _ hg,hroom,hcm,?_,?_⟩⟩,⟨rfl,rfl,rfl,by simp,fun k _ hk=>setRow_other w g k _ (fun e=>hk (by simp [blk,e]))⟩,fun b hb=>.inr hb,fun h=>by rw [h];rfl⟩
   ·simp only [List.size_toArray,List.length_append,List.length_take,List.length_drop,Array.length_toList,Lib.strCells_length]
    omega
   ·have ht':cur.toList.take n=xs:=by simpa using htake
    rw [ht',←hll]
    exact List.take_left
  ·have holds:∀j u,xs[j]? = some u→w.cell? ((⟨g,0,none⟩:Addr).add j)=some u:=hown.cells (g:=g) rfl
   have hr:=Lib.run_append_grow_string (P:=P) w t u ty e i (.int .u8 0) ht hu hi hz ⟨g,0,none⟩ n cap xs (by rw [hsize];exact hown.1) holds s (by omega) (by omega) (by rw [hby];exact growslice_fits (by omega) (by omega))
   have hge:=grownCap_ge w (n+s.size) cap e
   have hcm':grownCap w (n+s.size) cap e≤maxLen:=grownCap_le_maxLen w (n+s.size) cap e h63
   refine ⟨_,_,hr,⟨hll,.inr ⟨w.heap.size,_,_,rfl,hB,heap_alloc_new w.drew _,hge,hcm',?_,?_⟩⟩,⟨rfl,rfl,rfl,by simp,fun b hb _=>Below.heap_alloc w.drew _ b hb⟩,fun b hb=>.inl (by simp [blk] at hb;omega),fun h=>by omega⟩
   ·have hx1:=hown.1
    have hz1:(Value.int IntKind.u8 0).cells.size=1:=rfl
    simp only [Array.size_append,List.size_toArray,size_zeroCells,hz1,hx1,Lib.strCells_length]
    omega
   ·simp only [Array.toList_append,List.append_assoc]
    rw [←List.append_assoc,←hll]
    exact List.take_left
end bytes
section appS
variable {P:Program} {ops:Array Oper} {A A':JE} {d:Nat}
theorem JA.appS {Φ:JE→Prop}{l:List Oper}{t u e ty:TypeId}{s x:Operand}{pos:String}{af:Array Edge}{i:TypeInfo}(q:Nat)(b c:List UInt8)(hs:A.ev s=.leaf (.own q 0 b.length b.length)∨(b=[]∧c≠[]∧A.ev s=.raw (.slice none 0 0)))
  (hx:A.ev x=.str c) (hq:A.obj q=some (.arr e 1 (Jr b))) (ht:P.underlying t=some (.slice e)) (hu:P.underlying u=some .string) (hi:P.info? e=some i) (hz:i.zero=some (.int .u8 0)∧i.size=1∧i.bytes=1) (hlen:b.length+c.length≤140737488355328)
  (hp:A.put [.obj q (.arr e 1 (Jr (b++c))),.slot d (.leaf (.own q 0 (b++c).length (b++c).length))]=A') (h':JA P ops Φ l A') :
  JA P ops Φ (⟨some d,.call { callee:=.builtin .append,args:=#[s,x],argTypes:=#[t,u] },ty,pos,af,none⟩::l) A:=
 .sem (K:=fun B=>B=A') rfl (fun C a w Q hd hR=>by
  obtain ⟨S,M,ι,hR⟩:=hR
  obtain ⟨xs,hown,hall,hkk,_,hS⟩:=hR.objs q _ hq
  have hxv:a.eval x=.string (bs c):=by have:=QD hR x;rw [hx] at this;exact Qa (Jn this)
  have hsz:(bs c).size=c.length:=Zb c
  have hl1:(Jr b).length=b.length:=Y2 b
  have key:∃v' w' B,(Builtin.append_ #[t,u] ty #[a.eval s,.string (bs c)]).run P w=.ok v' w' ∧ w'.ownsRow B e 1 v' (b.length+c.length) (xs++Lib.strCells (bs c))∧w.grownBy w' (blk (ι q))∧(∀k,blk v'=some k→w.heap.size≤k∨blk (ι q)=some k)∧(c.length=0→v'=ι q):=by
   rcases hs with hs|⟨hb,hc,hs⟩
   ·have h1:=QD hR s
    rw [hs] at h1
    obtain ⟨_,e',k',es,hob,_,hval⟩:=Jn h1
    rw [hq] at hob;cases hob
    have hv:a.eval s=ι q:=(hval hl1).2.1 rfl rfl
    rw [hl1] at hown
    obtain ⟨v',w',hr,ho',hgr,hbk,hm⟩:=JOF (P:=P) (ty:=ty) ht hu hi hz.1 hz.2.1 hz.2.2 hown (bs c) (by rw [hsz];exact hlen) (Nat.zero_le _)
    rw [hsz] at ho' hm
    exact ⟨v',w',0,by rw [hv];exact hr,ho',hgr,hbk,hm⟩
   ·subst hb
    have h1:=QD hR s
    rw [hs] at h1
    have hv:=Qa (Jn h1)
    have hx0:xs=[]:=List.eq_nil_of_length_eq_zero (by simpa [Jr] using hown.1)
    subst hx0
    obtain ⟨v',w',hr,ho',hgr,hbk,hm⟩:=JOF (P:=P) (ty:=ty) ht hu hi hz.1 hz.2.1 hz.2.2 (World.ownsRow_nil w 0 e 1) (bs c) (by rw [hsz];simpa using hlen) (Nat.zero_le _)
    rw [hsz] at ho' hm
    refine ⟨v',w',0,by rw [hv];exact hr,ho',⟨hgr.os,hgr.tape,hgr.output,hgr.size,fun k hk hne=>hgr.block k hk (by simp [blk])⟩,fun k hk=>.inl ?_,fun h=>absurd (List.eq_nil_of_length_eq_zero h) hc⟩
    rcases hbk k hk with h|h
    ·exact h
    ·simp [blk] at h
  obtain ⟨v',w',B,hr,ho',hgr,hbk,hm0⟩:=key
  have hl2:(Jr (b++c)).length=b.length+c.length:=by rw [Y2,List.length_append]
  have hon:Q0 ι A q w w':=JJj hgr fun g hg=>⟨_,hq,hg⟩
  have hu1:v'.oneCell'=true:=by rcases ho'.2 with ⟨rfl,_⟩|⟨_,_,_,rfl,_⟩<;>rfl
  have ht':Qt ι A q (.arr e 1 (Jr (b++c))) v':=by
   unfold Qt
   rw [hq]
   exact ⟨_,rfl,by rw [hl1,hl2];omega,fun he=>hm0 (by rw [hl1,hl2] at he;omega)⟩
  have hm:=hon.mv hR ht'
  have ho0:w'.ownsRow 0 e 1 v' (Jr (b++c)).length (xs++Lib.strCells (bs c)):=by
   rw [hl2]
   exact ⟨ho'.1,ho'.2.imp id fun ⟨g,cap,cur,h1,_,h2⟩=>⟨g,cap,cur,h1,Nat.zero_le _,h2⟩⟩
  have hRR:=hR.chg hon ht' ⟨xs++Lib.strCells (bs c),by rw [upd_same];exact ho0,by rw [JLZ,List.flatten_append];exact (hall.append (JP6 c)).mono fun _ _=>hm.d _ _,JLb _,by omega,fun k hk off hs'=>by
   rw [upd_same] at hk
   rcases hbk k hk with h2|h2
   ·have:=hR.inn _ _ hs';omega
   ·exact hS k h2 off hs'⟩ (fun k hk=>by
   rcases hbk k hk with h2|h2
   ·exact .inl h2
   ·exact .inr ⟨_,hq,h2⟩) (by simp) (fun hn=>by rw [hq] at hn;cases hn)
  have hex:(execOp a.eval ⟨some d,.call { callee:=.builtin .append,args:=#[s,x],argTypes:=#[t,u] },ty,pos,af,none⟩).run P w=.ok (.value v') w':=JFc rfl (by rw [hxv];exact hr)
  refine JB7 hex JBh ?_
  ·rw [Oper.uponIn_value]
   refine ⟨A',rfl,?_⟩
   rw [←hp]
   exact ⟨S,_,_,hRR.slot (hd d rfl) (Qx ⟨hu1,e,1,Jr (b++c),ZV _ _ _,by rw [Y2];exact Nat.le_refl _,fun _=>⟨by omega,by rw [upd_same,List.length_append];rw [hl2] at ho0;exact JAx.tip ho0⟩⟩)⟩) fun B e=>e▸h'
end appS
end Go.Mw
namespace Go.Mw
open Go.RowKit
section ptr
variable {P:Program} {A:JE} {d n:Nat} {x y:Operand} {ty:TypeId} {pos:String} {af:Array Edge} {g:Option (Nat × Bool)} {ls:List AL} {src dst t u:TypeId}
theorem JEY {C:Ctx P}{S:Jd}{M:QA}{ι:Nat→Value}{a:Act}{w:World}(hR:Jf C S M ι A a w){i:Nat}(hx:A.ev x=.leaf (.ptr n i))(hn:A.obj n=some (.cells ls)) :
  ∃b vs el,ι n=.pointer (some ⟨b,0,none⟩)∧a.eval x=.pointer (some ⟨b,i,none⟩)∧w.heap[b]? = some (.cells vs.toArray el (0,0))∧JR (Jh S ι A.obj w) ls vs∧JGG n el:=by
 have hv:=QD hR x
 rw [hx] at hv
 obtain ⟨ls',b,h1,h2,h3⟩:=Jn hv
 obtain ⟨b',vs,el,g1,g2,g3,g4⟩:=hR.objs n _ hn
 rw [h2] at g1;cases g1
 exact ⟨b,vs,el,h2,h3,g2,g3,g4.2⟩
theorem JOW (hs:P.underlying src=some (.pointer t))(hd:P.underlying dst=some .unsafePointer){k:Nat}(hj:(P.info? t).map (·.size)=some k)(hk:k≠0)(hx:A.ev x=.leaf (.ptr n 0))(hn:A.obj n=some (.cells ls))(hl:ls≠[]) :
  JAc P ⟨some d,.convert src dst x,ty,pos,af,g⟩ A (.leaf (.ptr n 0)):=by
 intro C S M ι a w hR
 obtain ⟨b,vs,el,h1,h2,h3,h4,_⟩:=JEY hR hx hn
 obtain ⟨j,hj1,hj2⟩:=Option.map_eq_some_iff.1 hj
 have h0:0<vs.length:=by rw [←h4.length];exact List.length_pos_iff.2 hl
 refine ⟨_,?_,Qx ⟨ls,b,hn,h1,rfl⟩⟩
 have:=Lib.run_to_unsafe (P:=P) w ⟨b,0,none⟩ hs hd hj1 (by rw [hj2];exact hk) (e:=el) (cells:=vs.length) (by simp [World.shape?,h3]) h0
 simp [execOp,h2,this]
theorem JOT (hs:P.underlying src=some .unsafePointer)(hd:P.underlying dst=some (.pointer u))(hj:(P.info? u).isSome=true)(hx:A.ev x=.leaf (.ptr n 0))(hn:A.obj n=some (.cells ls)){T:TypeId}(htag:ZG (n%1000)=some T)
  (hl:liesAt P P.depth T (ls.length / P.cellsOf T) 0 u 1=true) :
  JAc P ⟨some d,.convert src dst x,ty,pos,af,g⟩ A (.leaf (.ptr n 0)):=by
 intro C S M ι a w hR
 obtain ⟨b,vs,el,h1,h2,h3,h4,h5⟩:=JEY hR hx hn
 obtain ⟨j,hj1⟩:=Option.isSome_iff_exists.1 hj
 have hel:=h5 T htag
 subst hel
 refine ⟨_,?_,Qx ⟨ls,b,hn,h1,rfl⟩⟩
 have:=Lib.run_from_unsafe (P:=P) w ⟨b,0,none⟩ hs hd hj1 (e:=el) (cells:=vs.length) (by simp [World.shape?,h3]) (by rw [←h4.length];exact hl)
 simp [execOp,h2,this]
theorem JOS {tp te tz:TypeId}(hp:P.underlying tp=some (.pointer te))(hj:(P.info? te).isSome=true){i:Nat}(hx:A.ev x=.leaf (.ptr n i))(hy:A.ev y=.leaf (.ptr n i))(hn:A.obj n=some (.cells ls)) :
  JAc P ⟨some d,.binOp .neq tp x y tz,ty,pos,af,g⟩ A (.bool false):=by
 intro C S M ι a w hR
 obtain ⟨b,vs,el,h1,h2,_⟩:=JEY hR hx hn
 obtain ⟨b',vs',el',h1',h2',_⟩:=JEY hR hy hn
 rw [h1] at h1';cases h1'
 obtain ⟨j,hj1⟩:=Option.isSome_iff_exists.1 hj
 refine ⟨_,?_,⟨_,rfl,RepD.raw _ rfl⟩⟩
 have:=Lib.run_neq_ptr_same (P:=P) w ⟨b,i,none⟩ hp hj1
 simp [execOp,h2,h2',eqGuard_at_pointer,this]
theorem JOV {f:FuncId}{tys:Array TypeId}(hrun:∀v w,(callFunc f #[v]).run P w=.ok (.value v) w){i:Nat}(hx:A.ev x=.leaf (.ptr n i))(hn:A.obj n=some (.cells ls)) :
  JAc P ⟨some d,.call { callee:=.value (.func f),args:=#[x],argTypes:=tys },ty,pos,af,g⟩ A (.leaf (.ptr n i)):=by
 intro C S M ι a w hR
 obtain ⟨b,vs,el,h1,h2,_⟩:=JEY hR hx hn
 refine ⟨_,?_,Qx ⟨ls,b,hn,h1,rfl⟩⟩
 have hfv:a.eval (.func f)=.func (.func f) #[] #[]:=rfl
 have:=hrun (a.eval x) w
 rw [h2] at this
 simp [execOp,resolve,hfv,Deferred.ofValue,invoke,h2,this]
end ptr
section eat
variable {P:Program} {ops:Array Oper} {A:JE} {d:Nat} {r:AV}
theorem JA.eat {Φ:JE→Prop}{l:List Oper}{f:FuncId}{as:List Operand}{tys:Array TypeId}{ty:TypeId}{pos:String}{af:Array Edge}(hcan:JN P f=true)
  (law:∀(C:Ctx P) (S:Jd) (M:QA) (ι:Nat→Value) (a:Act) (w:World),Jf C S M ι A a w→Calls P f (as.map a.eval).toArray w fun e w'=>∃v,e=.returned v∧(∀S ι H w,Jk S ι H w r v) ∧
   ∃U:QA,(∀k,U k→∃o x,A.obj o=some x∧blk (ι o)=some k)∧Fr S U w w')
  (h':JA P ops Φ l ⟨[(d,r)],[],A.bh⟩):JA P ops Φ (⟨some d,.call { callee:=.value (.func f),args:=as.toArray,argTypes:=tys },ty,pos,af,none⟩::l) A:=
 .sem (K:=fun B=>B=⟨[(d,r)],[],A.bh⟩) rfl (fun C a w Q hd hR=>by
  obtain ⟨S,M,ι,hR⟩:=hR
  have hexec:(execOp a.eval ⟨some d,.call { callee:=.value (.func f),args:=as.toArray,argTypes:=tys },ty,pos,af,none⟩).run P w=.ok (.enter f (as.map a.eval).toArray) w:=by
   have hfv:a.eval (.func f)=.func (.func f) #[] #[]:=rfl
   have e1:as.toArray.map a.eval=(as.map a.eval).toArray:=by apply Array.ext';simp
   simp [execOp,resolve,hfv,Deferred.ofValue,invoke,JEh hcan]
  refine JB7 hexec JBh ?_
  rw [Oper.uponIn_enter]
  refine ⟨JEL C,JFC C ?_⟩
  have hl:=law C S M ι a w hR
  rw [←callsIn_wide] at hl
  refine hl.mono fun e w' ⟨v,he,hr,U,hU,hf⟩=>?_
  subst he
  refine ⟨_,rfl,?_⟩
  obtain ⟨S2,M2,ι2,hR2⟩:=hR.forget hU hf
  exact ⟨S2,M2,ι2,hR2.slot (hd d rfl) (hr _ _ _ _)⟩) fun B e=>e▸h'
end eat
end Go.Mw
namespace Go.Mw
section
variable {P:Program} {ops:Array Oper} {A A':JE} {acc:List Fp} {K:List Fp→JE→Prop} {r:List (Oper × Nat)}
theorem JNv (l:List (Nat × AO)):∀(B:JE),B.put (l.reverse.map fun p=>.obj p.1 p.2)=⟨B.tm,l++B.ob,B.bh⟩:=by
 induction l with
 |nil=>intro B;rfl
 |cons p l ih=>
  intro B
  have happ:∀(a b:List Wr) (B:JE),B.put (a++b)=(B.put a).put b:=by
   intro a
   induction a with
   |nil=>intro b B;rfl
   |cons x a ih2=>intro b B;exact ih2 b _
  rw [List.reverse_cons,List.map_append,happ,ih]
  rfl
theorem JWS (a b:List Wr):YP (a++b)=YP a++YP b:=by
 induction a with
 |nil=>rfl
 |cons x a ih=>cases x<;>simp [YP,ih]
theorem JWT (l:List (Nat × AO)):YP (l.map fun p=>.obj p.1 p.2)=l.map fun p=>.obj p.1:=by
 induction l with
 |nil=>rfl
 |cons p l ih=>simp [YP,ih]
theorem JF.lendG {i d:Nat}{f:Operand}{g:FuncId}{ds:List D}{as:List Operand}{tys:Array TypeId}{ty:TypeId}{pos:String}{af:Array Edge}{gd:Option (Nat × Bool)}{args:List AV}{pre obs:List (Nat × AO)}{res:AV}{vs:List AV}{rs wl:List Loc}(lend:List (Nat × Nat))
  (hwt:J3 ops gd A=some true) (hcon:Qr P g args pre (.ret res obs)) (hcan:JN P g=true) (hf:A.ev f=.leaf (.d (.fn g ds))) (hv:as.map A.ev=vs) (hwk:JR (Jj (rn lend (1000*(d+1))) (Qh pre)) (vs++ds.map fun x=>.leaf (.d x)) args)
  (hdom:lend.map Prod.fst=pre.map Prod.fst) (hinj:(lend.map Prod.snd).Nodup) (hin:pre.all (fun p=>p.2.inn (Qh pre))=true)
  (hob:∀p∈pre,∀n,look lend p.1=some n→A.obj n=some (p.2.ren (rn lend (1000*(d+1))))) (hback:∀p∈pre,∃x',look obs p.1=some x' ∧ Z5 p.2 x') (hnew:obs.all (fun p=>(look lend p.1).isSome)=true)
  (hp:after A d (rn lend (1000*(d+1))) res obs A.bh=A')
  (hr:Qo ops ⟨some d,.call { callee:=.value f,args:=as.toArray,argTypes:=tys },ty,pos,af,gd⟩++(YJ (f::as)++lend.map fun p=>.obj p.2)=rs)
  (hw:((obs.map fun p=>Loc.obj (rn lend (1000*(d+1)) p.1)).reverse++[.slot d])=wl)
  (h':JF P ops r A' (⟨rs,wl⟩::acc) K) (htg:(lend.all fun p=>ZG (p.2%1000)==ZG (p.1%1000))=true:=by rfl) :
  JF P ops ((⟨some d,.call { callee:=.value f,args:=as.toArray,argTypes:=tys },ty,pos,af,gd⟩,i)::r) A acc K:=
 .cons (fun ho _ _ hrun=>⟨_,_,ho,by
  have:=YU.sem (P:=P) (ops:=ops) (o:=⟨some d,.call { callee:=.value f,args:=as.toArray,argTypes:=tys },ty,pos,af,gd⟩) (A:=A) (YJ (f::as)++lend.map fun p=>.obj p.2)
    (((obs.map fun p=>(rn lend (1000*(d+1)) p.1,p.2.ren (rn lend (1000*(d+1))))).reverse.map fun p=>.obj p.1 p.2)++[.slot d (res.ren (rn lend (1000*(d+1))))]) hwt (fun B hB C a w Q hd hR=>by
   have ef:B.ev f=A.ev f:=JBq fun l hl=>hB l JAp
   have eas:as.map B.ev=as.map A.ev:=JCt fun l hl=>hB l JAp
   obtain ⟨S,M,ι,hR⟩:=hR
   have hob':∀p∈pre,∀n,look lend p.1=some n→B.obj n=some (p.2.ren (rn lend (1000*(d+1)))):=fun p hp n hn=>by
    have h1:Mw.agree A B (.obj n):=hB (.obj n) (List.mem_append.2 (.inr (List.mem_map.2 ⟨(p.1,n),JBV hn,rfl⟩)))
    exact Eq.trans h1 (hob p hp n hn)
   refine Oper.wpIn_mono (fun a' w' h=>?_) (JHx (f:=f) (as:=as) (caps:=ds.map .d) (lend:=lend) (pre:=pre) (b:=.ret res obs) (κ:=fun _ _=>B.bh) hR hd rfl (by simp [Ym]) (.inl ⟨ds,ef.trans hf,rfl⟩) hcan
    (by rw [eas,hv,List.map_map];exact hwk) hcon (JLx hdom hinj hin hob' hback (fun p hp hn=>by have:=List.all_eq_true.1 hnew p hp;rw [hn] at this;cases this) htg) rfl Q)
   obtain ⟨res',obs',hl,hR'⟩:=h
   obtain ⟨e1,e2⟩:=hl.inv
   subst e1 e2
   have happ:∀(a b:List Wr) (B:JE),B.put (a++b)=(B.put a).put b:=by
    intro a
    induction a with
    |nil=>intro b B;rfl
    |cons x a ih2=>intro b B;exact ih2 b _
   rw [happ,JNv]
   exact hR')
  rw [hr] at this
  exact this,by rw [←hw,JWS,JWT,List.map_reverse,List.map_map];rfl,by
   have happ:∀(a b:List Wr) (B:JE),B.put (a++b)=(B.put a).put b:=by
    intro a
    induction a with
    |nil=>intro b B;rfl
    |cons x a ih2=>intro b B;exact ih2 b _
   rw [happ,JNv]
   show Qe P ops _ (after A d (rn lend (1000*(d+1))) res obs A.bh) _ _
   rw [hp];exact hrun⟩) h'
end
def YL (a b:Nat)(l:List UInt8):List AL:=if l=[] then [.d (.raw (.pointer none)),.d (.raw (.slice none 0 0))] else [.ptr a 0,.own b 0 l.length l.length]
theorem JHk (a b:Nat):YL a b []=[.d (.raw (.pointer none)),.d (.raw (.slice none 0 0))]:=rfl
theorem JEW {l:List UInt8}(h:l≠[])(a b:Nat):YL a b l=[.ptr a 0,.own b 0 l.length l.length]:=if_neg h
theorem JTx (a b:Nat)(l:List UInt8)(r:Nat→Nat):(YL a b l).map (AL.ren r)=YL (r a) (r b) l:=by
 unfold YL;split<;>rfl
theorem JTw (a b:Nat)(l:List UInt8)(os:List Nat)(h:(os.contains a&&os.contains b)=true):(YL a b l).map (AL.keep os)=YL a b l:=by
 rw [Bool.and_eq_true] at h
 unfold YL
 split
 ·rfl
 ·simp only [List.map_cons,List.map_nil,AL.keep,h.1,h.2,if_true]
@[go_sem ↓] theorem JTy (a b:Nat)(l:List UInt8)(r:Nat→Nat):(AO.cells (YL a b l)).ren r=.cells (YL (r a) (r b) l):=congrArg AO.cells (JTx a b l r)
@[go_sem ↓] theorem JYg (a b:Nat)(l:List UInt8)(os:List Nat)(h:(os.contains a&&os.contains b)=true):(AO.cells (YL a b l)).keep os=.cells (YL a b l):=congrArg AO.cells (JTw a b l os h)
@[go_sem ↓] theorem JYh (a b:Nat)(l:List UInt8)(r:Nat→Nat)(n:Nat):AO.ren r ((n,AO.cells (YL a b l)):Nat × AO).2=.cells (YL (r a) (r b) l):=JTy a b l r
@[go_sem] theorem JYe (o k:Nat)(es:List (List D))(a b:Nat)(l:List UInt8)(h:(b==o)=false):(YL a b l).map (AL.frz o k es)=YL a b l:=by
 have hb:¬b=o:=by simpa using h
 unfold YL
 split
 ·rfl
 ·simp only [List.map_cons,List.map_nil,AL.frz,if_neg hb]
@[go_sem] theorem JYf (o:Nat)(ds:List D)(a b:Nat)(l:List UInt8)(h:(a==o)=false):(YL a b l).map (AL.frzc o ds)=YL a b l:=by
 have ha:¬a=o:=by simpa using h
 unfold YL
 split
 ·rfl
 ·simp only [List.map_cons,List.map_nil,AL.frzc,if_neg ha]
theorem JTv (a b:Nat)(l:List UInt8)(ns:List Nat)(ha:ns.contains a=true)(hb:ns.contains b=true):(YL a b l).all (AL.inn ns)=true:=by
 unfold YL
 split
 ·rfl
 ·simp only [List.all_cons,List.all_nil,AL.inn,ha,hb];rfl
theorem JNj (a b:Nat)(l:List UInt8)(e k:Nat)(es:List (List D)):([(a,AO.cells (YL a b l)),(b,.arr e k es)]:List (Nat × AO)).all (fun p=>p.2.inn (Qh [(a,AO.cells (YL a b l)),(b,.arr e k es)]))=true:=by
 have h1:(Qh [(a,AO.cells (YL a b l)),(b,AO.arr e k es)]).contains a=true:=by simp [Qh]
 have h2:(Qh [(a,AO.cells (YL a b l)),(b,AO.arr e k es)]).contains b=true:=by simp [Qh]
 simp only [List.all_cons,List.all_nil,Bool.and_true]
 show ((YL a b l).all (AL.inn (Qh _))&&true)=true
 rw [JTv a b l _ h1 h2];rfl
end Go.Mw
namespace Go.Mw
open Go.RowKit
section conv
variable {P:Program} {A:JE} {d:Nat} {x:Operand} {ty:TypeId} {pos:String} {af:Array Edge} {g:Option (Nat × Bool)} {src dst e:TypeId}
theorem JRq {n:Nat}(h:n<128):Utf8.encode (n:Int)=bs [UInt8.ofNat n]:=by
 have hv:Utf8.valid (n:Int)=true:=by unfold Utf8.valid;simp;omega
 unfold Utf8.encode
 simp only [hv,if_true,Int.toNat_natCast]
 rw [if_pos h]
 rfl
theorem JLa (l:List UInt8):(Jr l).flatten=l.map fun c=>D.raw (.int .u8 c.toNat):=by
 unfold Jr
 induction l with
 |nil=>rfl
 |cons c l ih=>simp [ih]
theorem JOU (hs:P.underlying src=some (.int .i32))(hd:P.underlying dst=some .string){n:Nat}(hn:n<128)(hx:A.ev x=.raw (.int .i32 n)):JAc P ⟨some d,.convert src dst x,ty,pos,af,g⟩ A (.str [UInt8.ofNat n]):=by
 intro C S M ι a w hR
 have hv:=QD hR x
 rw [hx] at hv
 have hv:=Qa (Jn hv)
 refine ⟨.string (bs [UInt8.ofNat n]),?_,⟨_,rfl,RepD.raw _ rfl⟩⟩
 have:=JRq hn
 simp [execOp,hv,Go.convert,run_underlying hs,run_underlying hd,Conv.intToString,this]
theorem JU2 (hs:P.underlying src=some (.slice e))(he:P.underlying e=some (.int .u8))(hd:P.underlying dst=some .string){l:List UInt8}
  (hx:A.ev x=.leaf (.d (.sl 1 (Jr l)))∨(l=[]∧A.ev x=.raw (.slice none 0 0))∨∃q,A.ev x=.leaf (.own q 0 l.length l.length)∧A.obj q=some (.arr e 1 (Jr l))):JAc P ⟨some d,.convert src dst x,ty,pos,af,g⟩ A (.str l):=by
 intro C S M ι a w hR
 have hv:=QD hR x
 have key:(Go.convert src dst (a.eval x)).run P w=.ok (.string (bs l)) w:=by
  have back:∀(p:Addr) (c:Nat),(∀(i:Nat) (b:UInt8),l[i]? = some b→w.cell? (p.add i)=some (.int .u8 b.toNat))→(Go.convert src dst (.slice (some p) l.length c)).run P w=.ok (.string (bs l)) w:=fun p c h=>run_convert_bytes_back (P:=P) w src dst e p c l hs he hd fun j hj=>h j l[j] (List.getElem?_eq_getElem hj)
  have hnil:∀(p:Option Addr) (c:Nat),l=[]→(Go.convert src dst (.slice p 0 c)).run P w=.ok (.string (bs l)) w:=fun p c h=>by
   subst h
   cases p with
   |none=>simp [Go.convert,run_underlying hs,run_underlying hd,run_underlying he,Conv.bytesToString];rfl
   |some p=>exact back p c (fun i b h=>by simp at h)
  rcases hx with hx|⟨hl,hx⟩|⟨q,hx,hq⟩
  ·rw [hx] at hv
   have hv:RepD S w (.sl 1 (Jr l)) _:=Jn hv
   generalize a.eval x=u at hv ⊢
   generalize hes:Jr l=es at hv
   cases hv with
   |nil k p c=>exact hnil p c (by simpa [Jr] using hes)
   |sl k es b off c vals hc hk hS hw hr=>
    have hlen:es.length=l.length:=by rw [←hes,Y2]
    rw [hlen]
    refine back ⟨b,off,none⟩ c fun i y hy=>?_
    have he:es[i]? = some [.raw (.int .u8 y.toNat)]:=by rw [←hes];simp [Jr,hy]
    have h1:=hw i _ 0 _ he rfl
    have h2:=Qa (hr i _ 0 _ he rfl)
    rw [h2,Nat.mul_one,Nat.add_zero] at h1
    rw [Addr.add_lit];exact h1
  ·rw [hx] at hv
   rw [Qa (Jn hv)]
   exact hnil none 0 hl
  ·rw [hx] at hv
   obtain ⟨_,e',k',es,hob,_,hval⟩:=Jn hv
   rw [hq] at hob;cases hob
   have hval:=(hval (Y2 l)).2.1 rfl rfl
   rw [hval]
   obtain ⟨xs,hown,hall,hkk,_,hS⟩:=hR.objs q _ hq
   rw [Y2] at hown
   rcases hown.2 with ⟨h0,hz⟩|⟨b,cap,cur,h0,h1,h2,h3,h4,h5,h6⟩
   ·rw [h0];exact hnil none 0 (List.eq_nil_of_length_eq_zero hz)
   ·have hcs:=hown.cells (g:=b) (by rw [h0];rfl)
    rw [h0]
    refine back ⟨b,0,none⟩ cap fun i y hy=>?_
    have he:(Jr l).flatten[i]? = some (.raw (.int .u8 y.toNat)):=by
     have:(Jr l).flatten=l.map fun c=>D.raw (.int .u8 c.toNat):=JLa l
     rw [this,List.getElem?_map,hy];rfl
    obtain ⟨u,hu,hr⟩:=hall.get' he
    have:=Qa hr
    rw [hcs i u hu,this]
 exact ⟨_,by simp [execOp,key],⟨_,rfl,RepD.raw _ rfl⟩⟩
end conv
end Go.Mw
namespace Go.Mw
open Go.RowKit
theorem JO.arr0 (A:JE)(o:Nat)(e:TypeId)(k:Nat)(ho:A.obj o=none)(hk:0<k)(hN:1000≤o):JO A (A.put [.obj o (.arr e k [])]):=by
 intro P C a w ⟨S,M,ι,hR⟩
 have hon:Q0 ι A o w w:=⟨rfl,rfl,rfl,Nat.le_refl _,fun _ _ _=>rfl⟩
 have ht:Qt ι A o (.arr e k []) (.slice none 0 0):=JAw ho _ _
 have hpin:C.pin o=none:=by
  cases hp:C.pin o with
  |none=>rfl
  |some q=>have:=hR.pinN o (by rw [hp];simp);omega
 exact ⟨S,_,_,hR.chg hon ht ⟨[],by rw [upd_same];exact World.ownsRow_nil w 0 e k,by trivial,by simp,hk,fun b hb=>by rw [upd_same] at hb;simp [blk] at hb⟩ (fun b hb=>by simp [blk] at hb) (by simp) fun _=>hpin⟩
theorem JA.arr0 {P:Program}{ops:Array Oper}{Ψ:JE→Prop}{A A':JE}{l:List Oper}(o:Nat)(e:TypeId)(k:Nat)(ho:A.obj o=none)(hk:0<k)(hN:1000≤o)(hp:A.put [.obj o (.arr e k [])]=A')(h':JA P ops Ψ l A'):JA P ops Ψ l A:=
 .ghost (JO.arr0 A o e k ho hk hN) (hp▸h')
section appC
variable {P:Program} {ops:Array Oper} {A A':JE} {d:Nat}
structure JDC (P:Program) (A:JE) (s x:Operand) (t e:TypeId) (q r:Nat) (ds:List D) (es:List (List D)) (d:Nat) (i:TypeInfo) (z:Value):Prop where
 hs:A.ev s=.leaf (.csl q 0 ds.length)
 hx:A.ev x=.leaf (.own r 0 es.length es.length)
 hq:A.obj q=some (.cells (ds.map .d))
 hr:A.obj r=some (.arr e 1 es)
 hd:A.obj d=none
 ht:P.underlying t=some (.slice e)
 hi:P.info? e=some i
 hz:i.zero=some z∧i.size=1∧z.cells.size=1
 h0:0<es.length
 hlen:ds.length+es.length≤1048576∧(ds.length+es.length)*i.bytes≤140737488355328
theorem JKP {C:Ctx P}{a:Act}{w:World}{s x:Operand}{t e ty:TypeId}{pos:String}{af:Array Edge}{q r:Nat}{ds:List D}{es:List (List D)}{i:TypeInfo}{z:Value}(h:JDC P A s x t e q r ds es d i z)(hd:C.can d)(hR:QP C A a w)(Q:Exit→Act→World→Prop) :
  (⟨some d,.call { callee:=.builtin .append,args:=#[s,x],argTypes:=#[t,t] },ty,pos,af,none⟩:Oper).wpIn (Qj C) 0 P a w
   (fun a' w'=>QP C (A.put [.slot d (.leaf (.own d 0 ((ds.map fun y=>[y])++es).length ((ds.map fun y=>[y])++es).length)),.obj d (.arr e 1 ((ds.map fun y=>[y])++es))]) a' w') Q:=by
 obtain ⟨S,M,ι,hR⟩:=hR
 have h1:=QD hR s
 rw [h.hs] at h1
 obtain ⟨ls,b,c,g1,g2,g3,g4⟩:=Jn h1
 rw [h.hq] at g1;cases g1
 subst g4
 obtain ⟨b',vs,el,k1,k2,k3,_⟩:=hR.objs q _ h.hq
 rw [g2] at k1;cases k1
 have h2:=QD hR x
 rw [h.hx] at h2
 obtain ⟨_,e',k',es',j1,_,j2⟩:=Jn h2
 rw [h.hr] at j1;cases j1
 have j2:=(j2 rfl).2.1 rfl rfl
 obtain ⟨xs,hown,hall,hkk,_,hS⟩:=hR.objs r _ h.hr
 obtain ⟨g,cap,cur,u1,u2,u3,u4,u5,u6,u7⟩:∃g cap cur,ι r=.slice (some ⟨g,0,none⟩) es.length cap∧0≤g∧w.heap[g]? = some (.cells cur e (0,0))∧es.length≤cap∧cap≤maxLen∧cur.size=cap*1∧cur.toList.take (es.length*1)=xs:=by
  rcases hown.2 with ⟨_,hz⟩|h
  ·exact absurd hz (by have:=h.h0;omega)
  ·exact h
 have hcs:=hown.cells (g:=g) (by rw [u1];rfl)
 have hvl:vs.length=ds.length:=by have:=k3.length;simpa using this.symm
 have hxl:xs.length=es.length:=by simpa using hown.1
 have holds:∀j u,vs[j]? = some u→w.cell? ((⟨b,0,none⟩:Addr).add j)=some u:=fun j u hj=>by
  rw [Addr.add_lit]
  show w.cell? ⟨b,0+j,none⟩=_
  rw [Nat.zero_add,Lib.cell_of_heap k2]
  simpa using hj
 have hnews:∀j u,xs[j]? = some u→w.cell? ((⟨g,0,none⟩:Addr).add j)=some u:=hcs
 have hone:∀u∈xs,u.oneCell'=true:=JD7 hall
 have hr:=run_append_grow (P:=P) w t ty e i z h.ht h.hi h.hz.1 ⟨b,0,none⟩ ds.length ds.length vs (by rw [h.hz.2.1,hvl,Nat.mul_one]) holds ⟨g,0,none⟩ es.length cap xs (by rw [h.hz.2.1,hxl,Nat.mul_one]) hnews (by have:=h.h0;omega) (by have:=h.hlen;omega) (growslice_fits (by have:=h.h0;omega) h.hlen.2)
 have hge:=grownCap_ge w (ds.length+es.length) ds.length e
 have hcm:=grownCap_le_maxLen w (ds.length+es.length) ds.length e (by have:=h.hlen;simp only [maxLen];omega)
 have hll:(vs++xs).length=(ds.length+es.length)*1:=by rw [List.length_append,hvl,hxl,Nat.mul_one]
 have hflat:((ds.map fun y=>[y])++es).flatten=ds++es.flatten:=by
  rw [List.flatten_append]
  congr 1
  clear h hR h1 h2 k3 hall g3 holds hr hge hcm hll hvl
  induction ds with
  |nil=>rfl
  |cons y l ih=>simp [ih]
 have hlen2:((ds.map fun y=>[y])++es).length=ds.length+es.length:=by simp
 have hds:JR (RepD S w) ds vs:=by
  clear h hR h1 h2 hall g3 holds hr hge hcm hll hvl hflat hlen2 k2
  induction ds generalizing vs with
  |nil=>cases vs with
   |nil=>trivial
   |cons _ _=>exact k3.elim
  |cons y l ih=>cases vs with
   |nil=>exact k3.elim
   |cons v vs=>exact ⟨k3.1,ih _ k3.2⟩
 have hex:(execOp a.eval ⟨some d,.call { callee:=.builtin .append,args:=#[s,x],argTypes:=#[t,t] },ty,pos,af,none⟩).run P w=.ok (.value _) _:=JFc rfl (by rw [g3,j2,u1];exact hr)
 refine JDm (JGE hR rfl hd h.hd (k:=1) (es:=(ds.map fun y=>[y])++es) (xs:=vs++xs) hex ⟨rfl,rfl,rfl,by simp,fun k hk _=>Below.heap_alloc w.drew _ k hk⟩ ?_ (fun k hk=>by simp [blk] at hk;omega) ?_ ?_ (by omega)) Q
 ·rw [hlen2]
  refine ⟨hll,.inr ⟨w.heap.size,_,_,rfl,Nat.zero_le _,heap_alloc_new w.drew _,hge,hcm,?_,?_⟩⟩
  ·simp only [Array.size_append,List.size_toArray,size_zeroCells,h.hz.2.2,hvl,hxl]
   omega
  ·simp only [Array.toList_append,List.append_assoc]
   rw [←List.append_assoc,←hll]
   exact List.take_left
 ·rw [hflat];exact hds.append hall
 ·intro y hy
  rcases List.mem_append.1 hy with hy|hy
  ·obtain ⟨_,_,rfl⟩:=List.mem_map.1 hy;rfl
  ·exact hkk y hy
theorem JDC.agr {s x:Operand}{t e:TypeId}{q r:Nat}{ds:List D}{es:List (List D)}{i:TypeInfo}{z:Value}(h:JDC P A s x t e q r ds es d i z){B:JE}(ha:∀l∈YJ [s,x]++[.obj q,.obj r,.obj d],Mw.agree A B l):JDC P B s x t e q r ds es d i z:=by
 have hs:B.ev s=A.ev s:=JBq fun l hl=>ha l JAp
 have hx:B.ev x=A.ev x:=JBq fun l hl=>ha l (by rw [JHh,JHh];simp [hl])
 have hq:Mw.agree A B (.obj q):=ha (.obj q) (by simp)
 have hr:Mw.agree A B (.obj r):=ha (.obj r) (by simp)
 have hd:Mw.agree A B (.obj d):=ha (.obj d) (by simp)
 exact { h with hs:=hs.trans h.hs,hx:=hx.trans h.hx,hq:=Eq.trans hq h.hq,hr:=Eq.trans hr h.hr,hd:=Eq.trans hd h.hd }
theorem JA.appC {Φ:JE→Prop}{l:List Oper}{s x:Operand}{t e ty:TypeId}{pos:String}{af:Array Edge}{ds:List D}{es:List (List D)}{i:TypeInfo}{z:Value}(q r:Nat)(h:JDC P A s x t e q r ds es d i z)
  (hp:A.put [.slot d (.leaf (.own d 0 ((ds.map fun y=>[y])++es).length ((ds.map fun y=>[y])++es).length)),.obj d (.arr e 1 ((ds.map fun y=>[y])++es))]=A') (h':JA P ops Φ l A') :
  JA P ops Φ (⟨some d,.call { callee:=.builtin .append,args:=#[s,x],argTypes:=#[t,t] },ty,pos,af,none⟩::l) A:=
 .sem (K:=fun B=>B=A') rfl (fun C a w Q hd hR=>Oper.wpIn_mono (fun a' w' h=>⟨A',rfl,hp▸h⟩) (JKP h (hd d rfl) hR Q)) fun B e=>e▸h'
theorem JF.appC {acc:List Fp}{K:List Fp→JE→Prop}{l:List (Oper × Nat)}{k:Nat}{s x:Operand}{t e ty:TypeId}{pos:String}{af:Array Edge}{ds:List D}{es:List (List D)}{i:TypeInfo}{z:Value}{rs:List Loc}(q r:Nat)(h:JDC P A s x t e q r ds es d i z)
  (hr:YJ [s,x]++[.obj q,.obj r,.obj d]=rs)
  (hp:A.put [.slot d (.leaf (.own d 0 ((ds.map fun y=>[y])++es).length ((ds.map fun y=>[y])++es).length)),.obj d (.arr e 1 ((ds.map fun y=>[y])++es))]=A')
  (h':JF P ops l A' (⟨rs,[.slot d,.obj d]⟩::acc) K):JF P ops ((⟨some d,.call { callee:=.builtin .append,args:=#[s,x],argTypes:=#[t,t] },ty,pos,af,none⟩,k)::l) A acc K:=
 .cons (fun ho _ _ hrun=>⟨_,_,ho,by
  have:=YU.sem (P:=P) (ops:=ops) (o:=⟨some d,.call { callee:=.builtin .append,args:=#[s,x],argTypes:=#[t,t] },ty,pos,af,none⟩) (A:=A) (YJ [s,x]++[.obj q,.obj r,.obj d]) [.slot d (.leaf (.own d 0 ((ds.map fun y=>[y])++es).length ((ds.map fun y=>[y])++es).length)),.obj d (.arr e 1 ((ds.map fun y=>[y])++es))] rfl fun B hB C a w Q hd hR=>JKP (h.agr hB) (hd d rfl) hR Q
  rw [show Qo ops ⟨some d,.call { callee:=.builtin .append,args:=#[s,x],argTypes:=#[t,t] },ty,pos,af,none⟩++(YJ [s,x]++[.obj q,.obj r,.obj d])=rs from hr] at this
  exact this,rfl,hp▸hrun⟩) h'
theorem JF.appF {acc:List Fp}{K:List Fp→JE→Prop}{l:List (Oper × Nat)}{k:Nat}{s x:Operand}{t e ty:TypeId}{pos:String}{af:Array Edge}{ds:List D}{es:List (List D)}{i:TypeInfo}{z:Value}{rs:List Loc}(q r:Nat)(h:JDC P A s x t e q r ds es d i z)
  (hr:YJ [s,x]++[.obj q,.obj r,.obj d]=rs)
  (hp:A.put [.slot d (.leaf (.d (.sl 1 ((ds.map fun y=>[y])++es))))]=A')
  (h':JF P ops l A' (⟨rs,[.slot d]⟩::acc) K):JF P ops ((⟨some d,.call { callee:=.builtin .append,args:=#[s,x],argTypes:=#[t,t] },ty,pos,af,none⟩,k)::l) A acc K:=
 .cons (fun ho _ _ hrun=>⟨_,_,ho,by
  have:=YU.sem (P:=P) (ops:=ops) (o:=⟨some d,.call { callee:=.builtin .append,args:=#[s,x],argTypes:=#[t,t] },ty,pos,af,none⟩) (A:=A) (YJ [s,x]++[.obj q,.obj r,.obj d]) [.slot d (.leaf (.d (.sl 1 ((ds.map fun y=>[y])++es))))] rfl fun B hB C a w Q hd hR=>
   Oper.wpIn_mono (fun a' w' h2=>JOY rfl (h.agr hB).hd hR h2) (JKP (h.agr hB) (hd d rfl) hR Q)
  rw [show Qo ops ⟨some d,.call { callee:=.builtin .append,args:=#[s,x],argTypes:=#[t,t] },ty,pos,af,none⟩++(YJ [s,x]++[.obj q,.obj r,.obj d])=rs from hr] at this
  exact this,rfl,hp▸hrun⟩) h'
theorem JRb {C:Ctx P}{S:Jd}{M:QA}{ι:Nat→Value}{a:Act}{w:World}(hR:Jf C S M ι A a w){q:Nat}{ds:List D}{v:Value}(hq:A.obj q=some (.cells (ds.map .d)))(h:Jh S ι A.obj w (.csl q 0 ds.length) v):RepD (JAh w) w (.sl 1 (ds.map fun y=>[y])) v:=by
 obtain ⟨ls,b,c,g1,g2,g3,g4⟩:=h
 rw [hq] at g1;cases g1
 subst g4
 obtain ⟨b',vs,el,k1,k2,k3,_⟩:=hR.objs q _ hq
 rw [g2] at k1;cases k1
 have hb:=(Array.getElem?_eq_some_iff.1 k2).1
 have hl:(ds.map fun y=>[y]).length=ds.length:=List.length_map _
 have key:∀(i j:Nat) (e:List D) (d:D),(ds.map fun y=>[y])[i]? = some e→e[j]? = some d→j=0∧ds[i]? = some d:=fun i j e d h1 h2=>by
  rw [List.getElem?_map] at h1
  cases hi:ds[i]? with
  |none=>rw [hi] at h1;cases h1
  |some y=>
   rw [hi] at h1
   simp only [Option.map_some,Option.some.injEq] at h1
   subst h1
   cases j with
   |zero=>simp at h2;exact ⟨rfl,by rw [h2]⟩
   |succ j=>simp at h2
 rw [g3]
 have hg:∀(i:Nat) (d:D),ds[i]? = some d→∃u,vs[i]? = some u∧RepD S w d u:=fun i d hi=>by
  obtain ⟨u,hu,hr⟩:=k3.get' (i:=i) (a:=.d d) (by rw [List.getElem?_map,hi];rfl)
  exact ⟨u,hu,hr⟩
 have:=RepD.sl (S:=JAh w) (w:=w) 1 (ds.map fun y=>[y]) b 0 ds.length (fun i _=>vs.getD i undef) (by rw [hl];exact Nat.le_refl _) (fun i e hi=>by rw [List.getElem?_map] at hi;cases h:ds[i]?<;>rw [h] at hi<;>simp at hi;subst hi;rfl)
  (fun i e j d h1 h2=>hb) (fun i e j d h1 h2=>by
   obtain ⟨rfl,hi⟩:=key i j e d h1 h2
   obtain ⟨u,hu,_⟩:=hg i d hi
   rw [Nat.mul_one,Nat.add_zero,Nat.zero_add,Lib.cell_of_heap k2]
   simp [hu]) (fun i e j d h1 h2=>by
   obtain ⟨rfl,hi⟩:=key i j e d h1 h2
   obtain ⟨u,hu,hr⟩:=hg i d hi
   show RepD _ _ d (vs.getD i undef)
   have:vs.getD i undef=u:=by simp [List.getD,hu]
   rw [this]
   exact hr.mono (fun b o h=>hR.inn b o h) fun _ _ _=>rfl)
 rw [hl] at this
 exact this
theorem JF.calC {acc:List Fp}{K:List Fp→JE→Prop}{l:List (Oper × Nat)}{k:Nat}{g:FuncId}{a0:Operand}{as:List Operand}{tys:Array TypeId}{ty:TypeId}{pos:String}{af:Array Edge}{ds:List D}{args args0:List AV}{u:Value}{rs:List Loc}(q:Nat)
  (hcon:Ja P g (.leaf (.d (.sl 1 (ds.map fun y=>[y])))::args) (.raw u) []) (hcan:JN P g=true) (h0:A.ev a0=.leaf (.csl q 0 ds.length)) (hq:A.obj q=some (.cells (ds.map .d))) (hv:as.map A.ev=args0) (hpure:∀B:JE,args0.map (JFE B)=args.map some) 
  (hr:YJ (a0::as)++[.obj q]=rs) (hp:A.put [.slot d (.raw u)]=A')
  (h':JF P ops l A' (⟨rs,[.slot d]⟩::acc) K):JF P ops ((⟨some d,.call { callee:=.value (.func g),args:=(a0::as).toArray,argTypes:=tys },ty,pos,af,none⟩,k)::l) A acc K:=
 .cons (fun ho _ _ hrun=>⟨_,_,ho,by
  have:=YU.sem (P:=P) (ops:=ops) (o:=⟨some d,.call { callee:=.value (.func g),args:=(a0::as).toArray,argTypes:=tys },ty,pos,af,none⟩) (A:=A) (YJ (a0::as)++[.obj q]) [.slot d (.raw u)] rfl fun B hB C a w Q hd hR=>by
   have e0:B.ev a0=A.ev a0:=JBq fun l hl=>hB l JAp
   have eas:as.map B.ev=as.map A.ev:=JCt fun l hl=>hB l JAp
   have eq:Mw.agree A B (.obj q):=hB (.obj q) (by simp)
   have eq':B.obj q=some (.cells (ds.map .d)):=Eq.trans eq hq
   obtain ⟨S,M,ι,hR⟩:=hR
   have hfv:a.eval (.func g)=.func (.func g) #[] #[]:=rfl
   have h1:=QD hR a0
   rw [e0,h0] at h1
   have hd0:=JRb hR eq' (Jn h1)
   have hres:=JME hR (by rw [eas,hv];exact hpure B) (JB0 hR as)
   refine Oper.wpIn_mono (fun a' w' h=>?_) (JVK (us:=a.eval a0::as.map a.eval) (args:=.leaf (.d (.sl 1 (ds.map fun y=>[y])))::args) (res:=.raw u) (obs:=[]) hR hd rfl ?_ ⟨⟨_,rfl,hd0⟩,hres⟩ hcon rfl rfl (fun q x h=>by cases h) Q)
   ·exact h
   ·simp [execOp,resolve,hfv,Deferred.ofValue,invoke,JEh hcan]
  rw [show Qo ops ⟨some d,.call { callee:=.value (.func g),args:=(a0::as).toArray,argTypes:=tys },ty,pos,af,none⟩++(YJ (a0::as)++[.obj q])=rs from hr] at this
  exact this,rfl,hp▸hrun⟩) h'
end appC
end Go.Mw
namespace Go.Mw
open Go.RowKit
section
variable {P:Program} {A:JE} {d:Nat} {x:Operand} {ty:TypeId} {pos:String} {af:Array Edge} {g:Option (Nat × Bool)} {t tz e:TypeId}
theorem JU4 (ht:P.underlying t=some (.slice e)){q el k n:Nat}{es:List (List D)}(hx:A.ev x=.leaf (.own q 0 n n))(hq:A.obj q=some (.arr el k es))(hl:es.length=n)(hn:0<n) :
  JAc P ⟨some d,.binOp .eql t x (.const (.slice none 0 0)) tz,ty,pos,af,g⟩ A (.bool false):=by
 intro C S M ι a w hR
 have h1:=QD hR x
 rw [hx] at h1
 obtain ⟨_,e',k',es',j1,_,j2⟩:=Jn h1
 rw [hq] at j1
 cases j1
 have hv:=(j2 hl).2.1 rfl rfl
 obtain ⟨xs,hown,_⟩:=hR.objs q _ hq
 rcases hown.2 with ⟨_,hz⟩|⟨b,cap,cur,u1,_⟩
 ·omega
 ·have:=Lib.run_eql_slice_some_nil (P:=P) w ⟨b,0,none⟩ es.length cap ht
  refine ⟨.bool false,?_,⟨_,rfl,RepD.raw _ rfl⟩⟩
  have hc:a.eval (.const (.slice none 0 0))=.slice none 0 0:=rfl
  simp [execOp,hv,u1,hc,eqGuard,this]
end
theorem JSm (ls:List AL)(i:Nat):JR LLe ls (ls.set i .dead):=by
 induction ls generalizing i with
 |nil=>trivial
 |cons l ls ih=>cases i with
  |zero=>exact ⟨.inr rfl,JGk ls⟩
  |succ i=>exact ⟨.inl rfl,ih i⟩
theorem JO.deadc {A:JE}{q:Nat}{ls:List AL}(i:Nat)(ho:A.obj q=some (.cells ls)):JO A (A.put [.obj q (.cells (ls.set i .dead))]):=
 JO.wkc _ ho fun S ι H w vs h=>JJR (JSm ls i) h
theorem JA.deadc {P:Program}{ops:Array Oper}{Ψ:JE→Prop}{A A':JE}{l:List Oper}(q i:Nat){ls:List AL}(ho:A.obj q=some (.cells ls))(hp:A.put [.obj q (.cells (ls.set i .dead))]=A')(h':JA P ops Ψ l A'):JA P ops Ψ l A:=
 .ghost (JO.deadc i ho) (hp▸h')
end Go.Mw
namespace Go.Mw
section
variable {P:Program} {ops:Array Oper} {A A':JE} {pv:Value}
def live (ops:Array Oper):List Nat→List (Oper × Nat)
 |[]=>[]
 |i::r=>match ops.toList.drop i with
  |o::_=>(o,i)::live ops r
  |[]=>[]
theorem JJP:∀(l:List Nat) (p:Oper × Nat),p∈live ops l→ops[p.2]? = some p.1
 |[],p,h=>by cases h
 |i::r,p,h=>by
  unfold live at h
  split at h
  ·rename_i o t he
   rcases List.mem_cons.1 h with e|h
   ·subst e
    have:ops.toList[i]? = some o:=by
     rw [show ops.toList[i]? = (ops.toList.drop i)[0]? by rw [List.getElem?_drop,Nat.add_zero],he];rfl
    simpa using this
   ·exact JJP r p h
  ·cases h
theorem JJQ:∀(l:List Nat),(l.all fun i=>decide (i<ops.size))=true→(live ops l).map Prod.snd=l
 |[],_=>rfl
 |i::r,h=>by
  simp only [List.all_cons,Bool.and_eq_true,decide_eq_true_eq] at h
  unfold live
  split
  ·rw [List.map_cons,JJQ r h.2]
  ·rename_i he
   have:=List.drop_eq_nil_iff.1 he
   simp at this;omega
def JGN (P:Program)(ops:Array Oper)(pv:Value)(n p:Nat)(l:List Nat)(o:Oper)(Ψ:Prop)(fs:List Fp)(B:JE):Prop:=
 ∃rs,JAo P ops pv o B rs∧(decide (fs.length=l.length)&&down ops&&JEH ops n p)=true∧Y4 ops n (l.zip fs++[(p,⟨rs,[]⟩)])=true∧Ψ
theorem JNR {n p:Nat}{l:List Nat}{o:Oper}{Φ:Value→JE→Prop}(ho:ops.toList[p]? = some o)(hl:(decide (JBU ops n p=l)&&l.all fun i=>decide (i<ops.size))=true)
  (h:JF P ops (live ops l) A [] (JGN P ops pv n p l o (Φ pv ⟨[],[],A.bh⟩))):JDp P ops Φ A:=by
 simp only [Bool.and_eq_true,decide_eq_true_eq] at hl
 obtain ⟨fs,B,h1,rs,h2,h3,h4,h5⟩:=h fun q hq=>JJP l q hq
 rw [JJQ l hl.2] at h1
 simp only [Bool.and_eq_true,decide_eq_true_eq,List.reverse_nil,List.nil_append] at h3 h4
 refine ⟨pv,n,p,o,fs,B,rs,by simpa using ho,?_,h2,?_,h3.1.2,?_,h3.2,h5⟩
 ·rw [hl.1];exact h1
 ·rw [hl.1];exact of_decide_eq_true h3.1.1
 ·rw [hl.1];exact h4
theorem JB.opp {id:Nat}{y:Code}{Φ:Exit→JE→Prop}(n p:Nat)(l:List Nat){o:Oper}(ho:ops.toList[p]? = some o)(hl:(decide (JBU ops n p=l)&&l.all fun i=>decide (i<ops.size))=true)
  (h:JF P ops (live ops l) A [] (JGN P ops pv n p l o (Φ (.panic (Zc pv)) ⟨[],[],A.bh⟩))):JB P (.seq (.region id ops true) y) Φ A:=
 .inr ⟨A,JO.refl A,JNR ho hl h⟩
theorem JB.opp1 {id:Nat}{Φ:Exit→JE→Prop}(n p:Nat)(l:List Nat){o:Oper}(ho:ops.toList[p]? = some o)(hl:(decide (JBU ops n p=l)&&l.all fun i=>decide (i<ops.size))=true)
  (h:JF P ops (live ops l) A [] (JGN P ops pv n p l o (Φ (.panic (Zc pv)) ⟨[],[],A.bh⟩))):JB P (.region id ops true) Φ A:=
 .inr ⟨A,JO.refl A,JNR ho hl h⟩
theorem JF.pang {n p:Nat}{l:List Nat}{Ψ:Prop}{acc:List Fp}{d:Option Nat}{f:Operand}{g:FuncId}{ds:List D}{as:List Operand}{tys:Array TypeId}{ty:TypeId}{pos:String}{af:Array Edge}{args vs:List AV}{pre:List (Nat × AO)}(lend:List (Nat × Nat))(B:Nat)
  (hp:QZ P pv g args pre) (hcan:JN P g=true) (hf:A.ev f=.leaf (.d (.fn g ds))) (hv:as.map A.ev=vs) (hwk:JR (Jj (rn lend B) (Qh pre)) (vs++ds.map fun x=>.leaf (.d x)) args)
  (lent:∀q x,look pre q=some x→∃n y,look lend q=some n∧A.obj n=some y∧QO y (x.ren (rn lend B))∧x.inn (Qh pre)=true) (inj:∀q q' n,look lend q=some n→look lend q'=some n→q=q')
  (hk:(decide (acc.reverse.length=l.length)&&down ops&&JEH ops n p)=true)
  (ho:Y4 ops n (l.zip acc.reverse++[(p,⟨YJ (f::as)++lend.map fun p=>.obj p.2,[]⟩)])=true) (h:Ψ) (htg:(pre.all fun p=>(ZG (p.1%1000)).isNone)=true:=by rfl) :
  JF P ops [] A acc (JGN P ops pv n p l ⟨d,.call { callee:=.value f,args:=as.toArray,argTypes:=tys },ty,pos,af,none⟩ Ψ):=
 .nil ⟨_,⟨rfl,_,rfl,.inl ⟨f,as,g,ds,B,args,lend,pre,by simp [Ym],hf,hcan,by rw [hv];exact hwk,⟨hp,htg⟩,lent,inj,rfl⟩⟩,hk,ho,h⟩
end
end Go.Mw
namespace Go.Mw
open Go.RowKit
def JGO (P:Program)(f g:FuncId)(T1 T2:TypeId):Prop:=∀(x:Value) (w:World) (G:Value→World→Prop),
  Calls P g #[x] ((w.alloc (.cells #[.slice none 0 0] T1)).alloc (.cells #[.int .i64 0] T2)) (fun e w'=>∃p n c,e=.returned (.slice p n c)∧G (.slice p n c) w' ∧
   w'.heap[w.heap.size]? = some (.cells #[.slice none 0 0] T1 (0,0))∧w'.heap[w.heap.size+1]? = some (.cells #[.int .i64 0] T2 (0,0))) →
  Calls P f #[.func (.func g) #[] #[x]] w fun e w'=>∃r w2,G r w2∧e=.returned (.tuple #[r,.int .i64 0])∧w'=(w2.setCell ⟨w.heap.size,0,none⟩ r).setCell ⟨w.heap.size+1,0,none⟩ (.int .i64 0)
def JGP (P:Program)(f g:FuncId)(pv:Value)(T1 T2 T3:TypeId):Prop:=∀(x:Value) (w:World) (G:World→Prop),
  Calls P g #[x] ((w.alloc (.cells #[.slice none 0 0] T1)).alloc (.cells #[.int .i64 0] T2)) (fun e w'=>e=.panicked (Zc pv)∧G w' ∧
   w'.heap[w.heap.size]? = some (.cells #[.slice none 0 0] T1 (0,0))∧w'.heap[w.heap.size+1]? = some (.cells #[.int .i64 0] T2 (0,0))) →
  Calls P f #[.func (.func g) #[] #[x]] w fun e w'=>∃w2,G w2∧e=.returned (.tuple #[.slice none 0 0,.int .i64 8])∧w'=(((w2.setCell ⟨w.heap.size,0,none⟩ (.slice none 0 0)).setCell ⟨w.heap.size+1,0,none⟩ (.int .i64 8)).alloc (.cells #[.int .i64 8] T3)).drew
section
variable {P:Program} {f g:FuncId} {T1 T2 T3:TypeId}
theorem JO6 (w:World)(o1 o2:Obj):((w.alloc o1).alloc o2).heap.size=w.heap.size+2∧((w.alloc o1).alloc o2).heap[w.heap.size]? = some o1∧((w.alloc o1).alloc o2).heap[w.heap.size+1]? = some o2 ∧
  ∀k,k<w.heap.size→((w.alloc o1).alloc o2).heap[k]? = w.heap[k]? :=by
 have hs:(w.alloc o1).heap.size=w.heap.size+1:=by rw [World.alloc,Array.size_push]
 refine ⟨by rw [World.alloc,Array.size_push,hs],?_,?_,fun k hk=>?_⟩
 ·exact (Below.heap_alloc (w.alloc o1) o2 _ (by omega)).trans (heap_alloc_new w o1)
 ·have:=heap_alloc_new (w.alloc o1) o2
  rwa [hs] at this
 ·exact (Below.heap_alloc (w.alloc o1) o2 _ (by omega)).trans (Below.heap_alloc w o1 _ hk)
def JRs (E:Env P)(b:Jg)(b1 b2:Nat)(x1 x2:Obj):Env P where
 l:=E.l
 J:=fun c S M w=>(∃r o,c=.ret r o)∧E.J b S (fun k=>M k∨k=b1∨k=b2) w∧w.heap[b1]? = some x1∧w.heap[b2]? = some x2∧¬M b1∧¬M b2
 glob:=fun h=>E.glob h.2.1
 step:=fun {c S M w S' M' w'} ⟨h0,h1,h2,h3,h4,h5⟩ hf hM hM' hS hS'=>by
  have l1:=(Array.getElem?_eq_some_iff.1 h2).1
  have l2:=(Array.getElem?_eq_some_iff.1 h3).1
  refine ⟨h0,E.step h1 ⟨hf.os,hf.tape,hf.output,hf.size,fun k hk hn=>hf.block k hk fun h=>hn (.inl h),hf.cell⟩ (fun k h=>h.imp_left (hM k)) (fun k h=>?_) hS (fun k o h=>(hS' k o h).imp_right .inl),(hf.block b1 l1 h4).trans h2,(hf.block b2 l2 h5).trans h3,?_,?_⟩
  ·rcases h with h|h
   ·exact (hM' k h).imp_left .inl
   ·exact .inl (.inr h)
  ·intro h;rcases hM' b1 h with h|h
   ·exact h4 h
   ·omega
  ·intro h;rcases hM' b2 h with h|h
   ·exact h5 h
   ·omega
 yld:=fun {args k S M w vs} h=>by obtain ⟨⟨r,o,h⟩,_⟩:=h;cases h
theorem JIg (hw:JGO P f g T1 T2){d x:D}(hx:∀S w v,RepD S w x v→∃p n c,v=.slice p n c)(hc:Qr P g [.leaf (.d d)] [] (.ret (.leaf (.d x)) [])) :
  Ja P f [.leaf (.d (.fn g [d]))] (.tup [(false,[.d x]),(false,[.d (.raw (.int .i64 0))])]) []:=by
 intro E S M ι w vs hin hmin hobj hdis hown htok hargs hJ
 match vs,hargs with
 |[v],⟨q0,_⟩=>
 have hv:=Jn q0
 obtain ⟨xv,rfl,hxv⟩:∃xv,v=.func (.func g) #[] #[xv]∧RepD S w d xv:=by
  cases hv with
  |fn _ _ vals hl hr=>
   match vals,hl with
   |[xv],_=>exact ⟨xv,rfl,hr 0 d xv rfl rfl⟩
 obtain ⟨t1,t2,t3,t4⟩:=JO6 w (.cells #[.slice none 0 0] T1) (.cells #[.int .i64 0] T2)
 have hcell:∀b o,S b o→((w.alloc (.cells #[.slice none 0 0] T1)).alloc (.cells #[.int .i64 0] T2)).cell? ⟨b,o,none⟩=w.cell? ⟨b,o,none⟩:=fun b o h=>World.cell?_of_block (t4 b (hin b o h))
 have n1:¬M w.heap.size:=fun h=>by have:=hmin _ h;omega
 have n2:¬M (w.heap.size+1):=fun h=>by have:=hmin _ h;omega
 have hJ1:E.J (.ret (.tup [(false,[.d x]),(false,[.d (.raw (.int .i64 0))])]) []) S (fun k=>M k∨k=w.heap.size∨k=w.heap.size+1) ((w.alloc (.cells #[.slice none 0 0] T1)).alloc (.cells #[.int .i64 0] T2)):=
  E.step hJ ⟨rfl,rfl,rfl,by omega,fun k hk _=>t4 k hk,hcell⟩ (fun _ h=>.inl h) (fun k h=>by rcases h with h|h|h<;>first|exact .inl h|(right;omega)) (fun _ _ h=>h) (fun _ _ h=>.inl h)
 have hcal:=hc (JRs E _ w.heap.size (w.heap.size+1) _ _) S M Yz _ [xv] (fun b o h=>by have:=hin b o h;omega) (fun k h=>by have:=hmin k h;omega) (fun o y h=>by cases h) (fun o o' y y' b h=>by cases h) (fun o y b h=>by cases h) (fun o h=>by cases h)
  ⟨Qx (RepD.mono (fun _ _ h=>h) hcell hxv),trivial⟩ ⟨⟨_,_,rfl⟩,hJ1,t2,t3,n1,n2⟩
 rw [callsIn_wide] at hcal
 have hres:=hw xv w (fun r w2=>∃(S':Jd) (M':QA),E.J (.ret (.tup [(false,[.d x]),(false,[.d (.raw (.int .i64 0))])]) []) S' (fun k=>M' k∨k=w.heap.size∨k=w.heap.size+1) w2∧RepD S' w2 x r∧¬M' w.heap.size∧¬M' (w.heap.size+1) ∧
   (∀b o,S b o→S' b o)∧(∀b o,S' b o→S b o∨M' b)∧(∀b o,S' b o→b<w2.heap.size)∧(∀b,M' b→b<w2.heap.size)∧w.heap.size+2≤w2.heap.size) (hcal.mono fun e w2 ⟨v,res,obs,S',M',ι',he,hl,hJ',hP⟩=>by
  obtain ⟨rfl,rfl⟩:=hl.inv
  obtain ⟨_,j1,j2,j3,j4,j5⟩:=hJ'
  have hr:=Jn hP.res
  obtain ⟨p,n,c,rfl⟩:=hx _ _ _ hr
  have:=(Array.getElem?_eq_some_iff.1 j3).1
  exact ⟨p,n,c,he,⟨S',M',j1,hr,j4,j5,hP.sub,hP.new,hP.inn,hP.minn,by omega⟩,j2,j3⟩)
 rw [←callsIn_wide] at hres
 refine hres.mono fun e w' ⟨r,w2,⟨S',M',j1,hr,j4,j5,k1,k2,k3,k4,k5⟩,he,hw'⟩=>?_
 have hne:∀b o,S' b o→b≠w.heap.size∧b≠w.heap.size+1:=fun b o h=>by
  rcases k2 b o h with h|h
  ·have:=hin b o h;omega
  ·exact ⟨fun e=>j4 (e▸h),fun e=>j5 (e▸h)⟩
 have hot:∀k,k≠w.heap.size→k≠w.heap.size+1→w'.heap[k]? = w2.heap[k]? :=fun k h1 h2=>by
  rw [hw',Below.heap_setCell _ ⟨w.heap.size+1,0,none⟩ _ k h2,Below.heap_setCell _ ⟨w.heap.size,0,none⟩ _ k h1]
 have hsz:w'.heap.size=w2.heap.size:=by rw [hw'];simp [World.setCell]
 have hc2:∀b o,S' b o→w'.cell? ⟨b,o,none⟩=w2.cell? ⟨b,o,none⟩:=fun b o h=>World.cell?_of_block (hot b (hne b o h).1 (hne b o h).2)
 refine ⟨_,_,_,S',fun k=>M' k∨k=w.heap.size∨k=w.heap.size+1,Yz,he,.ret _ _,
  E.step j1 ⟨by rw [hw'];rfl,by rw [hw'];rfl,by rw [hw'];rfl,by omega,fun k _ hn=>hot k (fun e=>hn (.inr (.inl e))) (fun e=>hn (.inr (.inr e))),hc2⟩ (fun _ h=>h) (fun _ h=>.inl h) (fun _ _ h=>h) (fun _ _ h=>.inl h),?_⟩
 exact {
  sub:=k1,new:=fun b o h=>(k2 b o h).imp_right .inl,inn:=fun b o h=>by have:=k3 b o h;omega
  minn:=fun b h=>by
   rcases h with h|h|h
   ·have:=k4 b h;omega
   ·omega
   ·omega
  res:=⟨[r,.int .i64 0],rfl,⟨_,rfl,RepD.mono (fun _ _ h=>h) hc2 hr⟩,⟨_,rfl,.raw _ rfl⟩,trivial⟩
  objs:=fun o y h=>by cases h
  dis:=fun o o' y y' b h=>by cases h
  own:=fun o y b h=>by cases h
  tok:=fun o h=>by cases h
  same:=fun o y y' h=>by cases h }
theorem JIh {pv:Value}(hw:JGP P f g pv T1 T2 T3){d x:D}(hx:∀S w,RepD S w x (.slice none 0 0))(hc:QZ P pv g [.leaf (.d d)] []) :
  Ja P f [.leaf (.d (.fn g [d]))] (.tup [(false,[.d x]),(false,[.d (.raw (.int .i64 8))])]) []:=by
 intro E S M ι w vs hin hmin hobj hdis hown htok hargs hJ
 match vs,hargs with
 |[v],⟨q0,_⟩=>
 have hv:=Jn q0
 obtain ⟨xv,rfl,hxv⟩:∃xv,v=.func (.func g) #[] #[xv]∧RepD S w d xv:=by
  cases hv with
  |fn _ _ vals hl hr=>
   match vals,hl with
   |[xv],_=>exact ⟨xv,rfl,hr 0 d xv rfl rfl⟩
 obtain ⟨t1,t2,t3,t4⟩:=JO6 w (.cells #[.slice none 0 0] T1) (.cells #[.int .i64 0] T2)
 have hcell:∀b o,S b o→((w.alloc (.cells #[.slice none 0 0] T1)).alloc (.cells #[.int .i64 0] T2)).cell? ⟨b,o,none⟩=w.cell? ⟨b,o,none⟩:=fun b o h=>World.cell?_of_block (t4 b (hin b o h))
 have n1:¬M w.heap.size:=fun h=>by have:=hmin _ h;omega
 have n2:¬M (w.heap.size+1):=fun h=>by have:=hmin _ h;omega
 have hcal:=hc E.l S M Yz _ [xv] ((E.glob hJ).step (fun _ _ h=>h) hcell) (fun b o h=>by have:=hin b o h;omega) (fun k h=>by have:=hmin k h;omega) (fun o y h=>by cases h) (fun o o' y y' b h=>by cases h) (fun o y b h=>by cases h) (fun o h=>by cases h)
  ⟨Qx (RepD.mono (fun _ _ h=>h) hcell hxv),trivial⟩
 rw [callsIn_wide] at hcal
 have hres:=hw xv w (fun w2=>Fr S M ((w.alloc (.cells #[.slice none 0 0] T1)).alloc (.cells #[.int .i64 0] T2)) w2) (hcal.mono fun e w2 ⟨he,hf⟩=>⟨he,hf,(hf.block _ (by omega) n1).trans t2,(hf.block _ (by omega) n2).trans t3⟩)
 rw [←callsIn_wide] at hres
 refine hres.mono fun e w' ⟨w2,hf,he,hw'⟩=>?_
 have hs2:w.heap.size+2≤w2.heap.size:=by have:=hf.size;omega
 have hz:((w2.setCell ⟨w.heap.size,0,none⟩ (.slice none 0 0)).setCell ⟨w.heap.size+1,0,none⟩ (.int .i64 8)).heap.size=w2.heap.size:=by simp [World.setCell]
 have hot:∀k,k<w2.heap.size→k≠w.heap.size→k≠w.heap.size+1→w'.heap[k]? = w2.heap[k]? :=fun k hk h1 h2=>by
  rw [hw']
  exact (Below.heap_alloc _ _ k (by omega)).trans (by rw [Below.heap_setCell _ ⟨w.heap.size+1,0,none⟩ _ k h2,Below.heap_setCell _ ⟨w.heap.size,0,none⟩ _ k h1])
 have hsz:w'.heap.size=w2.heap.size+1:=by
  rw [hw']
  show (World.alloc _ _).heap.size=_
  rw [World.alloc,Array.size_push,hz]
 have hold:∀k,k<w.heap.size→¬M k→w'.heap[k]? = w.heap[k]? :=fun k hk hn=>(hot k (by omega) (by omega) (by omega)).trans ((hf.block k (by omega) hn).trans (t4 k hk))
 have hc2:∀b o,S b o→w'.cell? ⟨b,o,none⟩=w.cell? ⟨b,o,none⟩:=fun b o h=>by
  have hb:=hin b o h
  exact (World.cell?_of_block (a:=⟨b,o,none⟩) (hot b (by omega) (by omega) (by omega))).trans ((hf.cell b o h).trans (hcell b o h))
 refine ⟨_,_,_,S,fun k=>M k∨(w.heap.size≤k∧k<w'.heap.size),Yz,he,.ret _ _,
  E.step hJ ⟨by rw [hw'];exact hf.os,by rw [hw'];exact hf.tape,by rw [hw'];exact hf.output,by omega,hold,hc2⟩ (fun _ h=>.inl h) (fun _ h=>h) (fun _ _ h=>h) (fun _ _ h=>.inl h),?_⟩
 exact {
  sub:=fun _ _ h=>h,new:=fun b o h=>.inl h,inn:=fun b o h=>by have:=hin b o h;omega
  minn:=fun b h=>by
   rcases h with h|h
   ·have:=hmin b h;omega
   ·omega
  res:=⟨[.slice none 0 0,.int .i64 8],rfl,⟨_,rfl,hx _ _⟩,⟨_,rfl,.raw _ rfl⟩,trivial⟩
  objs:=fun o y h=>by cases h
  dis:=fun o o' y y' b h=>by cases h
  own:=fun o y b h=>by cases h
  tok:=fun o h=>by cases h
  same:=fun o y y' h=>by cases h }
theorem JKL {S:Jd}{w:World}{v:Value}{k:Nat}{es:List (List D)}(h:RepD S w (.sl k es) v):∃p n c,v=.slice p n c:=by
 cases h<;>exact ⟨_,_,_,rfl⟩
end
end Go.Mw
namespace Go.Mw
section
variable {P:Program} {ops:Array Oper} {A A':JE} {Φ:JE→Prop}
theorem JLC {α β:Type}{R:α→β→Prop}:∀ {l:List α} {m:List β} {j:Nat} {x y:α},JR R l m→l[j]? = some x→(∀v,R x v→R y v)→JR R (l.set j y) m
 |[],_,_,_,_,_,h,_=>by simp at h
 |_::_,[],_,_,_,h,_,_=>h.elim
 |a::l,b::m,0,x,y,h,hj,hr=>by
  have:a=x:=by simpa using hj
  subst this
  exact ⟨hr _ h.1,h.2⟩
 |a::l,b::m,j+1,x,y,h,hj,hr=>⟨h.1,JLC h.2 (by simpa using hj) hr⟩
theorem Wk.nilAt {ls:List AL}{j:Nat}(k:Nat)(hj:ls[j]? = some (.d (.raw (.slice none 0 0)))):Wk (.val true ls) (.val true (ls.set j (.d (.sl k [])))):=by
 intro S ι H w v h
 obtain ⟨vs,hv,ha⟩:=h
 exact ⟨vs,hv,JLC ha hj fun u hu=>by cases hu;exact RepD.nil k none 0⟩
theorem JA.nildA {l:List Oper}(s j k:Nat){ls:List AL}(hs:A.get s=.val true ls)(hj:ls[j]? = some (.d (.raw (.slice none 0 0))))(hp:A.put [.slot s (.val true (ls.set j (.d (.sl k []))))]=A')(h':JA P ops Φ l A'):JA P ops Φ l A:=
 .ghost (JO.wk _ (by rw [hs];exact Wk.nilAt k hj)) (hp▸h')
end
end Go.Mw
namespace Go
structure Fx (p:Prop):Prop where
 h:p
theorem Fx.a {p q:Prop}(x:Fx p)(h:q):Fx (p∧q):=⟨x.h,h⟩
end Go
namespace Go.Mw
open Go.RowKit
section pins
variable {P:Program} {ops:Array Oper} {A A':JE} {C:Ctx P} {S:Jd} {M:QA} {ι:Nat→Value} {a:Act} {w:World} {Φ:JE→Prop}
theorem JJk (o:Nat):Q0 ι A o w w:=⟨rfl,rfl,rfl,Nat.le_refl _,fun _ _ _=>rfl⟩
theorem Jf.pin (hR:Jf C S M ι A a w){G:Nat}{u:Value}{l:AL}(hG:(A.obj G=none∧1000≤G)∨∃v l',A.obj G=some (.pin v l'))(hl:Jh S ι A.obj w l u) :
  Jf C S (grow M w w) (upd ι G undef) (A.put [.obj G (.pin u l)]) a w:=by
 have hpin:A.obj G=none→C.pin G=none:=fun hn=>by
  rcases hG with ⟨_,hN⟩|⟨v,l',h⟩
  ·cases hp:C.pin G with
   |none=>rfl
   |some q=>have:=hR.pinN G (by rw [hp];simp);omega
  ·rw [h] at hn;cases hn
 have ht:Qt ι A G (.pin u l) undef:=by
  rcases hG with ⟨hn,_⟩|⟨v,l',h⟩
  ·exact JAw hn _ _
  ·unfold Qt
   rw [h]
   exact ⟨rfl,(hR.objs G _ h).1.symm⟩
 have hon:Q0 ι A G w w:=JJk G
 exact hR.chg hon ht ⟨upd_same ..,(hon.mv hR ht).l hl⟩ (fun b hb=>by simp [blk,undef] at hb) (by simp) hpin
theorem JO.unpinS {G d:Nat}{v:Value}{l:AL}(hG:A.obj G=some (.pin v l))(hs:A.get d=.leaf (.d (.raw v))):JO A (A.put [.slot d (.leaf l)]):=by
 intro P C a w ⟨S,M,ι,hR⟩
 obtain ⟨_,hp⟩:=hR.objs G _ hG
 refine ⟨S,M,ι,hR.sub,hR.new,hR.inn,hR.minn,hR.sz,fun s=>?_,hR.objs,hR.dis,hR.own,hR.env,hR.tok,hR.fixed,hR.marks,hR.rdok,hR.pinned,hR.pinN⟩
 by_cases hq:s=d
 ·subst hq
  have h1:(A.put [.slot s (.leaf l)]).get s=.leaf l:=by simp [JE.put,JE.put1,JE.get,look]
  rw [h1]
  have h2:=hR.tms s
  rw [hs] at h2
  have h3:=Qa (Jn h2)
  rw [h3]
  exact ⟨l,rfl,hp⟩
 ·have h1:(A.put [.slot d (.leaf l)]).get s=A.get s:=by simp [JE.put,JE.put1,JE.get,look,hq]
  rw [h1];exact hR.tms s
theorem JLD {α β:Type}{R:α→β→Prop}{p q q':α}(h:∀u,R q u→R q' u):∀ {l:List α} {m:List β},JR R (l++[p,q]) m→JR R (l++[p,q']) m
 |[],[],h0=>h0.elim
 |[],[_],h0=>h0.2.elim
 |[],x::y::r,h0=>⟨h0.1,h _ h0.2.1,h0.2.2⟩
 |_::_,[],h0=>h0.elim
 |_::l,_::m,h0=>⟨h0.1,JLD h h0.2⟩
theorem JO.unpinR {G L:Nat}{v:Value}{x p:D}{e:TypeId}{es:List (List D)}(hG:A.obj G=some (.pin v (.d x)))(hL:A.obj L=some (.arr e 2 (es++[[p,.raw v]]))):JO A (A.put [.obj L (.arr e 2 (es++[[p,x]]))]):=by
 intro P C a w ⟨S,M,ι,hR⟩
 obtain ⟨_,hp⟩:=hR.objs G _ hG
 have hp:RepD S w x v:=hp
 obtain ⟨xs,h1,h2,h3,h4,h5⟩:=hR.objs L _ hL
 have ht:Qt ι A L (.arr e 2 (es++[[p,x]])) (ι L):=by
  unfold Qt;rw [hL];exact ⟨_,rfl,by simp,fun _=>rfl⟩
 have hu:upd ι L (ι L) L=ι L:=upd_same ..
 refine ⟨S,_,_,hR.chg (JJk L) ht ⟨xs,?_,?_,?_,h4,?_⟩ (fun b hb=>.inr ⟨_,hL,hb⟩) (by simp) (fun hn=>by rw [hL] at hn;cases hn)⟩
 ·rw [hu]
  have:(es++[[p,x]]).length=(es++[[p,.raw v]]).length:=by simp
  rw [this];exact h1
 ·have e1:(es++[[p,D.raw v]]).flatten=es.flatten++[p,.raw v]:=by simp
  have e2:(es++[[p,x]]).flatten=es.flatten++[p,x]:=by simp
  rw [e1] at h2
  rw [e2]
  exact JLD (fun u h=>by rw [Qa h];exact hp) h2
 ·intro y hy
  rcases List.mem_append.1 hy with hy|hy
  ·exact h3 y (by simp [hy])
  ·have:y=[p,x]:=by simpa using hy
   subst this;rfl
 ·intro b hb
  rw [hu] at hb
  exact h5 b hb
theorem JO.pinNil (A:JE)(G T:Nat)(e:TypeId)(k:Nat)(hG:A.obj G=none∨∃v l',A.obj G=some (.pin v l'))(hT:A.obj T=none)(hk:0<k)(hNG:1000≤G)(hNT:1000≤T)(hGT:G≠T) :
  JO A (A.put [.obj T (.arr e k []),.obj G (.pin (.slice none 0 0) (.own T 0 0 0))]):=by
 intro P C a w ⟨S,M,ι,hR⟩
 have hon:Q0 ι A T w w:=JJk T
 have hpin:C.pin T=none:=by
  cases hp:C.pin T with
  |none=>rfl
  |some q=>have:=hR.pinN T (by rw [hp];simp);omega
 have h1:=hR.chg hon (JAw hT (.arr e k []) (.slice none 0 0)) ⟨[],by rw [upd_same];exact World.ownsRow_nil w 0 e k,by trivial,by simp,hk,fun b hb=>by rw [upd_same] at hb;simp [blk] at hb⟩ (fun b hb=>by simp [blk] at hb) (by simp) fun _=>hpin
 have hT1:(A.put [.obj T (.arr e k [])]).obj T=some (.arr e k []):=by simp [JE.put,JE.put1,JE.obj,look]
 have hG1:((A.put [.obj T (.arr e k [])]).obj G=none∧1000≤G)∨∃v l',(A.put [.obj T (.arr e k [])]).obj G=some (.pin v l'):=by
  have:(A.put [.obj T (.arr e k [])]).obj G=A.obj G:=Zo _ _ hGT
  rw [this]
  exact hG.imp (fun h=>⟨h,hNG⟩) id
 have h2:=h1.pin (u:=.slice none 0 0) (l:=.own T 0 0 0) hG1 ⟨rfl,e,k,[],hT1,Nat.le_refl _,fun _=>⟨Nat.le_refl _,fun _ _=>(upd_same ..).symm,none,0,rfl,Nat.le_refl _,fun h=>by omega⟩⟩
 exact ⟨_,_,_,h2⟩
theorem JA.unpinR {l:List Oper}(G L:Nat){v:Value}{x p:D}{e:TypeId}{es:List (List D)}(hG:A.obj G=some (.pin v (.d x)))(hL:A.obj L=some (.arr e 2 (es++[[p,.raw v]])))(hp:A.put [.obj L (.arr e 2 (es++[[p,x]]))]=A')(h':JA P ops Φ l A'):JA P ops Φ l A:=.ghost (JO.unpinR hG hL) (hp▸h')
theorem JA.pinNil {l:List Oper}(G T:Nat)(e:TypeId)(k:Nat)(hG:A.obj G=none∨∃v l',A.obj G=some (.pin v l'))(hT:A.obj T=none)(hk:0<k)(hNG:1000≤G)(hNT:1000≤T)(hGT:G≠T)
  (hp:A.put [.obj T (.arr e k []),.obj G (.pin (.slice none 0 0) (.own T 0 0 0))]=A') (h':JA P ops Φ l A'):JA P ops Φ l A:=.ghost (JO.pinNil A G T e k hG hT hk hNG hNT hGT) (hp▸h')
theorem YU.pin {o:Oper}{d G:Nat}{v:Value}{l:AL}{rs:List Loc}(hw:J3 ops o.guard A=some true)(h:(Qd P o.op o.dst).run A (Qo ops o)=some (rs,[.slot d (.leaf (.d (.raw v)))]))(hG:A.obj G=some (.pin v l)) :
  YU P ops o A (Qo ops o++(rs++[.obj G])) [.slot d (.leaf l)]:=by
 refine .sem (rs++[.obj G]) _ hw fun B hB C a w Q hd hR=>?_
 have h2:YU P ops o B rs [.slot d (.leaf (.d (.raw v)))]:=(YU.eff rs _ hw h).agree fun l hl=>hB l ZY
 have hG':B.obj G=some (.pin v l):=(hB (.obj G) (by simp)).trans hG
 have hwB:J3 ops o.guard B=some true:=(JB6 fun l hl=>hB l (by simp [Ev.run_acc _ _ h l hl])).trans hw
 have h3:=JCg (Q:=Q) (K:=fun a' w'=>QP C (B.put [.slot d (.leaf l)]) a' w') hR hd h2 fun a' w' h4=>by
  have hg:=JO.unpinS (A:=B.put [.slot d (.leaf (.d (.raw v)))]) (G:=G) (d:=d) (v:=v) (l:=l) hG' (by simp [JE.put,JE.put1,JE.get,look])
  have hsm:Same ((B.put [.slot d (.leaf (.d (.raw v)))]).put [.slot d (.leaf l)]) (B.put [.slot d (.leaf l)]):=⟨fun l'=>?_,rfl⟩
  ·exact JJ3 hsm (hg P C a' w' h4)
  cases l' with
  |slot s=>
   show (B.put [.slot d (.leaf l)]).get s=((B.put [.slot d (.leaf (.d (.raw v)))]).put [.slot d (.leaf l)]).get s
   by_cases hs:s=d<;>simp [JE.put,JE.put1,JE.get,look,hs]
  |obj q=>rfl
 obtain ⟨S,M,ι,hRL⟩:=hR
 rw [if_pos (Zi hRL hwB)] at h3
 exact h3
theorem JF.pinl {acc:List Fp}{K:List Fp→JE→Prop}{r:List (Oper × Nat)}{i d:Nat}(G:Nat){o:Oper}{v:Value}{l:AL}{rs rs':List Loc}(hw:J3 ops o.guard A=some true)(h:(Qd P o.op o.dst).run A (Qo ops o)=some (rs,[.slot d (.leaf (.d (.raw v)))]))(hG:A.obj G=some (.pin v l))
  (hr:Qo ops o++(rs++[.obj G])=rs') (hp:A.put [.slot d (.leaf l)]=A') (h':JF P ops r A' (⟨rs',[.slot d]⟩::acc) K):JF P ops ((o,i)::r) A acc K:=by
 refine JF.cons (fun ho fs B hrun=>⟨o,[.slot d (.leaf l)],ho,?_,rfl,hp▸hrun⟩) h'
 have:=YU.pin (ops:=ops) hw h hG
 rw [hr] at this
 exact this
theorem JU0 {o:Oper}{s G T n:Nat}{K:JE→Prop}(hs:A.get s=.leaf (.own T 0 n n))(hG:(A.obj G=none∧1000≤G)∨∃v l',A.obj G=some (.pin v l'))
  (hw:∀u,J3 ops o.guard (A.put [.slot s (.leaf (.d (.raw u))),.obj G (.pin u (.own T 0 n n))])=some true)
  (h:∀u,∃rs ws,JAZ P ops o (A.put [.slot s (.leaf (.d (.raw u))),.obj G (.pin u (.own T 0 n n))])=some (rs,ws)∧K ((A.put [.slot s (.leaf (.d (.raw u))),.obj G (.pin u (.own T 0 n n))]).put ws)):JEq P o A K:=by
 intro C a w Q hd ⟨S,M,ι,hR⟩
 have h1:=hR.tms s
 rw [hs] at h1
 have h2:Jh S ι A.obj w (.own T 0 n n) (a.tmps.getD s undef):=Jn h1
 generalize hu:a.tmps.getD s undef=u at h1 h2
 have hone:u.oneCell'=true:=h2.1
 have hR1:Jf C S M ι (A.put [.slot s (.leaf (.d (.raw u)))]) a w:=by
  refine ⟨hR.sub,hR.new,hR.inn,hR.minn,hR.sz,fun q=>?_,hR.objs,hR.dis,hR.own,hR.env,hR.tok,hR.fixed,hR.marks,hR.rdok,hR.pinned,hR.pinN⟩
  by_cases hq:q=s
  ·subst hq
   have e:(A.put [.slot q (.leaf (.d (.raw u)))]).get q=.leaf (.d (.raw u)):=by simp [JE.put,JE.put1,JE.get,look]
   rw [e,hu]
   exact ⟨_,rfl,RepD.raw u hone⟩
  ·have e:(A.put [.slot s (.leaf (.d (.raw u)))]).get q=A.get q:=by simp [JE.put,JE.put1,JE.get,look,hq]
   rw [e];exact hR.tms q
 have hR2:=hR1.pin (G:=G) (u:=u) (l:=.own T 0 n n) hG h2
 obtain ⟨rs,ws,h3,h4⟩:=h u
 have h5:=JCg (ops:=ops) (Q:=Q) (K:=fun a' w'=>∃A',K A' ∧ QP C A' a' w') ⟨_,_,_,hR2⟩ hd (JKU h3) fun a' w' hR'=>⟨_,h4,hR'⟩
 rw [if_pos (Zi hR2 (hw u))] at h5
 exact h5
def JDo (P:Program)(ops:Array Oper)(n p:Nat)(o:Oper)(Ψ:JE→Prop)(fs:List Fp)(B:JE):Prop:=
 (decide (fs.length=p)&&(down ops&&(List.range p).all fun i=>YR ops n p i))=true∧Y4 ops n ((List.range p).zip fs)=true∧J3 ops o.guard B=some true∧∃K,JEq P o B K∧∀B',K B' → Ψ B'
theorem JSx {n p:Nat}{o:Oper}(ho:ops.toList[p]? = some o)(hp:decide (ops.size=p+1)=true)(h:JF P ops (live ops (List.range p)) A [] (JDo P ops n p o Φ)):JKh P ops Φ A:=by
 have hp:=of_decide_eq_true hp
 obtain ⟨fs,B,h1,h2,h3,h4,K,h5,h6⟩:=h fun q hq=>JJP _ q hq
 rw [JJQ (List.range p) (by rw [List.all_eq_true];intro i hi;have:=List.mem_range.1 hi;exact decide_eq_true (by omega))] at h1
 simp only [Bool.and_eq_true,decide_eq_true_eq,List.reverse_nil,List.nil_append] at h2 h3
 exact ⟨n,p,o,fs,B,K,by simpa using ho,hp,h1,of_decide_eq_true h2.1,h2.2.1,h3,fun i hi=>List.all_eq_true.1 h2.2.2 i (List.mem_range.2 hi),h4,h5,h6⟩
theorem JB.opl1 {id:Nat}{Φ:Exit→JE→Prop}(n p:Nat){o:Oper}(ho:ops.toList[p]? = some o)(hp:decide (ops.size=p+1)=true)
  (h:JF P ops (live ops (List.range p)) A [] (JDo P ops n p o (fun B=>Φ .normal B))):JB P (.region id ops true) Φ A:=
 .inl ⟨A,JO.refl A,.inr (by
  obtain ⟨n,p,o,fs,B,K,h1,h2,h3,h4,h5,h6,h7,h8,h9,h10⟩:=JSx ho hp h
  exact ⟨n,p,o,fs,B,K,h1,h2,h3,h4,h5,h6,h7,h8,h9,fun B' hk=>⟨B',JO.refl B',h10 B' hk⟩⟩)⟩
end pins
end Go.Mw
namespace Go.Mw
section
variable {P:Program} {ops:Array Oper} {A A':JE}
theorem JDo.pin {n p s G T m:Nat}{o:Oper}{Ψ:JE→Prop}{fs:List Fp}{B:JE}{rs:Value→List Loc}{ws:Value→List Wr}{F:Value→JE}(hl:(decide (fs.length=p)&&(down ops&&(List.range p).all fun i=>YR ops n p i))=true)(ho:Y4 ops n ((List.range p).zip fs)=true)
  (hw:J3 ops o.guard B=some true) (hs:B.get s=.leaf (.own T 0 m m)) (hG:(B.obj G=none∧1000≤G)∨∃v l',B.obj G=some (.pin v l'))
  (hw2:∀u,J3 ops o.guard (B.put [.slot s (.leaf (.d (.raw u))),.obj G (.pin u (.own T 0 m m))])=some true)
  (h:∀u,JAZ P ops o (B.put [.slot s (.leaf (.d (.raw u))),.obj G (.pin u (.own T 0 m m))])=some (rs u,ws u))
  (hF:∀u,(B.put [.slot s (.leaf (.d (.raw u))),.obj G (.pin u (.own T 0 m m))]).put (ws u)=F u) (h':∀u,Ψ (F u)):JDo P ops n p o Ψ fs B:=
 ⟨hl,ho,hw,fun B'=>∃u,B'=F u,JU0 hs hG hw2 fun u=>⟨rs u,ws u,h u,u,hF u⟩,fun B' ⟨u,hu⟩=>hu▸h' u⟩
end
end Go.Mw
namespace Go.Mw
open Go.RowKit
section byt
variable {P:Program} {ops:Array Oper} {A A':JE} {d:Nat}
theorem JA.stob {Φ:JE→Prop}{F:Nat→Nat→JE}{l:List Oper}{src dst e ty:TypeId}{x:Operand}{pos:String}{af:Array Edge}(o:Nat)(s:List UInt8)(hx:A.ev x=.str s)(ho:A.obj o=none)(hN:1000≤o)
  (hs:P.underlying src=some .string) (hd:P.underlying dst=some (.slice e)) (he:P.underlying e=some (.int .u8))
  (hp:∀b c,A.put [.slot d (.leaf (.d (.raw (.slice (some ⟨b,0,none⟩) s.length c)))),.obj o (.byt b c s)]=F b c) (h':∀b c,JA P ops Φ l (F b c)):JA P ops Φ (⟨some d,.convert src dst x,ty,pos,af,none⟩::l) A:=
 .sem (K:=fun B=>∃b c,B=A.put [.slot d (.leaf (.d (.raw (.slice (some ⟨b,0,none⟩) s.length c)))),.obj o (.byt b c s)]) rfl (fun C a w Q hd' hR=>by
  obtain ⟨S,M,ι,hR⟩:=hR
  have hv:a.eval x=.string (bs s):=by have:=QD hR x;rw [hx] at this;exact Qa (Jn this)
  have hrun:=run_bytes_of_string (P:=P) w src dst e (bs s) hs hd he
  have hge:s.length≤grownCap w (bs s).size 0 e:=by rw [←Zb s];exact grownCap_ge w _ 0 e
  have hsz:(bs s).size=s.length:=Zb s
  have hdat:(bs s).data.toList=s:=by simp [bs]
  rw [hsz] at hrun hge
  generalize grownCap w s.length 0 e=c at hrun hge
  have hrow:(bytesRow (bs s) c).size=c:=by
   unfold bytesRow
   have:(bs s).data.size=s.length:=hsz
   rw [Array.size_append,Array.size_map,Array.size_replicate,hsz,this];omega
  have hat:∀(i:Nat) (y:UInt8),s[i]? = some y→(bytesRow (bs s) c)[i]? = some (.int .u8 y.toNat):=fun i y hy=>by
   have hlt:=(List.getElem?_eq_some_iff.1 hy).1
   unfold bytesRow
   have h2:(bs s).data.size=s.length:=hsz
   rw [Array.getElem?_append_left (by rw [Array.size_map,h2];exact hlt),Array.getElem?_map,←Array.getElem?_toList,hdat,hy];rfl
  have hpin:C.pin o=none:=by
   cases hp:C.pin o with
   |none=>rfl
   |some q=>have:=hR.pinN o (by rw [hp];simp);omega
  have hon:Q0 ι A o w (w.drew.alloc (.cells (bytesRow (bs s) c) e ((bytesRow (bs s) c).size,(bytesRow (bs s) c).size+1))):=⟨rfl,rfl,rfl,by simp,fun b hb _=>Below.heap_alloc w.drew _ b hb⟩
  have ht:Qt ι A o (.byt w.heap.size c s) (.pointer (some ⟨w.heap.size,0,none⟩)):=JAw ho _ _
  have hR':=hR.chg hon ht ⟨upd_same _ _ _,⟨_,e,_,heap_alloc_new w.drew _,hrow,by rw [hrow];exact Nat.le_refl _,hge,hat⟩,fun off hs=>by have:=hR.inn _ _ hs;omega⟩ (fun b hb=>by simp [blk] at hb;omega) (by simp) fun _=>hpin
  refine Oper.wpIn_mono (fun a' w' h=>⟨_,⟨w.heap.size,c,rfl⟩,h⟩) (JDm (JBZ (o:=⟨some d,.convert src dst x,ty,pos,af,none⟩) (d:=d) (v:=.slice (some ⟨w.heap.size,0,none⟩) s.length c) (av:=.leaf (.d (.raw (.slice (some ⟨w.heap.size,0,none⟩) s.length c)))) rfl (hd' d rfl) ?_ hR' ⟨_,rfl,RepD.raw _ rfl⟩) Q)
  simp [execOp,hv,hrun]) fun B ⟨b,c,e⟩=>by rw [e,hp];exact h' b c
theorem JOQ {t e ty:TypeId}{x i:Operand}{pos:String}{af:Array Edge}{g:Option (Nat × Bool)}{b n c k:Nat}(ht:Jz P t=some e)(hk:Jm P e=some 1)(hx:A.ev x=.raw (.slice (some ⟨b,0,none⟩) n c))(hi:A.ev i=.raw (.int .i64 k))(hlt:k<n) :
  JAc P ⟨some d,.indexAddr t x i,ty,pos,af,g⟩ A (.raw (.pointer (some ⟨b,k,none⟩))):=by
 intro C S M ι a w hR
 have h1:=QD hR x
 rw [hx] at h1
 have h1:=Qa (Jn h1)
 have h2:=QD hR i
 rw [hi] at h2
 have h2:=Qa (Jn h2)
 have:=JHv (w:=w) ht hk (b:=b) (p:=0) (len:=n) (c:=c) (kk:=.i64) (i:=(k:Int)) (by omega) (by omega)
 rw [Int.toNat_natCast,Nat.mul_one,Nat.zero_add] at this
 exact ⟨_,by simp [execOp,h1,h2,this],⟨_,rfl,RepD.raw _ rfl⟩⟩
theorem JIW {C:Ctx P}{S:Jd}{M:QA}{ι:Nat→Value}{a:Act}{w:World}(hR:Jf C S M ι A a w){o b c:Nat}{l:List UInt8}(ho:A.obj o=some (.byt b c l)){i:Nat}{y:UInt8}(hi:l[i]? = some y):w.cell? ⟨b,i,none⟩=some (.int .u8 y.toNat):=by
 obtain ⟨_,⟨vs,el,fz,hh,_,_,_,hat⟩,_⟩:=hR.objs o _ ho
 simp [World.cell?,hh,hat i y hi]
theorem JU1 {t ty:TypeId}{x:Operand}{pos:String}{af:Array Edge}{g:Option (Nat × Bool)}{o b c k:Nat}{l:List UInt8}{y:UInt8}(hag:J2 P t=some false)(hsz:Jm P t=some 1)(hx:A.ev x=.raw (.pointer (some ⟨b,k,none⟩)))(ho:A.obj o=some (.byt b c l))(hi:l[k]? = some y) :
  JAc P ⟨some d,.load t x,ty,pos,af,g⟩ A (.raw (.int .u8 y.toNat)):=by
 intro C S M ι a w hR
 have h1:=QD hR x
 rw [hx] at h1
 have h1:=Qa (Jn h1)
 have:=JEi w hag hsz (.inr rfl) b k (fun _=>.int .u8 y.toNat) (fun j hj=>by rw [show j=0 by omega];exact JIW hR ho hi)
 exact ⟨_,JFd (o:=⟨some d,.load t x,ty,pos,af,g⟩) rfl h1 this,⟨_,rfl,RepD.raw _ rfl⟩⟩
theorem JA.bst {Φ:JE→Prop}{r:List Oper}{t ty:TypeId}{x y:Operand}{pos:String}{af:Array Edge}{o b c k:Nat}{l:List UInt8}{z:UInt8}(hsz:Jm P t=some 1)(hx:A.ev x=.raw (.pointer (some ⟨b,k,none⟩)))(hy:A.ev y=.raw (.int .u8 z.toNat))(ho:A.obj o=some (.byt b c l))(hk:k<l.length)
  (hp:A.put [.obj o (.byt b c (l.set k z))]=A') (h':JA P ops Φ r A'):JA P ops Φ (⟨none,.store t x y,ty,pos,af,none⟩::r) A:=
 .sem (K:=fun B=>B=A') rfl (fun C a w Q hd' hR=>by
  obtain ⟨S,M,ι,hR⟩:=hR
  have h1:a.eval x=.pointer (some ⟨b,k,none⟩):=by have:=QD hR x;rw [hx] at this;exact Qa (Jn this)
  have h2:a.eval y=.int .u8 z.toNat:=by have:=QD hR y;rw [hy] at this;exact Qa (Jn this)
  obtain ⟨hι,⟨vs,el,fz,hh,hvs,hfz,hle,hat⟩,hS⟩:=hR.objs o _ ho
  have hcell:=JIW hR ho (List.getElem?_eq_getElem hk)
  have hfr:w.frozen? ⟨b,k,none⟩=false:=by simp [World.frozen?,hh];omega
  have hst:=run_storeCells_cells (P:=P) b k [.int .u8 z.toNat] 0 w (fun j hj=>by rw [show j=0 by simpa using hj];simp [hcell]) (fun j hj=>by rw [show j=0 by simpa using hj];simpa using hfr) (by simp [Value.oneCell'])
  have hset:(w.setCell ⟨b,k,none⟩ (.int .u8 z.toNat)).heap[b]? = some (.cells (vs.setIfInBounds k (.int .u8 z.toNat)) el fz):=by
   simp [World.setCell,Array.getElem?_modify,hh]
  have hon:Q0 ι A o w (w.setCell ⟨b,k,none⟩ (.int .u8 z.toNat)):=⟨rfl,rfl,rfl,by simp,fun q hq hqb=>heap_setCell_other w _ q _ fun e=>hqb _ ho (by rw [hι];simp [blk];exact e.symm)⟩
  have ht:Qt ι A o (.byt b c (l.set k z)) (ι o):=by unfold Qt;rw [ho];exact ⟨rfl,rfl⟩
  have hR':=hR.chg hon ht ⟨by rw [upd_same];exact hι,⟨_,el,fz,hset,by simpa using hvs,hfz,by simpa using hle,fun i q hq=>by
    rw [Array.getElem?_setIfInBounds]
    by_cases hik:k=i
    ·subst hik
     rw [List.getElem?_set_self hk] at hq
     cases hq
     rw [if_pos rfl,if_pos (by omega)]
    ·rw [List.getElem?_set_ne hik] at hq
     rw [if_neg hik]
     exact hat i q hq⟩,hS⟩ (fun b1 hb1=>.inr ⟨_,ho,hb1⟩) (by simp) (fun hnone=>by rw [ho] at hnone;cases hnone)
  refine Oper.wpIn_mono (fun a' w' h=>⟨A',rfl,hp▸h⟩) (JDm (JKR (o:=⟨none,.store t x y,ty,pos,af,none⟩) hR rfl ?_ hR') Q)
  simp only [Nat.add_zero,World.setCells] at hst
  have hc1:(Value.int IntKind.u8 (z.toNat:Int)).cells=#[.int .u8 z.toNat]:=rfl
  simp [execOp,h1,h2,Instr.storeAt,Instr.sureAddr,storeVar,Zh w hsz,hst,hc1]) fun B e=>e▸h'
theorem JU3 {src dst e ty:TypeId}{x:Operand}{pos:String}{af:Array Edge}{g:Option (Nat × Bool)}{o b c:Nat}{l:List UInt8}(hs:P.underlying src=some (.slice e))(he:P.underlying e=some (.int .u8))(hd:P.underlying dst=some .string)
  (hx:A.ev x=.raw (.slice (some ⟨b,0,none⟩) l.length c)) (ho:A.obj o=some (.byt b c l)):JAc P ⟨some d,.convert src dst x,ty,pos,af,g⟩ A (.str l):=by
 intro C S M ι a w hR
 have h1:=QD hR x
 rw [hx] at h1
 have h1:=Qa (Jn h1)
 have:=run_convert_bytes_back (P:=P) w src dst e ⟨b,0,none⟩ c l hs he hd fun j hj=>by rw [Addr.add_lit,Nat.zero_add];exact JIW hR ho (List.getElem?_eq_getElem hj)
 exact ⟨.string (bs l),by simp [execOp,h1,this,bs],⟨_,rfl,RepD.raw _ rfl⟩⟩
end byt
end Go.Mw

/- Calls that are lent several objects; values of which less is known; no condition but those in each. -/
import Derived.Test.YtkpacnlinpbinaaD1
import Derived.Test.YtkpacnlinpbinaaB4
import Derived.Laws.Strings
import Derived.Below
import Derived.Lib.AppendStr
import Derived.Lib.Builder
import Derived.Lib.UnsafeStr
import Derived.Laws.Externs
import Derived.Laws.IdiomStrings
import Derived.Laws.BytesArg
import Derived.Lib.BufferMore
set_option linter.unusedSimpArgs false
set_option linter.unusedVariables false
set_option linter.unusedSectionVars false
set_option linter.deprecated false
namespace Go.Mw
open Go.RowKit
def FLe (l l':FL):Prop:=l'=l∨l'=.dead
theorem fle_rep {S:Settled}{ι:Nat→Value}{H:Nat→Option AO}{w:World}{fs fs':List FL}{v:Value}(h:All2 FLe (fs.take fs'.length) fs')(hr:RepL S ι H w (.fpt fs) v):RepL S ι H w (.fpt fs') v:=by
 obtain ⟨b,off,rfl,hf⟩:=hr
 refine ⟨b,off,rfl,fun j f hj=>?_⟩
 obtain ⟨g,hg,hle⟩:=h.get2 hj
 rw [List.getElem?_take] at hg
 split at hg
 ·obtain ⟨h1,u,h2,h3⟩:=hf j g hg
  refine ⟨h1,u,h2,?_⟩
  rcases hle with rfl|rfl
  ·exact h3
  ·exact RepF.one S ι H w h3
 ·cases hg
theorem WkR.fptW {r:Nat→Nat}{ns:List Nat}{fs fs':List FL}(hi:fs'.all (FL.inn ns)=true)(h:All2 FLe (fs.take fs'.length) (fs'.map (FL.ren r))):WkR r ns (.leaf (.fpt fs)) (.leaf (.fpt fs')):=by
 refine ⟨?_,fun S ι H w v ⟨l,hl,hr⟩=>?_⟩
 ·show [AL.fpt fs'].all (AL.inn ns)=true
  simp only [List.all_cons,List.all_nil,Bool.and_true]
  exact hi
 ·simp at hl;subst hl
  exact ⟨_,rfl,fle_rep (by simpa using h) hr⟩
def renObs (r:Nat→Nat):List (Nat × AO)→List (Nat × AO)
 |[]=>[]
 |p::l=>(r p.1,p.2.ren r)::renObs r l
theorem renObs_eq (r:Nat→Nat):∀l:List (Nat × AO),renObs r l=l.map fun p=>(r p.1,p.2.ren r)
 |[]=>rfl
 |p::l=>by rw [renObs,renObs_eq r l];rfl
@[go_sem] theorem renObs_nil (r:Nat→Nat):renObs r []=[]:=rfl
@[go_sem] theorem renObs_cons (r:Nat→Nat)(q:Nat)(x:AO)(l:List (Nat × AO)):renObs r ((q,x)::l)=(r q,x.ren r)::renObs r l:=rfl
@[go_sem ↓] theorem after_ren (A:ASt)(d:Nat)(r:Nat→Nat)(res:AV)(obs:List (Nat × AO))(b:Beh):after A d r res obs b=⟨(d,res.ren r)::A.tm,renObs r obs++A.ob,b⟩:=by
 rw [renObs_eq];rfl
section
variable {P:Program} {ops:Array Oper} {Φ:ASt→Prop} {r:List Oper} {A A':ASt}
theorem callOK_ret {B:Nat}{lend:List (Nat × Nat)}{pre obs:List (Nat × AO)}{res:AV}(hdom:lend.map Prod.fst=pre.map Prod.fst)(hinj:(lend.map Prod.snd).Nodup)(hin:pre.all (fun p=>p.2.inn (nms pre))=true)
  (hob:∀p∈pre,∀n,look lend p.1=some n→A.obj n=some (p.2.ren (rn lend B))) (hback:∀p∈pre,∃x',look obs p.1=some x' ∧ Back p.2 x') (hnew:∀p∈obs,look lend p.1=none→A.obj (B+p.1)=none) (htg:(lend.all fun p=>tagTy (p.2%1000)==tagTy (p.1%1000))=true:=by rfl):CallOK A B lend pre (.ret res obs):=by
 have h0:CallOK A B lend pre (yB [] (retB pre)):=callOK_sm hdom hinj hin hob htg
 refine ⟨h0.lent,h0.only,h0.inj,h0.tag,fun res' obs' hl=>?_⟩
 obtain ⟨rfl,rfl⟩:=hl.inv
 exact ⟨fun q x hx=>hback _ (look_in hx),fun q x' hx hn=>hnew _ (look_in hx) hn⟩
theorem Run.lendG {d:Nat}{f:Operand}{as:List Operand}{tys:Array TypeId}{ty:TypeId}{pos:String}{af:Array Edge}{gd:Option (Nat × Bool)}{g:FuncId}{caps:List AL}{args:List AV}{pre obs:List (Nat × AO)}{res:AV}{vs:List AV}(lend:List (Nat × Nat))
  (hw:wantedA ops gd A=some true) (hcon:Con P g args pre (.ret res obs)) (hcan:canCall P g=true) (hf:FnOf A (A.ev f) g caps) (hv:as.map A.ev=vs) (hwk:All2 (WkR (rn lend (1000*(d+1))) (nms pre)) (vs++caps.map .leaf) args)
  (hdom:lend.map Prod.fst=pre.map Prod.fst) (hinj:(lend.map Prod.snd).Nodup) (hin:pre.all (fun p=>p.2.inn (nms pre))=true)
  (hob:∀p∈pre,∀n,look lend p.1=some n→A.obj n=some (p.2.ren (rn lend (1000*(d+1))))) (hback:∀p∈pre,∃x',look obs p.1=some x' ∧ Back p.2 x') (hnew:∀p∈obs,look lend p.1=none→A.obj (1000*(d+1)+p.1)=none)
  (hp:after A d (rn lend (1000*(d+1))) res obs A.bh=A') (h':Run P ops Φ r A') (htg:(lend.all fun p=>tagTy (p.2%1000)==tagTy (p.1%1000))=true:=by rfl) :
  Run P ops Φ (⟨some d,.call { callee:=.value f,args:=as.toArray,argTypes:=tys },ty,pos,af,gd⟩::r) A:=
 .cally (f:=f) (as:=as) (κ:=fun _ _=>A.bh) rfl hw (by simp [opCall]) hf hcan (by rw [hv];exact hwk) hcon (callOK_ret hdom hinj hin hob hback hnew htg) rfl fun res' obs' hl=>by
  obtain ⟨rfl,rfl⟩:=hl.inv
  exact hp▸h'
end
end Go.Mw
namespace Go.Mw
open Go.RowKit
def AL.frs (o:Nat)(ds:List D):AL→AL
 |.csl q i n=>if q=o then (if i+n≤ds.length then .d (.sl 1 (((ds.drop i).take n).map fun x=>[x])) else .dead) else .csl q i n
 |.ptr q i=>if q=o then .dead else .ptr q i
 |l=>l
def ASt.frs (A:ASt)(o:Nat):ASt:=match A.obj o with
 |some (.cells ls)=>match pures ls with
  |some ds=>A.settle o (AL.frs o ds)
  |none=>A
 |_=>A
theorem Ghost.frs (A:ASt)(o:Nat):Ghost A (A.frs o):=by
 unfold ASt.frs
 split
 ·rename_i ls ho
  split
  case h_2=>exact Ghost.refl A
  rename_i ds hp
  refine Ghost.settle A o _ ho _ ds.length id (fun f=>by cases f<;>rfl) (fun fs=>by simp [AL.frs]) fun S S' ι w H' hok hS hT hH l v hne h=>?_
  obtain ⟨b,vs,el,hι,hheap,hall,_⟩:=hok
  have h1:=RepL.one S ι A.obj w h
  have hd:∀x v,RepD S w x v→RepD S' w x v:=fun x v h=>RepD.mono (S':=S') (w:=w) (w':=w) hS (fun _ _ _=>rfl) h
  have hds:=pures_rep hp hall
  cases l with
  |d x=>exact hd _ _ h
  |ptr q i=>
   simp only [AL.frs]
   split
   ·exact h1
   ·rename_i hqo
    obtain ⟨ls0,b',hq,hι',hv⟩:=h
    exact ⟨_,b',hH q _ hq hqo,hι',hv⟩
  |eptr q i j t=>
   obtain ⟨_,e',k',es',hq,hv⟩:=h
   have hqo:q≠o:=fun e=>by rw [e,ho] at hq;cases hq
   exact ⟨h1,e',k',es',hH q _ hq hqo,hv⟩
  |own q i n t=>
   obtain ⟨_,e',k',es',hq,hv⟩:=h
   have hqo:q≠o:=fun e=>by rw [e,ho] at hq;cases hq
   exact ⟨h1,e',k',es',hH q _ hq hqo,hv⟩
  |obj q=>
   obtain ⟨_,hv,x,hq,hx⟩:=h
   have hqo:q≠o:=fun e=>by rw [e,ho] at hq;cases hq;cases hx
   exact ⟨h1,hv,_,hH q _ hq hqo,by cases x<;>first|rfl|simp [AO.whole] at hx⟩
  |fpt fs=>exact absurd rfl (hne fs)
  |csl q i n=>
   simp only [AL.frs]
   split
   ·rename_i hqo
    have hqo:=hqo.symm
    subst hqo
    obtain ⟨ls0,b',c',hq,hι',rfl,hnc⟩:=h
    have hnc:=Nat.le_of_eq hnc
    rw [hι] at hι'
    simp only [Value.pointer.injEq,Option.some.injEq,Addr.mk.injEq,and_true] at hι'
    subst hι'
    split
    ·rename_i hin
     have hlen:(((ds.drop i).take n).map fun x=>[x]).length=n:=by simp;omega
     have key:∀(j q:Nat) (y:List D) (d:D),(((ds.drop i).take n).map fun x=>[x])[j]? = some y→y[q]? = some d→q=0∧ds[i+j]? = some d:=by
      intro j q y d hy hq
      rw [List.getElem?_map,List.getElem?_take] at hy
      split at hy
      ·rw [List.getElem?_drop] at hy
       cases hx:ds[i+j]? with
       |none=>simp [hx] at hy
       |some x=>
        simp only [hx,Option.map_some,Option.some.injEq] at hy
        subst hy
        cases q with
        |zero=>simp only [List.getElem?_cons_zero,Option.some.injEq] at hq;subst hq;exact ⟨rfl,rfl⟩
        |succ q=>simp at hq
      ·cases hy
     have:=RepD.sl (S:=S') (w:=w) 1 (((ds.drop i).take n).map fun x=>[x]) b i c' (fun j q=>vs.getD (i+j) undef) (by rw [hlen];exact hnc)
      (fun j y hy=>by
       obtain ⟨x,_,rfl⟩:=List.mem_map.1 (List.mem_of_getElem? hy)
       rfl)
      (fun j y q d hy hq=>by
       obtain ⟨rfl,hx⟩:=key j q y d hy hq
       have:=(List.getElem?_eq_some_iff.1 hx).1
       exact hT b _ (by rw [hι];rfl) (by omega))
      (fun j y q d hy hq=>by
       obtain ⟨rfl,hx⟩:=key j q y d hy hq
       obtain ⟨v,hv,_⟩:=hds.get' hx
       rw [show i+j*1+0=i+j by omega,cells_at (H:=A.obj) hheap]
       simp [List.getD,hv])
      (fun j y q d hy hq=>by
       obtain ⟨rfl,hx⟩:=key j q y d hy hq
       obtain ⟨v,hv,hr⟩:=hds.get' hx
       have e:vs.getD (i+j) undef=v:=by simp [List.getD,hv]
       rw [e];exact hd _ _ hr)
     rw [hlen] at this
     exact this
    ·exact h1
   ·rename_i hqo
    obtain ⟨ls0,b',c',hq,hι',hv⟩:=h
    exact ⟨_,b',c',hH q _ hq hqo,hι',hv⟩
  |dead=>exact h
 ·exact Ghost.refl A
def frsX (tm:List (Nat × AV))(ob:List (Nat × AO))(bh:Beh)(o:Nat):Option AO→ASt
 |some (.cells ls)=>match pures ls with
  |some ds=>⟨mapTm (AL.frs o ds) tm,mapOb o (AL.frs o ds) ob,bh⟩
  |none=>⟨tm,ob,bh⟩
 |_=>⟨tm,ob,bh⟩
attribute [go_sem] frsX AL.frs
@[go_sem] theorem frs_mk (tm:List (Nat × AV))(ob:List (Nat × AO))(bh:Beh)(o:Nat):(ASt.mk tm ob bh).frs o=frsX tm ob bh o (look ob o):=by
 unfold ASt.frs
 simp only [ASt.obj,ASt.settle]
 cases h:look ob o with
 |none=>rfl
 |some x=>cases x<;>first|rfl|(rename_i ls;cases hp:pures ls<;>simp [frsX,hp])
theorem Run.frs {P:Program}{ops:Array Oper}{Φ:ASt→Prop}{A A':ASt}{l:List Oper}(o:Nat)(hp:A.frs o=A')(h':Run P ops Φ l A'):Run P ops Φ l A:=.ghost (Ghost.frs A o) (hp▸h')
end Go.Mw
namespace Go.Mw
open Go.RowKit
/-! Steps whose plain parts are found by the step itself. -/
theorem Run.o1 {P:Program}{ops:Array Oper}{Φ:ASt→Prop}{A A':ASt}{r:List Oper}{o:Oper}{rs:List Loc}{ws:List Wr}(h:stepOp P ops o A=some (rs,ws))(h':Run P ops Φ r A')(hp:A.put ws=A':=by simp only [go_sem]<;>rfl):Run P ops Φ (o::r) A:=.op h hp h'
theorem Run.o {P:Program}{ops:Array Oper}{Φ:ASt→Prop}{A A':ASt}{r:List Oper}{o:Oper}{rs:List Loc}{ws:List Wr}(h':Run P ops Φ r A')(h:stepOp P ops o A=some (rs,ws):=by simp only [go_sem]<;>rfl)(hp:A.put ws=A':=by simp only [go_sem]<;>rfl):Run P ops Φ (o::r) A:=.op h hp h'
theorem OpenK.o1 {P:Program}{ops:Array Oper}{A A':ASt}{acc:List Fp}{K:List Fp→ASt→Prop}{r:List (Oper × Nat)}{i:Nat}{o:Oper}{rs:List Loc}{ws:List Wr}{wl:List Loc}(h:stepOp P ops o A=some (rs,ws))(h':OpenK P ops r A' (⟨rs,wl⟩::acc) K)
  (hp:A.put ws=A':=by simp only [go_sem]<;>rfl) (hw:wLocs ws=wl:=by simp only [go_sem]<;>rfl):OpenK P ops ((o,i)::r) A acc K:=.op h hp hw h'
theorem OpenK.o {P:Program}{ops:Array Oper}{A A':ASt}{acc:List Fp}{K:List Fp→ASt→Prop}{r:List (Oper × Nat)}{i:Nat}{o:Oper}{rs:List Loc}{ws:List Wr}{wl:List Loc}(h':OpenK P ops r A' (⟨rs,wl⟩::acc) K)
  (h:stepOp P ops o A=some (rs,ws):=by simp only [go_sem]<;>rfl) (hp:A.put ws=A':=by simp only [go_sem]<;>rfl) (hw:wLocs ws=wl:=by simp only [go_sem]<;>rfl):OpenK P ops ((o,i)::r) A acc K:=.op h hp hw h'
section
variable {P:Program} {ops:Array Oper} {Φ:ASt→Prop} {A A':ASt} {r:List Oper}
theorem Run.s {dst:Nat}{op:Op}{ty:TypeId}{pos:String}{af:Array Edge}{g:Nat × Bool}(h':Run P ops Φ r A')(hw:wantedA ops (some g) A=some false:=by simp only [go_sem]<;>rfl)(hp:A.put [.slot dst (.tup [])]=A':=by simp only [go_sem]<;>rfl) :
  Run P ops Φ (⟨some dst,op,ty,pos,af,some g⟩::r) A:=.skp hw hp h'
theorem Run.y1 {dst:Option Nat}{op:Op}{ty:TypeId}{pos:String}{af:Array Edge}{g:Nat × Bool}{rs:List Loc}{ws:List Wr}
  (h:(effOp P op dst).run A (guardLoc ops ⟨dst,op,ty,pos,af,some g⟩)=some (rs,ws)) (h':Run P ops Φ r A') (hw:wantedA ops (some g) A=some true:=by simp only [go_sem]<;>rfl) (hp:A.put ws=A':=by simp only [go_sem]<;>rfl) :
  Run P ops Φ (⟨dst,op,ty,pos,af,some g⟩::r) A:=.yes hw h hp h'
theorem Run.c1 {d:Nat}{g:FuncId}{as:List Operand}{tys:Array TypeId}{ty:TypeId}{pos:String}{af:Array Edge}{args:List AV}{res:AV}{obs:List (Nat × AO)}{vs:List AV}
  (hc:Contract P g args res obs) (hv:as.map A.ev=vs)
  (hp:A.put (obs.reverse.map (fun p=>.obj (1000*(d+1)+p.1) (p.2.ren (1000*(d+1) + ·)))++[.slot d (res.ren (1000*(d+1) + ·))])=A') (h':Run P ops Φ r A')
  (hcan:canCall P g=true:=by simp only [go_sem])
  (hwk:All2 (WkR (rn [] (1000*(d+1))) []) vs args:=by repeat (first|exact trivial|refine ⟨by first|exact WkR.pure rfl|exact WkR.nil _|exact WkR.int V179,?_⟩))
  (hfr:∀q x,look obs q=some x→A.obj (1000*(d+1)+q)=none:=by exact fr0) :
  Run P ops Φ (⟨some d,.call { callee:=.value (.func g),args:=as.toArray,argTypes:=tys },ty,pos,af,none⟩::r) A:=.cal hc hcan hv hwk hfr hp h'
end
section
variable {P:Program} {ops:Array Oper} {A A':ASt} {acc:List Fp} {K:List Fp→ASt→Prop} {r:List (Oper × Nat)}
theorem OpenK.y1 {i:Nat}{dst:Option Nat}{op:Op}{ty:TypeId}{pos:String}{af:Array Edge}{g:Nat × Bool}{rs:List Loc}{ws:List Wr}{wl:List Loc}
  (h:(effOp P op dst).run A (guardLoc ops ⟨dst,op,ty,pos,af,some g⟩)=some (rs,ws)) (h':OpenK P ops r A' (⟨rs,wl⟩::acc) K) (hw:wantedA ops (some g) A=some true:=by simp only [go_sem]<;>rfl) (hp:A.put ws=A':=by simp only [go_sem]<;>rfl) (hl:wLocs ws=wl:=by simp only [go_sem]<;>rfl) :
  OpenK P ops ((⟨dst,op,ty,pos,af,some g⟩,i)::r) A acc K:=.yes hw h hp hl h'
theorem OpenK.s {i dst:Nat}{op:Op}{ty:TypeId}{pos:String}{af:Array Edge}{g:Nat × Bool}{rs:List Loc}(h':OpenK P ops r A' (⟨rs,[.slot dst]⟩::acc) K)(hw:wantedA ops (some g) A=some false:=by simp only [go_sem]<;>rfl)
  (hr:guardLoc ops ⟨some dst,op,ty,pos,af,some g⟩=rs:=by simp only [go_sem]<;>rfl) (hp:A.put [.slot dst (.tup [])]=A':=by simp only [go_sem]<;>rfl):OpenK P ops ((⟨some dst,op,ty,pos,af,some g⟩,i)::r) A acc K:=.skp hw hr hp h'
end
end Go.Mw
namespace Go.Mw
open Go.RowKit
section
variable {P:Program} {ops:Array Oper} {A A':ASt} {acc:List Fp} {K:List Fp→ASt→Prop} {r:List (Oper × Nat)} {Φ:ASt→Prop}
theorem callOK_none {A:ASt}{B:Nat}{res:AV}:CallOK A B [] [] (.ret res []):=
 ⟨fun q x h=>by simp [look] at h,fun q n h=>by simp [look] at h,fun q q' n h=>by simp [look] at h,fun q n ls h=>by simp [look] at h,fun res' obs' hlf=>by
  obtain ⟨rfl,rfl⟩:=hlf.inv
  exact ⟨fun q x h=>by simp [look] at h,fun q x h=>by simp [look] at h⟩⟩
theorem OpenK.inv {i d:Nat}{recv:Operand}{name:String}{t:TypeId}{ag:Bool}{ds:List D}{g:FuncId}{as:List Operand}{tys:Array TypeId}{ty:TypeId}{pos:String}{af:Array Edge}{gd:Option (Nat × Bool)}{args:List AV}{res:AV}{vs:List AV}{rs wl:List Loc}
  (hwt:wantedA ops gd A=some true) (hc:Contract P g args res []) (hf:A.ev recv=.leaf (.d (.ifc t ag ds))) (hmeth:methOf P t name=some g) (hcan:canCall P g=true) (hv:as.map A.ev=vs) (hwk:All2 (WkR (rn [] (1000*(d+1))) []) (.val ag (ds.map .d)::vs) args)
  (hp:A.put [.slot d (res.ren (rn [] (1000*(d+1))))]=A')
  (hr:guardLoc ops ⟨some d,.call { callee:=.invoke recv name,args:=as.toArray,argTypes:=tys },ty,pos,af,gd⟩++opLocs (recv::as)=rs)
  (hw:wLocs [.slot d (res.ren (rn [] (1000*(d+1))))]=wl)
  (h':OpenK P ops r A' (⟨rs,wl⟩::acc) K):OpenK P ops ((⟨some d,.call { callee:=.invoke recv name,args:=as.toArray,argTypes:=tys },ty,pos,af,gd⟩,i)::r) A acc K:=
 .cons (fun ho _ _ hrun=>⟨_,_,ho,by
  have:=StpF.sem (P:=P) (ops:=ops) (o:=⟨some d,.call { callee:=.invoke recv name,args:=as.toArray,argTypes:=tys },ty,pos,af,gd⟩) (A:=A) (opLocs (recv::as)) [.slot d (res.ren (rn [] (1000*(d+1))))] hwt (fun B hB C a w Q hd hR=>by
   have ef:B.ev recv=A.ev recv:=ev_agree fun l hl=>hB l V207
   have eas:as.map B.ev=as.map A.ev:=evs_agree fun l hl=>hB l V207
   obtain ⟨S,M,ι,hR⟩:=hR
   refine Oper.wpIn_mono (fun a' w' h=>?_) (snd_inv (lend:=[]) (pre:=[]) (b:=.ret res []) (κ:=fun _ _=>B.bh) hR hd rfl rfl (ef.trans hf) hmeth hcan (by rw [show as.toArray.toList=as from rfl,eas,hv];exact hwk) hc callOK_none rfl Q)
   obtain ⟨res',obs',hl,hR'⟩:=h
   obtain ⟨e1,e2⟩:=hl.inv
   subst e1 e2
   exact hR')
  rw [hr] at this
  exact this,hw.symm,hp▸hrun⟩) h'
end
theorem eqz {α:Type}{a b:α}(h:a=b:=by repeat' (first|with_reducible_and_instances rfl|refine st_eq ?_ ?_ ?_|refine ret_eq ?_|refine tup_eq ?_|refine tm_eq ?_ ?_|refine arr_eq ?_|refine cells_eq ?_|refine val_eq ?_|refine ls_eq ?_ ?_|refine own_eq ?_ ?_|refine sl_eq ?_|refine b_eq ?_|(refine i_eq ?_;omega))):a=b:=h
end Go.Mw
namespace Go.Mw
open Go.RowKit
def Env.pan (P:Program)(l:Nat)(S0:Settled)(M0:Blocks)(w0:World):Env P where
 l:=l
 J b S M w:=(∃res obs,b=.ret res obs)∧Fr S0 M0 w0 w∧(∀k,M k→M0 k∨w0.heap.size≤k)∧(∀b o,S0 b o→S b o)∧GOk P S w
 glob:=fun h=>h.2.2.2.2
 step:=fun {b S M w S' M' w'} ⟨h1,h2,h3,h4,h5⟩ hf hM hN hS hT=>
  ⟨h1,⟨hf.os.trans h2.os,hf.tape.trans h2.tape,hf.output.trans h2.output,Nat.le_trans h2.size hf.size,fun k hk hn=>(hf.block k (Nat.lt_of_lt_of_le hk h2.size) fun hm=>by
   rcases h3 k hm with h|h
   ·exact hn h
   ·omega).trans (h2.block k hk hn),fun b o h=>(hf.cell b o (h4 b o h)).trans (h2.cell b o h)⟩,fun k hk=>by
   rcases hN k hk with h|⟨h,_⟩
   ·exact h3 k h
   ·exact .inr (Nat.le_trans h2.size h),fun b o h=>hS b o (h4 b o h),h5.step hS hf.cell⟩
 yld:=fun ⟨⟨res,obs,h⟩,_⟩ _=>by cases h
section leave
variable {P:Program} {C:Ctx P} {S:Settled} {M:Blocks} {ι:Nat→Value} {A:ASt} {a:Act} {w:World}
end leave
section steps
variable {P:Program} {ops:Array Oper} {A:ASt} {pv:Value} {Φ:ASt→Prop}
theorem Exec.pan1 {id:Nat}{Φ:Exit→ASt→Prop}(k:Nat){o:Oper}(ho:ops.toList[k]? = some o)(h:Run P ops (fun B=>(∃rs,StpPanF P ops pv o B rs)∧Φ (.panic (chain0 pv)) ⟨[],[],B.bh⟩) (ops.toList.take k) A):Exec P (.region id ops false) Φ A:=
 .inr ⟨pv,ops.toList.take k,o,ops.toList.drop (k+1),by
  obtain ⟨hk,he⟩:=List.getElem?_eq_some_iff.1 ho
  rw [←he,←List.drop_eq_getElem_cons hk,List.take_append_drop],h⟩
theorem Exec.pan {id:Nat}{y:Code}{Φ:Exit→ASt→Prop}(k:Nat){o:Oper}(ho:ops.toList[k]? = some o)(h:Run P ops (fun B=>(∃rs,StpPanF P ops pv o B rs)∧Φ (.panic (chain0 pv)) ⟨[],[],B.bh⟩) (ops.toList.take k) A):Exec P (.seq (.region id ops false) y) Φ A:=
 Exec.pan1 (id:=id) (Φ:=fun e A'=>match e with |.normal=>∃B,Ghost A' B∧Exec P y Φ B|e=>Φ e A') k ho h
end steps
end Go.Mw
namespace Go.Mw
open Go.RowKit
def PureOp (P:Program)(o:Oper)(xs:List Operand)(us:List Value)(r:AV):Prop:=
 ∀ρ:Operand→Value,xs.map ρ=us→∃u,(∀S ι H w,RepV S ι H w r u)∧∀w,(execOp ρ o).run P w=.ok (.value u) w
section pure
variable {P:Program} {ops:Array Oper} {A A':ASt} {o:Oper} {C:Ctx P} {a:Act} {w:World}
theorem evals_raw {S:Settled}{M:Blocks}{ι:Nat→Value}(hR:RelC C S M ι A a w):∀ {xs:List Operand} {us:List Value},xs.map A.ev=us.map AV.raw→xs.map a.eval=us
 |[],[],_=>rfl
 |[],_::_,h=>by simp at h
 |_::_,[],h=>by simp at h
 |x::xs,u::us,h=>by
  simp only [List.map_cons,List.cons.injEq] at h ⊢
  have:=rep_ev hR x
  rw [h.1] at this
  exact ⟨raw_eq (rep_leaf this),evals_raw hR h.2⟩
theorem snd_pur {xs:List Operand}{us:List Value}{r:AV}{d:Nat}(hdst:o.dst=some d)(hop:PureOp P o xs us r)(hx:xs.map A.ev=us.map AV.raw)(hd:∀d,o.dst=some d→C.can d)(hR:Rel C A a w)(Q:Exit→Act→World→Prop) :
  o.wpIn (fen C) 0 P a w (fun a' w'=>Rel C (A.put [.slot d r]) a' w') Q:=by
 obtain ⟨S,M,ι,hR⟩:=hR
 obtain ⟨u,h1,h2⟩:=hop a.eval (evals_raw hR hx)
 refine wp_run (h2 w) V209 ?_
 rw [Oper.uponIn_value,hdst]
 exact ⟨S,M,ι,hR.slot (hd d hdst) (h1 S ι A.obj w)⟩
theorem StpF.pure {xs:List Operand}{us:List Value}{r:AV}{d:Nat}(hw:wantedA ops o.guard A=some true)(hdst:o.dst=some d)(hop:PureOp P o xs us r)(hx:xs.map A.ev=us.map AV.raw):StpF P ops o A (guardLoc ops o++opLocs xs) [.slot d r]:=
 .sem (opLocs xs) [.slot d r] hw fun A' hA C a w Q hd hR=>snd_pur hdst hop ((evs_agree fun l hl=>hA l hl).trans hx) hd hR Q
end pure
def bs (l:List UInt8):ByteArray:=⟨l.toArray⟩
abbrev AV.str (l:List UInt8):AV:=.raw (.string (bs l))
@[simp] theorem bs_size (l:List UInt8):(bs l).size=l.length:=by simp [bs,ByteArray.size]
theorem bs_toList (l:List UInt8):(bs l).data.toList=l:=by simp [bs]
theorem bs_list (l:List UInt8):(bs l).toList=l:=by
 rw [ByteArray.toList_eq,bs_toList]
theorem bs_append (x y:List UInt8):bs x++bs y=bs (x++y):=by
 apply ByteArray.ext
 simp [bs]
theorem bs_get (l:List UInt8)(i:Nat):(bs l)[i]? = l[i]? :=by
 by_cases h:i<l.length
 ·rw [getElem?_pos (bs l) i (by simpa using h),List.getElem?_eq_getElem h]
  congr 1
 ·rw [getElem?_neg (bs l) i (by simpa using h),List.getElem?_eq_none (by omega)]
theorem bs_ext (l:List UInt8)(lo hi:Nat):(bs l).extract lo hi=bs ((l.take hi).drop lo):=by
 apply ByteArray.ext
 apply Array.ext'
 rw [ByteArray.data_extract]
 simp only [bs,List.extract_toArray,List.extract_eq_take_drop]
 rw [List.drop_take]
theorem mk_bs (l:List UInt8):(ByteArray.mk l.toArray)=bs l:=rfl
attribute [go_sem] bs_size bs_append bs_list bs_get bs_ext mk_bs
end Go.Mw
namespace Go.Mw
open Go.RowKit
end Go.Mw
namespace Go.Mw
def _root_.Go.Act.more (a:Act)(ds:List Deferred):Act:={ a with defers:=a.defers++ds }
section defers
variable {F:Fence} {n:Nat} {P:Program} {ops:Array Oper} {ds:List Deferred} {a:Act} {w:World}
end defers
end Go.Mw
namespace Go.Mw
open Go.RowKit
def SemV (P:Program)(o:Oper)(A:ASt)(r:AV):Prop:=∀(C:Ctx P) (S:Settled) (M:Blocks) (ι:Nat→Value) (a:Act) (w:World),RelC C S M ι A a w →
 ∃v,(execOp a.eval o).run P w=.ok (.value v) w∧RepV S ι A.obj w r v
section val
variable {P:Program} {ops:Array Oper} {A A':ASt} {o:Oper} {C:Ctx P} {a:Act} {w:World} {d:Nat} {r:AV}
theorem snd_val (hdst:o.dst=some d)(h:SemV P o A r)(hd:∀d,o.dst=some d→C.can d)(hR:Rel C A a w)(Q:Exit→Act→World→Prop):o.wpIn (fen C) 0 P a w (fun a' w'=>Rel C (A.put [.slot d r]) a' w') Q:=by
 obtain ⟨S,M,ι,hR⟩:=hR
 obtain ⟨v,h1,h2⟩:=h C S M ι a w hR
 refine wp_run h1 V209 ?_
 rw [Oper.uponIn_value,hdst]
 exact ⟨S,M,ι,hR.slot (hd d hdst) h2⟩
theorem Run.val {Φ:ASt→Prop}{l:List Oper}{op:Op}{ty:TypeId}{pos:String}{af:Array Edge}{g:Option (Nat × Bool)}(h:SemV P ⟨some d,op,ty,pos,af,g⟩ A r)(hw:wantedA ops g A=some true)
  (hp:A.put [.slot d r]=A') (h':Run P ops Φ l A'):Run P ops Φ (⟨some d,op,ty,pos,af,g⟩::l) A:=
 .sem (K:=fun B=>B=A') hw (fun C a w Q hd hR=>Oper.wpIn_mono (fun a' w' h=>⟨A',rfl,hp▸h⟩) (snd_val rfl h hd hR Q)) fun B e=>e▸h'
theorem OpenK.val {acc:List Fp}{K:List Fp→ASt→Prop}{l:List (Oper × Nat)}{i:Nat}(xs:List Loc){op:Op}{ty:TypeId}{pos:String}{af:Array Edge}{g:Option (Nat × Bool)}{rs:List Loc}
  (h:∀A',(∀l∈xs,agree A A' l)→SemV P ⟨some d,op,ty,pos,af,g⟩ A' r) (hw:wantedA ops g A=some true) (hr:guardLoc ops ⟨some d,op,ty,pos,af,g⟩++xs=rs) (hp:A.put [.slot d r]=A')
  (h':OpenK P ops l A' (⟨rs,[.slot d]⟩::acc) K):OpenK P ops ((⟨some d,op,ty,pos,af,g⟩,i)::l) A acc K:=
 .cons (fun ho _ _ hrun=>⟨_,_,ho,by
  have:=StpF.sem (ops:=ops) (o:=⟨some d,op,ty,pos,af,g⟩) (A:=A) xs [.slot d r] hw fun A' hA C a w Q hd hR=>snd_val rfl (h A' hA) hd hR Q
  rw [hr] at this
  exact this,rfl,hp▸hrun⟩) h'
end val
section cells
variable {P:Program} {C:Ctx P} {S:Settled} {M:Blocks} {ι:Nat→Value} {A:ASt} {a:Act} {w:World} {o:Oper} {d n:Nat}
end cells
section alloc
variable {P:Program} {ops:Array Oper} {A A':ASt} {d:Nat}
end alloc
section bytes
variable {P:Program}
def byD (l:List UInt8):List (List D):=l.map fun c=>[.raw (.int .u8 c.toNat)]
theorem byD_len (l:List UInt8):(byD l).length=l.length:=by simp [byD]
theorem byD_app (x y:List UInt8):byD (x++y)=byD x++byD y:=by simp [byD]
theorem byD_rep {S:Settled}{w:World}(l:List UInt8):All2 (RepD S w) (byD l).flatten (Lib.strCells (bs l)):=by
 rw [Lib.strCells,bs_toList]
 unfold byD
 induction l with
 |nil=>trivial
 |cons c l ih=>exact ⟨.raw _ rfl,ih⟩
theorem byD_one (l:List UInt8):∀x∈byD l,x.length=1:=fun x h=>by
 unfold byD at h
 obtain ⟨c,_,rfl⟩:=List.mem_map.1 h
 rfl
theorem run_appS {w:World}{t u ty e:TypeId}{i:TypeInfo}(ht:P.underlying t=some (.slice e))(hu:P.underlying u=some .string)(hi:P.info? e=some i)(hz:i.zero=some (.int .u8 0))(hsize:i.size=1)(hby:i.bytes=1)
  {B n:Nat} {v:Value} {xs:List Value} (hown:w.ownsRow B e 1 v n xs) (s:ByteArray) (hlen:n+s.size≤140737488355328) (hB:B≤w.heap.size) :
  ∃v' w',(Builtin.append_ #[t,u] ty #[v,.string s]).run P w=.ok v' w' ∧ w'.ownsRow B e 1 v' (n+s.size) (xs++Lib.strCells s)∧w.grownBy w' (blk v) ∧
   (∀b,blk v'=some b→w.heap.size≤b∨blk v=some b)∧(s.size=0→v'=v):=by
 have h63:n+s.size≤maxLen:=by simp only [maxLen];omega
 rcases hown.2 with ⟨rfl,rfl⟩|⟨g,cap,cur,rfl,hbg,hg,hnc,hcm,hcs,htake⟩
 ·have hx:xs=[]:=List.eq_nil_of_length_eq_zero (by simpa using hown.1)
  subst hx
  obtain ⟨v',w',hr,ho',hgr,hnl⟩:=Lib.run_append_own_string (P:=P) w w.heap.size t u ty e i ht hu hi hz hsize hby (.slice none 0 0) 0 [] (World.ownsRow_nil w _ e 1) s h63 hlen (Nat.le_refl _)
  refine ⟨v',w',hr,⟨ho'.1,?_⟩,hgr,fun b hb=>.inl ?_,fun h=>hnl.2 ⟨rfl,h⟩⟩
  ·rcases ho'.2 with h|⟨g,cap,cur,e1,e2,rest⟩
   ·exact .inl h
   ·exact .inr ⟨g,cap,cur,e1,Nat.le_trans hB e2,rest⟩
  ·rcases ho'.2 with ⟨h,_⟩|⟨g,cap,cur,e1,e2,rest⟩
   ·rw [h] at hb;simp [blk] at hb
   ·rw [e1] at hb;simp [blk] at hb;omega
 ·have hll:(xs++Lib.strCells s).length=(n+s.size)*1:=by rw [List.length_append,hown.1,Lib.strCells_length,Nat.mul_one,Nat.mul_one]
  by_cases hroom:n+s.size≤cap
  ·have hr:=Lib.run_append_room_string (P:=P) w t u ty e i ht hu hi hsize g n cap cur hg s hroom (by rw [hcs,Nat.mul_one];exact hroom)
   refine ⟨_,_,hr,⟨hll,.inr ⟨g,cap,_,rfl,hbg,setRow_heap w g cur _ e _ hg,hroom,hcm,?_,?_⟩⟩,⟨rfl,rfl,rfl,by simp,fun k _ hk=>setRow_other w g k _ (fun e=>hk (by simp [blk,e]))⟩,fun b hb=>.inr hb,fun h=>by rw [h];rfl⟩
   ·simp only [List.size_toArray,List.length_append,List.length_take,List.length_drop,Array.length_toList,Lib.strCells_length]
    omega
   ·have ht':cur.toList.take n=xs:=by simpa using htake
    rw [ht',←hll]
    exact List.take_left
  ·have holds:∀j u,xs[j]? = some u→w.cell? ((⟨g,0,none⟩:Addr).add j)=some u:=hown.cells (g:=g) rfl
   have hr:=Lib.run_append_grow_string (P:=P) w t u ty e i (.int .u8 0) ht hu hi hz ⟨g,0,none⟩ n cap xs (by rw [hsize];exact hown.1) holds s (by omega) (by omega) (by rw [hby];exact growslice_fits (by omega) (by omega))
   have hge:=grownCap_ge w (n+s.size) cap e
   have hcm':grownCap w (n+s.size) cap e≤maxLen:=grownCap_le_maxLen w (n+s.size) cap e h63
   refine ⟨_,_,hr,⟨hll,.inr ⟨w.heap.size,_,_,rfl,hB,heap_alloc_new w.drew _,hge,hcm',?_,?_⟩⟩,⟨rfl,rfl,rfl,by simp,fun b hb _=>Below.heap_alloc w.drew _ b hb⟩,fun b hb=>.inl (by simp [blk] at hb;omega),fun h=>by omega⟩
   ·have hx1:=hown.1
    have hz1:(Value.int IntKind.u8 0).cells.size=1:=rfl
    simp only [Array.size_append,List.size_toArray,size_zeroCells,hz1,hx1,Lib.strCells_length]
    omega
   ·simp only [Array.toList_append,List.append_assoc]
    rw [←List.append_assoc,←hll]
    exact List.take_left
end bytes
section appS
variable {P:Program} {ops:Array Oper} {A A':ASt} {d:Nat}
theorem Run.appS {Φ:ASt→Prop}{l:List Oper}{t u e ty:TypeId}{s x:Operand}{pos:String}{af:Array Edge}{i:TypeInfo}(q:Nat)(b c:List UInt8)(hs:A.ev s=.leaf (.own q 0 b.length b.length)∨(b=[]∧c≠[]∧A.ev s=.raw (.slice none 0 0)))
  (hx:A.ev x=.str c) (hq:A.obj q=some (.arr e 1 (byD b))) (ht:P.underlying t=some (.slice e)) (hu:P.underlying u=some .string) (hi:P.info? e=some i) (hz:i.zero=some (.int .u8 0)∧i.size=1∧i.bytes=1) (hlen:b.length+c.length≤140737488355328)
  (hp:A.put [.obj q (.arr e 1 (byD (b++c))),.slot d (.leaf (.own q 0 (b++c).length (b++c).length))]=A') (h':Run P ops Φ l A') :
  Run P ops Φ (⟨some d,.call { callee:=.builtin .append,args:=#[s,x],argTypes:=#[t,u] },ty,pos,af,none⟩::l) A:=
 .sem (K:=fun B=>B=A') rfl (fun C a w Q hd hR=>by
  obtain ⟨S,M,ι,hR⟩:=hR
  obtain ⟨xs,hown,hall,hkk,_,hS⟩:=hR.objs q _ hq
  have hxv:a.eval x=.string (bs c):=by have:=rep_ev hR x;rw [hx] at this;exact raw_eq (rep_leaf this)
  have hsz:(bs c).size=c.length:=bs_size c
  have hl1:(byD b).length=b.length:=byD_len b
  have key:∃v' w' B,(Builtin.append_ #[t,u] ty #[a.eval s,.string (bs c)]).run P w=.ok v' w' ∧ w'.ownsRow B e 1 v' (b.length+c.length) (xs++Lib.strCells (bs c))∧w.grownBy w' (blk (ι q))∧(∀k,blk v'=some k→w.heap.size≤k∨blk (ι q)=some k)∧(c.length=0→v'=ι q):=by
   rcases hs with hs|⟨hb,hc,hs⟩
   ·have h1:=rep_ev hR s
    rw [hs] at h1
    obtain ⟨_,e',k',es,hob,_,hval⟩:=rep_leaf h1
    rw [hq] at hob;cases hob
    have hv:a.eval s=ι q:=(hval hl1).2.1 rfl rfl
    rw [hl1] at hown
    obtain ⟨v',w',hr,ho',hgr,hbk,hm⟩:=run_appS (P:=P) (ty:=ty) ht hu hi hz.1 hz.2.1 hz.2.2 hown (bs c) (by rw [hsz];exact hlen) (Nat.zero_le _)
    rw [hsz] at ho' hm
    exact ⟨v',w',0,by rw [hv];exact hr,ho',hgr,hbk,hm⟩
   ·subst hb
    have h1:=rep_ev hR s
    rw [hs] at h1
    have hv:=raw_eq (rep_leaf h1)
    have hx0:xs=[]:=List.eq_nil_of_length_eq_zero (by simpa [byD] using hown.1)
    subst hx0
    obtain ⟨v',w',hr,ho',hgr,hbk,hm⟩:=run_appS (P:=P) (ty:=ty) ht hu hi hz.1 hz.2.1 hz.2.2 (World.ownsRow_nil w 0 e 1) (bs c) (by rw [hsz];simpa using hlen) (Nat.zero_le _)
    rw [hsz] at ho' hm
    refine ⟨v',w',0,by rw [hv];exact hr,ho',⟨hgr.os,hgr.tape,hgr.output,hgr.size,fun k hk hne=>hgr.block k hk (by simp [blk])⟩,fun k hk=>.inl ?_,fun h=>absurd (List.eq_nil_of_length_eq_zero h) hc⟩
    rcases hbk k hk with h|h
    ·exact h
    ·simp [blk] at h
  obtain ⟨v',w',B,hr,ho',hgr,hbk,hm0⟩:=key
  have hl2:(byD (b++c)).length=b.length+c.length:=by rw [byD_len,List.length_append]
  have hon:Only ι A q w w':=only_grown hgr fun g hg=>⟨_,hq,hg⟩
  have hu1:v'.oneCell'=true:=by rcases ho'.2 with ⟨rfl,_⟩|⟨_,_,_,rfl,_⟩<;>rfl
  have ht':Turns ι A q (.arr e 1 (byD (b++c))) v':=by
   unfold Turns
   rw [hq]
   exact ⟨_,rfl,by rw [hl1,hl2];omega,fun he=>hm0 (by rw [hl1,hl2] at he;omega)⟩
  have hm:=hon.mv hR ht'
  have ho0:w'.ownsRow 0 e 1 v' (byD (b++c)).length (xs++Lib.strCells (bs c)):=by
   rw [hl2]
   exact ⟨ho'.1,ho'.2.imp id fun ⟨g,cap,cur,h1,_,h2⟩=>⟨g,cap,cur,h1,Nat.zero_le _,h2⟩⟩
  have hRR:=hR.chg hon ht' ⟨xs++Lib.strCells (bs c),by rw [upd_same];exact ho0,by rw [byD_app,List.flatten_append];exact (hall.append (byD_rep c)).mono fun _ _=>hm.d _ _,byD_one _,by omega,fun k hk off hs'=>by
   rw [upd_same] at hk
   rcases hbk k hk with h2|h2
   ·have:=hR.inn _ _ hs';omega
   ·exact hS k h2 off hs'⟩ (fun k hk=>by
   rcases hbk k hk with h2|h2
   ·exact .inl h2
   ·exact .inr ⟨_,hq,h2⟩) (by simp) (fun hn=>by rw [hq] at hn;cases hn)
  have hex:(execOp a.eval ⟨some d,.call { callee:=.builtin .append,args:=#[s,x],argTypes:=#[t,u] },ty,pos,af,none⟩).run P w=.ok (.value v') w':=execOp_append rfl (by rw [hxv];exact hr)
  refine wp_run hex V209 ?_
  ·rw [Oper.uponIn_value]
   refine ⟨A',rfl,?_⟩
   rw [←hp]
   exact ⟨S,_,_,hRR.slot (hd d rfl) (leaf_rep ⟨hu1,e,1,byD (b++c),obj_same _ _ _,by rw [byD_len];exact Nat.le_refl _,fun _=>⟨by omega,by rw [upd_same,List.length_append];rw [hl2] at ho0;exact OwnVal.tip ho0⟩⟩)⟩) fun B e=>e▸h'
end appS
end Go.Mw
namespace Go.Mw
open Go.RowKit
section ptr
variable {P:Program} {A:ASt} {d n:Nat} {x y:Operand} {ty:TypeId} {pos:String} {af:Array Edge} {g:Option (Nat × Bool)} {ls:List AL} {src dst t u:TypeId}
end ptr
section eat
variable {P:Program} {ops:Array Oper} {A:ASt} {d:Nat} {r:AV}
theorem Run.eat {Φ:ASt→Prop}{l:List Oper}{f:FuncId}{as:List Operand}{tys:Array TypeId}{ty:TypeId}{pos:String}{af:Array Edge}(hcan:canCall P f=true)
  (law:∀(C:Ctx P) (S:Settled) (M:Blocks) (ι:Nat→Value) (a:Act) (w:World),RelC C S M ι A a w→Calls P f (as.map a.eval).toArray w fun e w'=>∃v,e=.returned v∧(∀S ι H w,RepV S ι H w r v) ∧
   ∃U:Blocks,(∀k,U k→∃o x,A.obj o=some x∧blk (ι o)=some k)∧Fr S U w w')
  (h':Run P ops Φ l ⟨[(d,r)],[],A.bh⟩):Run P ops Φ (⟨some d,.call { callee:=.value (.func f),args:=as.toArray,argTypes:=tys },ty,pos,af,none⟩::l) A:=
 .sem (K:=fun B=>B=⟨[(d,r)],[],A.bh⟩) rfl (fun C a w Q hd hR=>by
  obtain ⟨S,M,ι,hR⟩:=hR
  have hexec:(execOp a.eval ⟨some d,.call { callee:=.value (.func f),args:=as.toArray,argTypes:=tys },ty,pos,af,none⟩).run P w=.ok (.enter f (as.map a.eval).toArray) w:=by
   have hfv:a.eval (.func f)=.func (.func f) #[] #[]:=rfl
   have e1:as.toArray.map a.eval=(as.map a.eval).toArray:=by apply Array.ext';simp
   simp [execOp,resolve,hfv,Deferred.ofValue,invoke,run_callFunc hcan]
  refine wp_run hexec V209 ?_
  rw [Oper.uponIn_enter]
  refine ⟨fen_isSome C,callsIn_fen C ?_⟩
  have hl:=law C S M ι a w hR
  rw [←callsIn_wide] at hl
  refine hl.mono fun e w' ⟨v,he,hr,U,hU,hf⟩=>?_
  subst he
  refine ⟨_,rfl,?_⟩
  obtain ⟨S2,M2,ι2,hR2⟩:=hR.forget hU hf
  exact ⟨S2,M2,ι2,hR2.slot (hd d rfl) (hr _ _ _ _)⟩) fun B e=>e▸h'
end eat
end Go.Mw
namespace Go.Mw
section
variable {P:Program} {ops:Array Oper} {A A':ASt} {acc:List Fp} {K:List Fp→ASt→Prop} {r:List (Oper × Nat)}
theorem put_objs (l:List (Nat × AO)):∀(B:ASt),B.put (l.reverse.map fun p=>.obj p.1 p.2)=⟨B.tm,l++B.ob,B.bh⟩:=by
 induction l with
 |nil=>intro B;rfl
 |cons p l ih=>
  intro B
  have happ:∀(a b:List Wr) (B:ASt),B.put (a++b)=(B.put a).put b:=by
   intro a
   induction a with
   |nil=>intro b B;rfl
   |cons x a ih2=>intro b B;exact ih2 b _
  rw [List.reverse_cons,List.map_append,happ,ih]
  rfl
theorem wLocs_app (a b:List Wr):wLocs (a++b)=wLocs a++wLocs b:=by
 induction a with
 |nil=>rfl
 |cons x a ih=>cases x<;>simp [wLocs,ih]
theorem wLocs_objs (l:List (Nat × AO)):wLocs (l.map fun p=>.obj p.1 p.2)=l.map fun p=>.obj p.1:=by
 induction l with
 |nil=>rfl
 |cons p l ih=>simp [wLocs,ih]
theorem OpenK.lendG {i d:Nat}{f:Operand}{g:FuncId}{ds:List D}{as:List Operand}{tys:Array TypeId}{ty:TypeId}{pos:String}{af:Array Edge}{gd:Option (Nat × Bool)}{args:List AV}{pre obs:List (Nat × AO)}{res:AV}{vs:List AV}{rs wl:List Loc}(lend:List (Nat × Nat))
  (hwt:wantedA ops gd A=some true) (hcon:Con P g args pre (.ret res obs)) (hcan:canCall P g=true) (hf:A.ev f=.leaf (.d (.fn g ds))) (hv:as.map A.ev=vs) (hwk:All2 (WkR (rn lend (1000*(d+1))) (nms pre)) (vs++ds.map fun x=>.leaf (.d x)) args)
  (hdom:lend.map Prod.fst=pre.map Prod.fst) (hinj:(lend.map Prod.snd).Nodup) (hin:pre.all (fun p=>p.2.inn (nms pre))=true)
  (hob:∀p∈pre,∀n,look lend p.1=some n→A.obj n=some (p.2.ren (rn lend (1000*(d+1))))) (hback:∀p∈pre,∃x',look obs p.1=some x' ∧ Back p.2 x') (hnew:obs.all (fun p=>(look lend p.1).isSome)=true)
  (hp:after A d (rn lend (1000*(d+1))) res obs A.bh=A')
  (hr:guardLoc ops ⟨some d,.call { callee:=.value f,args:=as.toArray,argTypes:=tys },ty,pos,af,gd⟩++(opLocs (f::as)++lend.map fun p=>.obj p.2)=rs)
  (hw:((obs.map fun p=>Loc.obj (rn lend (1000*(d+1)) p.1)).reverse++[.slot d])=wl)
  (h':OpenK P ops r A' (⟨rs,wl⟩::acc) K) (htg:(lend.all fun p=>tagTy (p.2%1000)==tagTy (p.1%1000))=true:=by rfl) :
  OpenK P ops ((⟨some d,.call { callee:=.value f,args:=as.toArray,argTypes:=tys },ty,pos,af,gd⟩,i)::r) A acc K:=
 .cons (fun ho _ _ hrun=>⟨_,_,ho,by
  have:=StpF.sem (P:=P) (ops:=ops) (o:=⟨some d,.call { callee:=.value f,args:=as.toArray,argTypes:=tys },ty,pos,af,gd⟩) (A:=A) (opLocs (f::as)++lend.map fun p=>.obj p.2)
    (((obs.map fun p=>(rn lend (1000*(d+1)) p.1,p.2.ren (rn lend (1000*(d+1))))).reverse.map fun p=>.obj p.1 p.2)++[.slot d (res.ren (rn lend (1000*(d+1))))]) hwt (fun B hB C a w Q hd hR=>by
   have ef:B.ev f=A.ev f:=ev_agree fun l hl=>hB l V207
   have eas:as.map B.ev=as.map A.ev:=evs_agree fun l hl=>hB l V207
   obtain ⟨S,M,ι,hR⟩:=hR
   have hob':∀p∈pre,∀n,look lend p.1=some n→B.obj n=some (p.2.ren (rn lend (1000*(d+1)))):=fun p hp n hn=>by
    have h1:Mw.agree A B (.obj n):=hB (.obj n) (List.mem_append.2 (.inr (List.mem_map.2 ⟨(p.1,n),look_in hn,rfl⟩)))
    exact Eq.trans h1 (hob p hp n hn)
   refine Oper.wpIn_mono (fun a' w' h=>?_) (snd_callG (f:=f) (as:=as) (caps:=ds.map .d) (lend:=lend) (pre:=pre) (b:=.ret res obs) (κ:=fun _ _=>B.bh) hR hd rfl (by simp [opCall]) (.inl ⟨ds,ef.trans hf,rfl⟩) hcan
    (by rw [eas,hv,List.map_map];exact hwk) hcon (callOK_ret hdom hinj hin hob' hback (fun p hp hn=>by have:=List.all_eq_true.1 hnew p hp;rw [hn] at this;cases this) htg) rfl Q)
   obtain ⟨res',obs',hl,hR'⟩:=h
   obtain ⟨e1,e2⟩:=hl.inv
   subst e1 e2
   have happ:∀(a b:List Wr) (B:ASt),B.put (a++b)=(B.put a).put b:=by
    intro a
    induction a with
    |nil=>intro b B;rfl
    |cons x a ih2=>intro b B;exact ih2 b _
   rw [happ,put_objs]
   exact hR')
  rw [hr] at this
  exact this,by rw [←hw,wLocs_app,wLocs_objs,List.map_reverse,List.map_map];rfl,by
   have happ:∀(a b:List Wr) (B:ASt),B.put (a++b)=(B.put a).put b:=by
    intro a
    induction a with
    |nil=>intro b B;rfl
    |cons x a ih2=>intro b B;exact ih2 b _
   rw [happ,put_objs]
   show RunF P ops _ (after A d (rn lend (1000*(d+1))) res obs A.bh) _ _
   rw [hp];exact hrun⟩) h'
end
def penC (a b:Nat)(l:List UInt8):List AL:=if l=[] then [.d (.raw (.pointer none)),.d (.raw (.slice none 0 0))] else [.ptr a 0,.own b 0 l.length l.length]
theorem penC_ren (a b:Nat)(l:List UInt8)(r:Nat→Nat):(penC a b l).map (AL.ren r)=penC (r a) (r b) l:=by
 unfold penC;split<;>rfl
theorem penC_keep (a b:Nat)(l:List UInt8)(os:List Nat)(h:(os.contains a&&os.contains b)=true):(penC a b l).map (AL.keep os)=penC a b l:=by
 rw [Bool.and_eq_true] at h
 unfold penC
 split
 ·rfl
 ·simp only [List.map_cons,List.map_nil,AL.keep,h.1,h.2,if_true]
@[go_sem ↓] theorem pen_ren (a b:Nat)(l:List UInt8)(r:Nat→Nat):(AO.cells (penC a b l)).ren r=.cells (penC (r a) (r b) l):=congrArg AO.cells (penC_ren a b l r)
@[go_sem ↓] theorem pen_keep (a b:Nat)(l:List UInt8)(os:List Nat)(h:(os.contains a&&os.contains b)=true):(AO.cells (penC a b l)).keep os=.cells (penC a b l):=congrArg AO.cells (penC_keep a b l os h)
@[go_sem ↓] theorem pen_ren2 (a b:Nat)(l:List UInt8)(r:Nat→Nat)(n:Nat):AO.ren r ((n,AO.cells (penC a b l)):Nat × AO).2=.cells (penC (r a) (r b) l):=pen_ren a b l r
@[go_sem] theorem penC_frz (o k:Nat)(es:List (List D))(a b:Nat)(l:List UInt8)(h:(b==o)=false):(penC a b l).map (AL.frz o k es)=penC a b l:=by
 have hb:¬b=o:=by simpa using h
 unfold penC
 split
 ·rfl
 ·simp only [List.map_cons,List.map_nil,AL.frz,if_neg hb]
@[go_sem] theorem penC_frzc (o:Nat)(ds:List D)(a b:Nat)(l:List UInt8)(h:(a==o)=false):(penC a b l).map (AL.frzc o ds)=penC a b l:=by
 have ha:¬a=o:=by simpa using h
 unfold penC
 split
 ·rfl
 ·simp only [List.map_cons,List.map_nil,AL.frzc,if_neg ha]
end Go.Mw
namespace Go.Mw
open Go.RowKit
section conv
variable {P:Program} {A:ASt} {d:Nat} {x:Operand} {ty:TypeId} {pos:String} {af:Array Edge} {g:Option (Nat × Bool)} {src dst e:TypeId}
end conv
end Go.Mw
namespace Go.Mw
open Go.RowKit
section appC
variable {P:Program} {ops:Array Oper} {A A':ASt} {d:Nat}
structure AppC (P:Program) (A:ASt) (s x:Operand) (t e:TypeId) (q r:Nat) (ds:List D) (es:List (List D)) (d:Nat) (i:TypeInfo) (z:Value):Prop where
 hs:A.ev s=.leaf (.csl q 0 ds.length)
 hx:A.ev x=.leaf (.own r 0 es.length es.length)
 hq:A.obj q=some (.cells (ds.map .d))
 hr:A.obj r=some (.arr e 1 es)
 hd:A.obj d=none
 ht:P.underlying t=some (.slice e)
 hi:P.info? e=some i
 hz:i.zero=some z∧i.size=1∧z.cells.size=1
 h0:0<es.length
 hlen:ds.length+es.length≤1048576∧(ds.length+es.length)*i.bytes≤140737488355328
theorem snd_appC {C:Ctx P}{a:Act}{w:World}{s x:Operand}{t e ty:TypeId}{pos:String}{af:Array Edge}{q r:Nat}{ds:List D}{es:List (List D)}{i:TypeInfo}{z:Value}(h:AppC P A s x t e q r ds es d i z)(hd:C.can d)(hR:Rel C A a w)(Q:Exit→Act→World→Prop) :
  (⟨some d,.call { callee:=.builtin .append,args:=#[s,x],argTypes:=#[t,t] },ty,pos,af,none⟩:Oper).wpIn (fen C) 0 P a w
   (fun a' w'=>Rel C (A.put [.slot d (.leaf (.own d 0 ((ds.map fun y=>[y])++es).length ((ds.map fun y=>[y])++es).length)),.obj d (.arr e 1 ((ds.map fun y=>[y])++es))]) a' w') Q:=by
 obtain ⟨S,M,ι,hR⟩:=hR
 have h1:=rep_ev hR s
 rw [h.hs] at h1
 obtain ⟨ls,b,c,g1,g2,g3,g4⟩:=rep_leaf h1
 rw [h.hq] at g1;cases g1
 subst g4
 obtain ⟨b',vs,el,k1,k2,k3,_⟩:=hR.objs q _ h.hq
 rw [g2] at k1;cases k1
 have h2:=rep_ev hR x
 rw [h.hx] at h2
 obtain ⟨_,e',k',es',j1,_,j2⟩:=rep_leaf h2
 rw [h.hr] at j1;cases j1
 have j2:=(j2 rfl).2.1 rfl rfl
 obtain ⟨xs,hown,hall,hkk,_,hS⟩:=hR.objs r _ h.hr
 obtain ⟨g,cap,cur,u1,u2,u3,u4,u5,u6,u7⟩:∃g cap cur,ι r=.slice (some ⟨g,0,none⟩) es.length cap∧0≤g∧w.heap[g]? = some (.cells cur e (0,0))∧es.length≤cap∧cap≤maxLen∧cur.size=cap*1∧cur.toList.take (es.length*1)=xs:=by
  rcases hown.2 with ⟨_,hz⟩|h
  ·exact absurd hz (by have:=h.h0;omega)
  ·exact h
 have hcs:=hown.cells (g:=g) (by rw [u1];rfl)
 have hvl:vs.length=ds.length:=by have:=k3.length;simpa using this.symm
 have hxl:xs.length=es.length:=by simpa using hown.1
 have holds:∀j u,vs[j]? = some u→w.cell? ((⟨b,0,none⟩:Addr).add j)=some u:=fun j u hj=>by
  rw [Addr.add_lit]
  show w.cell? ⟨b,0+j,none⟩=_
  rw [Nat.zero_add,Lib.cell_of_heap k2]
  simpa using hj
 have hnews:∀j u,xs[j]? = some u→w.cell? ((⟨g,0,none⟩:Addr).add j)=some u:=hcs
 have hone:∀u∈xs,u.oneCell'=true:=all2_oneD hall
 have hr:=run_append_grow (P:=P) w t ty e i z h.ht h.hi h.hz.1 ⟨b,0,none⟩ ds.length ds.length vs (by rw [h.hz.2.1,hvl,Nat.mul_one]) holds ⟨g,0,none⟩ es.length cap xs (by rw [h.hz.2.1,hxl,Nat.mul_one]) hnews (by have:=h.h0;omega) (by have:=h.hlen;omega) (growslice_fits (by have:=h.h0;omega) h.hlen.2)
 have hge:=grownCap_ge w (ds.length+es.length) ds.length e
 have hcm:=grownCap_le_maxLen w (ds.length+es.length) ds.length e (by have:=h.hlen;simp only [maxLen];omega)
 have hll:(vs++xs).length=(ds.length+es.length)*1:=by rw [List.length_append,hvl,hxl,Nat.mul_one]
 have hflat:((ds.map fun y=>[y])++es).flatten=ds++es.flatten:=by
  rw [List.flatten_append]
  congr 1
  clear h hR h1 h2 k3 hall g3 holds hr hge hcm hll hvl
  induction ds with
  |nil=>rfl
  |cons y l ih=>simp [ih]
 have hlen2:((ds.map fun y=>[y])++es).length=ds.length+es.length:=by simp
 have hds:All2 (RepD S w) ds vs:=by
  clear h hR h1 h2 hall g3 holds hr hge hcm hll hvl hflat hlen2 k2
  induction ds generalizing vs with
  |nil=>cases vs with
   |nil=>trivial
   |cons _ _=>exact k3.elim
  |cons y l ih=>cases vs with
   |nil=>exact k3.elim
   |cons v vs=>exact ⟨k3.1,ih _ k3.2⟩
 have hex:(execOp a.eval ⟨some d,.call { callee:=.builtin .append,args:=#[s,x],argTypes:=#[t,t] },ty,pos,af,none⟩).run P w=.ok (.value _) _:=execOp_append rfl (by rw [g3,j2,u1];exact hr)
 refine wp_snd (snd_arr hR rfl hd h.hd (k:=1) (es:=(ds.map fun y=>[y])++es) (xs:=vs++xs) hex ⟨rfl,rfl,rfl,by simp,fun k hk _=>Below.heap_alloc w.drew _ k hk⟩ ?_ (fun k hk=>by simp [blk] at hk;omega) ?_ ?_ (by omega)) Q
 ·rw [hlen2]
  refine ⟨hll,.inr ⟨w.heap.size,_,_,rfl,Nat.zero_le _,heap_alloc_new w.drew _,hge,hcm,?_,?_⟩⟩
  ·simp only [Array.size_append,List.size_toArray,size_zeroCells,h.hz.2.2,hvl,hxl]
   omega
  ·simp only [Array.toList_append,List.append_assoc]
   rw [←List.append_assoc,←hll]
   exact List.take_left
 ·rw [hflat];exact hds.append hall
 ·intro y hy
  rcases List.mem_append.1 hy with hy|hy
  ·obtain ⟨_,_,rfl⟩:=List.mem_map.1 hy;rfl
  ·exact hkk y hy
theorem AppC.agr {s x:Operand}{t e:TypeId}{q r:Nat}{ds:List D}{es:List (List D)}{i:TypeInfo}{z:Value}(h:AppC P A s x t e q r ds es d i z){B:ASt}(ha:∀l∈opLocs [s,x]++[.obj q,.obj r,.obj d],Mw.agree A B l):AppC P B s x t e q r ds es d i z:=by
 have hs:B.ev s=A.ev s:=ev_agree fun l hl=>ha l V207
 have hx:B.ev x=A.ev x:=ev_agree fun l hl=>ha l (by rw [opLocs_cons,opLocs_cons];simp [hl])
 have hq:Mw.agree A B (.obj q):=ha (.obj q) (by simp)
 have hr:Mw.agree A B (.obj r):=ha (.obj r) (by simp)
 have hd:Mw.agree A B (.obj d):=ha (.obj d) (by simp)
 exact { h with hs:=hs.trans h.hs,hx:=hx.trans h.hx,hq:=Eq.trans hq h.hq,hr:=Eq.trans hr h.hr,hd:=Eq.trans hd h.hd }
theorem Run.appC {Φ:ASt→Prop}{l:List Oper}{s x:Operand}{t e ty:TypeId}{pos:String}{af:Array Edge}{ds:List D}{es:List (List D)}{i:TypeInfo}{z:Value}(q r:Nat)(h:AppC P A s x t e q r ds es d i z)
  (hp:A.put [.slot d (.leaf (.own d 0 ((ds.map fun y=>[y])++es).length ((ds.map fun y=>[y])++es).length)),.obj d (.arr e 1 ((ds.map fun y=>[y])++es))]=A') (h':Run P ops Φ l A') :
  Run P ops Φ (⟨some d,.call { callee:=.builtin .append,args:=#[s,x],argTypes:=#[t,t] },ty,pos,af,none⟩::l) A:=
 .sem (K:=fun B=>B=A') rfl (fun C a w Q hd hR=>Oper.wpIn_mono (fun a' w' h=>⟨A',rfl,hp▸h⟩) (snd_appC h (hd d rfl) hR Q)) fun B e=>e▸h'
theorem OpenK.appC {acc:List Fp}{K:List Fp→ASt→Prop}{l:List (Oper × Nat)}{k:Nat}{s x:Operand}{t e ty:TypeId}{pos:String}{af:Array Edge}{ds:List D}{es:List (List D)}{i:TypeInfo}{z:Value}{rs:List Loc}(q r:Nat)(h:AppC P A s x t e q r ds es d i z)
  (hr:opLocs [s,x]++[.obj q,.obj r,.obj d]=rs)
  (hp:A.put [.slot d (.leaf (.own d 0 ((ds.map fun y=>[y])++es).length ((ds.map fun y=>[y])++es).length)),.obj d (.arr e 1 ((ds.map fun y=>[y])++es))]=A')
  (h':OpenK P ops l A' (⟨rs,[.slot d,.obj d]⟩::acc) K):OpenK P ops ((⟨some d,.call { callee:=.builtin .append,args:=#[s,x],argTypes:=#[t,t] },ty,pos,af,none⟩,k)::l) A acc K:=
 .cons (fun ho _ _ hrun=>⟨_,_,ho,by
  have:=StpF.sem (P:=P) (ops:=ops) (o:=⟨some d,.call { callee:=.builtin .append,args:=#[s,x],argTypes:=#[t,t] },ty,pos,af,none⟩) (A:=A) (opLocs [s,x]++[.obj q,.obj r,.obj d]) [.slot d (.leaf (.own d 0 ((ds.map fun y=>[y])++es).length ((ds.map fun y=>[y])++es).length)),.obj d (.arr e 1 ((ds.map fun y=>[y])++es))] rfl fun B hB C a w Q hd hR=>snd_appC (h.agr hB) (hd d rfl) hR Q
  rw [show guardLoc ops ⟨some d,.call { callee:=.builtin .append,args:=#[s,x],argTypes:=#[t,t] },ty,pos,af,none⟩++(opLocs [s,x]++[.obj q,.obj r,.obj d])=rs from hr] at this
  exact this,rfl,hp▸hrun⟩) h'
end appC
end Go.Mw
namespace Go.Mw
open Go.RowKit
section
variable {P:Program} {A:ASt} {d:Nat} {x:Operand} {ty:TypeId} {pos:String} {af:Array Edge} {g:Option (Nat × Bool)} {t tz e:TypeId}
end
end Go.Mw
namespace Go.Mw
section
variable {P:Program} {ops:Array Oper} {A A':ASt} {pv:Value}
def live (ops:Array Oper):List Nat→List (Oper × Nat)
 |[]=>[]
 |i::r=>match ops.toList.drop i with
  |o::_=>(o,i)::live ops r
  |[]=>[]
theorem live_get:∀(l:List Nat) (p:Oper × Nat),p∈live ops l→ops[p.2]? = some p.1
 |[],p,h=>by cases h
 |i::r,p,h=>by
  unfold live at h
  split at h
  ·rename_i o t he
   rcases List.mem_cons.1 h with e|h
   ·subst e
    have:ops.toList[i]? = some o:=by
     rw [show ops.toList[i]? = (ops.toList.drop i)[0]? by rw [List.getElem?_drop,Nat.add_zero],he];rfl
    simpa using this
   ·exact live_get r p h
  ·cases h
theorem live_snd:∀(l:List Nat),(l.all fun i=>decide (i<ops.size))=true→(live ops l).map Prod.snd=l
 |[],_=>rfl
 |i::r,h=>by
  simp only [List.all_cons,Bool.and_eq_true,decide_eq_true_eq] at h
  unfold live
  split
  ·rw [List.map_cons,live_snd r h.2]
  ·rename_i he
   have:=List.drop_eq_nil_iff.1 he
   simp at this;omega
end
end Go.Mw
namespace Go.Mw
open Go.RowKit
section
variable {P:Program} {f g:FuncId} {T1 T2 T3:TypeId}
end
end Go.Mw
namespace Go.Mw
section
variable {P:Program} {ops:Array Oper} {A A':ASt} {Φ:ASt→Prop}
theorem all2_set {α β:Type}{R:α→β→Prop}:∀ {l:List α} {m:List β} {j:Nat} {x y:α},All2 R l m→l[j]? = some x→(∀v,R x v→R y v)→All2 R (l.set j y) m
 |[],_,_,_,_,_,h,_=>by simp at h
 |_::_,[],_,_,_,h,_,_=>h.elim
 |a::l,b::m,0,x,y,h,hj,hr=>by
  have:a=x:=by simpa using hj
  subst this
  exact ⟨hr _ h.1,h.2⟩
 |a::l,b::m,j+1,x,y,h,hj,hr=>⟨h.1,all2_set h.2 (by simpa using hj) hr⟩
theorem Wk.nilAt {ls:List AL}{j:Nat}(k:Nat)(hj:ls[j]? = some (.d (.raw (.slice none 0 0)))):Wk (.val true ls) (.val true (ls.set j (.d (.sl k [])))):=by
 intro S ι H w v h
 obtain ⟨vs,hv,ha⟩:=h
 exact ⟨vs,hv,all2_set ha hj fun u hu=>by cases hu;exact RepD.nil k none 0⟩
theorem Run.nildA {l:List Oper}(s j k:Nat){ls:List AL}(hs:A.get s=.val true ls)(hj:ls[j]? = some (.d (.raw (.slice none 0 0))))(hp:A.put [.slot s (.val true (ls.set j (.d (.sl k []))))]=A')(h':Run P ops Φ l A'):Run P ops Φ l A:=
 .ghost (Ghost.wk _ (by rw [hs];exact Wk.nilAt k hj)) (hp▸h')
end
end Go.Mw
namespace Go
structure Fx (p:Prop):Prop where
 h:p
theorem Fx.a {p q:Prop}(x:Fx p)(h:q):Fx (p∧q):=⟨x.h,h⟩
end Go
namespace Go.Mw
open Go.RowKit
section pins
variable {P:Program} {ops:Array Oper} {A A':ASt} {C:Ctx P} {S:Settled} {M:Blocks} {ι:Nat→Value} {a:Act} {w:World} {Φ:ASt→Prop}
theorem only_none (o:Nat):Only ι A o w w:=⟨rfl,rfl,rfl,Nat.le_refl _,fun _ _ _=>rfl⟩
theorem RelC.pin (hR:RelC C S M ι A a w){G:Nat}{u:Value}{l:AL}(hG:(A.obj G=none∧1000≤G)∨∃v l',A.obj G=some (.pin v l'))(hl:RepL S ι A.obj w l u) :
  RelC C S (grow M w w) (upd ι G undef) (A.put [.obj G (.pin u l)]) a w:=by
 have hpin:A.obj G=none→C.pin G=none:=fun hn=>by
  rcases hG with ⟨_,hN⟩|⟨v,l',h⟩
  ·cases hp:C.pin G with
   |none=>rfl
   |some q=>have:=hR.pinN G (by rw [hp];simp);omega
  ·rw [h] at hn;cases hn
 have ht:Turns ι A G (.pin u l) undef:=by
  rcases hG with ⟨hn,_⟩|⟨v,l',h⟩
  ·exact turns_new hn _ _
  ·unfold Turns
   rw [h]
   exact ⟨rfl,(hR.objs G _ h).1.symm⟩
 have hon:Only ι A G w w:=only_none G
 exact hR.chg hon ht ⟨upd_same ..,(hon.mv hR ht).l hl⟩ (fun b hb=>by simp [blk,undef] at hb) (by simp) hpin
theorem Ghost.unpinS {G d:Nat}{v:Value}{l:AL}(hG:A.obj G=some (.pin v l))(hs:A.get d=.leaf (.d (.raw v))):Ghost A (A.put [.slot d (.leaf l)]):=by
 intro P C a w ⟨S,M,ι,hR⟩
 obtain ⟨_,hp⟩:=hR.objs G _ hG
 refine ⟨S,M,ι,hR.sub,hR.new,hR.inn,hR.minn,hR.sz,fun s=>?_,hR.objs,hR.dis,hR.own,hR.env,hR.tok,hR.fixed,hR.marks,hR.rdok,hR.pinned,hR.pinN⟩
 by_cases hq:s=d
 ·subst hq
  have h1:(A.put [.slot s (.leaf l)]).get s=.leaf l:=by simp [ASt.put,ASt.put1,ASt.get,look]
  rw [h1]
  have h2:=hR.tms s
  rw [hs] at h2
  have h3:=raw_eq (rep_leaf h2)
  rw [h3]
  exact ⟨l,rfl,hp⟩
 ·have h1:(A.put [.slot d (.leaf l)]).get s=A.get s:=by simp [ASt.put,ASt.put1,ASt.get,look,hq]
  rw [h1];exact hR.tms s
theorem StpF.pin {o:Oper}{d G:Nat}{v:Value}{l:AL}{rs:List Loc}(hw:wantedA ops o.guard A=some true)(h:(effOp P o.op o.dst).run A (guardLoc ops o)=some (rs,[.slot d (.leaf (.d (.raw v)))]))(hG:A.obj G=some (.pin v l)) :
  StpF P ops o A (guardLoc ops o++(rs++[.obj G])) [.slot d (.leaf l)]:=by
 refine .sem (rs++[.obj G]) _ hw fun B hB C a w Q hd hR=>?_
 have h2:StpF P ops o B rs [.slot d (.leaf (.d (.raw v)))]:=(StpF.eff rs _ hw h).agree fun l hl=>hB l V217
 have hG':B.obj G=some (.pin v l):=(hB (.obj G) (by simp)).trans hG
 have hwB:wantedA ops o.guard B=some true:=(wanted_agree fun l hl=>hB l (by simp [Ev.run_acc _ _ h l hl])).trans hw
 have h3:=step_next (Q:=Q) (K:=fun a' w'=>Rel C (B.put [.slot d (.leaf l)]) a' w') hR hd h2 fun a' w' h4=>by
  have hg:=Ghost.unpinS (A:=B.put [.slot d (.leaf (.d (.raw v)))]) (G:=G) (d:=d) (v:=v) (l:=l) hG' (by simp [ASt.put,ASt.put1,ASt.get,look])
  have hsm:Same ((B.put [.slot d (.leaf (.d (.raw v)))]).put [.slot d (.leaf l)]) (B.put [.slot d (.leaf l)]):=⟨fun l'=>?_,rfl⟩
  ·exact rel_same hsm (hg P C a' w' h4)
  cases l' with
  |slot s=>
   show (B.put [.slot d (.leaf l)]).get s=((B.put [.slot d (.leaf (.d (.raw v)))]).put [.slot d (.leaf l)]).get s
   by_cases hs:s=d<;>simp [ASt.put,ASt.put1,ASt.get,look,hs]
  |obj q=>rfl
 obtain ⟨S,M,ι,hRL⟩:=hR
 rw [if_pos (wanted_rep hRL hwB)] at h3
 exact h3
theorem semStep_pin {o:Oper}{s G T n:Nat}{K:ASt→Prop}(hs:A.get s=.leaf (.own T 0 n n))(hG:(A.obj G=none∧1000≤G)∨∃v l',A.obj G=some (.pin v l'))
  (hw:∀u,wantedA ops o.guard (A.put [.slot s (.leaf (.d (.raw u))),.obj G (.pin u (.own T 0 n n))])=some true)
  (h:∀u,∃rs ws,stepOp P ops o (A.put [.slot s (.leaf (.d (.raw u))),.obj G (.pin u (.own T 0 n n))])=some (rs,ws)∧K ((A.put [.slot s (.leaf (.d (.raw u))),.obj G (.pin u (.own T 0 n n))]).put ws)):SemStep P o A K:=by
 intro C a w Q hd ⟨S,M,ι,hR⟩
 have h1:=hR.tms s
 rw [hs] at h1
 have h2:RepL S ι A.obj w (.own T 0 n n) (a.tmps.getD s undef):=rep_leaf h1
 generalize hu:a.tmps.getD s undef=u at h1 h2
 have hone:u.oneCell'=true:=h2.1
 have hR1:RelC C S M ι (A.put [.slot s (.leaf (.d (.raw u)))]) a w:=by
  refine ⟨hR.sub,hR.new,hR.inn,hR.minn,hR.sz,fun q=>?_,hR.objs,hR.dis,hR.own,hR.env,hR.tok,hR.fixed,hR.marks,hR.rdok,hR.pinned,hR.pinN⟩
  by_cases hq:q=s
  ·subst hq
   have e:(A.put [.slot q (.leaf (.d (.raw u)))]).get q=.leaf (.d (.raw u)):=by simp [ASt.put,ASt.put1,ASt.get,look]
   rw [e,hu]
   exact ⟨_,rfl,RepD.raw u hone⟩
  ·have e:(A.put [.slot s (.leaf (.d (.raw u)))]).get q=A.get q:=by simp [ASt.put,ASt.put1,ASt.get,look,hq]
   rw [e];exact hR.tms q
 have hR2:=hR1.pin (G:=G) (u:=u) (l:=.own T 0 n n) hG h2
 obtain ⟨rs,ws,h3,h4⟩:=h u
 have h5:=step_next (ops:=ops) (Q:=Q) (K:=fun a' w'=>∃A',K A' ∧ Rel C A' a' w') ⟨_,_,_,hR2⟩ hd (stepOp_full h3) fun a' w' hR'=>⟨_,h4,hR'⟩
 rw [if_pos (wanted_rep hR2 (hw u))] at h5
 exact h5
def OpenLE (P:Program)(ops:Array Oper)(n p:Nat)(o:Oper)(Ψ:ASt→Prop)(fs:List Fp)(B:ASt):Prop:=
 (decide (fs.length=p)&&(down ops&&(List.range p).all fun i=>depOn ops n p i))=true∧ordered ops n ((List.range p).zip fs)=true∧wantedA ops o.guard B=some true∧∃K,SemStep P o B K∧∀B',K B' → Ψ B'
theorem OpenL.mono {Ψ:ASt→Prop}(hm:∀B,Φ B→Ψ B)(h:OpenL P ops Φ A):OpenL P ops Ψ A:=by
 obtain ⟨n,p,fs,B,h1,h2,h3,h4,h5,h6,h7⟩:=h
 exact ⟨n,p,fs,B,h1,h2,h3,h4,h5,h6,h7.mono hm⟩
def OpenSE (P:Program)(ops:Array Oper)(n p:Nat)(Ψ:ASt→Prop)(fs:List Fp)(B:ASt):Prop:=
 (decide (fs.length=p)&&(decide (p≤ops.size)&&(down ops&&(List.range ops.size).all fun q=>decide (q<p) || (List.range q).all fun i=>depOn ops n q i)))=true∧ordered ops n ((List.range p).zip fs)=true∧Run P ops Ψ (ops.toList.drop p) B
theorem openS_of {n p:Nat}(h:OpenK P ops (live ops (List.range p)) A [] (OpenSE P ops n p Φ))(hp:decide (p≤ops.size)=true):OpenL P ops Φ A:=by
 have hp:=of_decide_eq_true hp
 obtain ⟨fs,B,h1,h2,h3,h4⟩:=h fun q hq=>live_get _ q hq
 rw [live_snd (List.range p) (by rw [List.all_eq_true];intro i hi;have:=List.mem_range.1 hi;exact decide_eq_true (by omega))] at h1
 simp only [Bool.and_eq_true,decide_eq_true_eq,List.reverse_nil,List.nil_append] at h2 h3
 obtain ⟨h5,h6,h7,h8⟩:=h2
 have h6:=hp
 refine ⟨n,p,fs,B,h6,h1,of_decide_eq_true h5,h7,h3,fun q hq hq2 i hi=>?_,h4⟩
 have:=List.all_eq_true.1 h8 q (List.mem_range.2 hq2)
 rw [Bool.or_eq_true,decide_eq_true_eq] at this
 exact List.all_eq_true.1 (this.resolve_left (by omega)) i (List.mem_range.2 hi)
theorem Exec.opq {id:Nat}{y:Code}{Φ:Exit→ASt→Prop}(n p:Nat)(hp:decide (p≤ops.size)=true)(h:OpenK P ops (live ops (List.range p)) A [] (OpenSE P ops n p (fun B=>Exec P y Φ B))):Exec P (.seq (.region id ops true) y) Φ A:=
 .inl ⟨A,Ghost.refl A,.inr ((openS_of h hp).mono fun B' hk=>⟨B',Ghost.refl B',B',Ghost.refl B',hk⟩)⟩
end pins
end Go.Mw
namespace Go.Mw
section
variable {P:Program} {ops:Array Oper} {A A':ASt}
theorem OpenLE.pin {n p s G T m:Nat}{o:Oper}{Ψ:ASt→Prop}{fs:List Fp}{B:ASt}{rs:Value→List Loc}{ws:Value→List Wr}{F:Value→ASt}(hl:(decide (fs.length=p)&&(down ops&&(List.range p).all fun i=>depOn ops n p i))=true)(ho:ordered ops n ((List.range p).zip fs)=true)
  (hw:wantedA ops o.guard B=some true) (hs:B.get s=.leaf (.own T 0 m m)) (hG:(B.obj G=none∧1000≤G)∨∃v l',B.obj G=some (.pin v l'))
  (hw2:∀u,wantedA ops o.guard (B.put [.slot s (.leaf (.d (.raw u))),.obj G (.pin u (.own T 0 m m))])=some true)
  (h:∀u,stepOp P ops o (B.put [.slot s (.leaf (.d (.raw u))),.obj G (.pin u (.own T 0 m m))])=some (rs u,ws u))
  (hF:∀u,(B.put [.slot s (.leaf (.d (.raw u))),.obj G (.pin u (.own T 0 m m))]).put (ws u)=F u) (h':∀u,Ψ (F u)):OpenLE P ops n p o Ψ fs B:=
 ⟨hl,ho,hw,fun B'=>∃u,B'=F u,semStep_pin hs hG hw2 fun u=>⟨rs u,ws u,h u,u,hF u⟩,fun B' ⟨u,hu⟩=>hu▸h' u⟩
end
end Go.Mw
namespace Go.Mw
open Go.RowKit
section byt
variable {P:Program} {ops:Array Oper} {A A':ASt} {d:Nat}
end byt
end Go.Mw
namespace Go.Mw
open Go.RowKit
section
variable {P:Program} {f g:FuncId} {T1 T2 T3:TypeId}
end
end Go.Mw
namespace Go.Mw
open Go.RowKit
section callE
variable {P:Program} {ops:Array Oper} {Φ:ASt→Prop} {r:List Oper} {C:Ctx P} {S:Settled} {M:Blocks} {ι:Nat→Value} {A:ASt} {a:Act} {w:World} {o:Oper} {d:Nat}
end callE
end Go.Mw
namespace Go.Mw
open Go.RowKit
section
variable {P:Program} {ops:Array Oper} {Φ:ASt→Prop} {r:List Oper} {A A':ASt} {d:Nat}
end
end Go.Mw
namespace Go.Mw
open Go.RowKit
section
variable {P:Program} {ops:Array Oper} {A A':ASt} {d:Nat} {acc:List Fp} {K:List Fp→ASt→Prop} {l:List (Oper × Nat)}
def zeroOK (P:Program)(e:TypeId)(k n:Nat):Bool:=match P.info? e with
 |some i=>match i.zero with
  |some z=>i.size==k&&(z.cells.size==k&&i.bytes==n)
  |none=>false
 |none=>false
end
end Go.Mw
namespace Go.Mw
theorem Restr.keep (A:ASt)(ss os:List Nat):Restr A (A.keep ss os):=by
 refine ⟨fun S ι w s v h=>?_,fun S ι w o x' h=>?_,rfl⟩
 ·rw [keep_get]
  split
  ·exact keep_v A ss os h
  ·trivial
 ·obtain ⟨x,h1,_,h2⟩:=keep_ok A ss os S ι w o x' h
  exact ⟨x,h1,h2⟩
abbrev qB (l:List (List AV))(Q:List (Nat × AO)):Beh:=yB l fun _=>.ret (.tup []) Q
theorem qB_cnt (Q:List (Nat × AO)):∀l:List (List AV),(qB l Q).cnt=l.length
 |[]=>rfl
 |v::r=>by simp only [qB,yB,Beh.cnt,cond_true,List.length_cons];exact congrArg (· + 1) (qB_cnt Q r)
def RngQ (ss:List Nat)(Q:List (Nat × AO))(St:Nat→ASt)(X:Nat→Prop)(k:Nat)(Φ:Exit→ASt→Prop):Exit→ASt→Prop:=fun e A=>match e with
 |.normal=>Ghost (A.lim ss) (St (k+1))∧X (k+1)
 |.ret=>(∀p∈Q,look A.ob p.1=none)∧Φ .ret ⟨(A.lim ss).tm,Q++A.ob,A.bh⟩
 |.exit i=>(∀p∈Q,look A.ob p.1=none)∧Φ (.exit i) ⟨(A.lim ss).tm,Q++A.ob,A.bh⟩
 |_=>False
section rng
variable {P:Program} {Φ:Exit→ASt→Prop} {A A':ASt} {ss:List Nat} {Q:List (Nat × AO)} {St:Nat→ASt} {X:Nat→Prop} {k:Nat}
theorem RngQ.nrm (h:Ghost (A.lim ss) (St (k+1)))(h':X (k+1)):RngQ ss Q St X k Φ .normal A:=⟨h,h'⟩
theorem RngQ.ret (hq:(Q.all fun p=>(look A.ob p.1).isNone)=true)(hp:(⟨(A.lim ss).tm,Q++A.ob,A.bh⟩:ASt)=A')(h:Φ .ret A'):RngQ ss Q St X k Φ .ret A:=
 ⟨fun p h=>by simpa using List.all_eq_true.1 hq p h,hp▸h⟩
theorem RngQ.ext {i:Nat}(hq:(Q.all fun p=>(look A.ob p.1).isNone)=true)(hp:(⟨(A.lim ss).tm,Q++A.ob,A.bh⟩:ASt)=A')(h:Φ (.exit i) A'):RngQ ss Q St X k Φ (.exit i) A:=
 ⟨fun p h=>by simpa using List.all_eq_true.1 hq p h,hp▸h⟩
theorem Exec.rangeQ {g:Operand}{ps:Array Tmp}{assign body:Code}(gf:FuncId)(ds:List D)(T:Nat)(vals:List (List AV))(ss os:List Nat)(Q:List (Nat × AO))(upd:Nat→List Wr)(bf:Nat→Beh)(X:Nat→Prop){St:Nat→ASt}{tm0:List (Nat × AV)}{B:ASt}
  (hst:∀k,(⟨((A.put (upd k)).keep ss os).tm,((A.put (upd k)).keep ss os).ob,bf k⟩:ASt)=St k) (hg:A.keep ss (nms Q++os)=B) (hB:B=⟨B.tm,Q++(St 0).ob,bf 0⟩) (hg2:B.keep ss os=St 0)
  (htm:∀k,(St k).tm=tm0) (hss:tm0.map Prod.fst=ss) (hev:(St 0).ev g=.leaf (.d (.fn gf ds))) (hcan:canCall P gf=true) (hq:(Q.all fun p=>!os.contains p.1 && !(p.1==T))=true)
  (hqi:∀p∈Q,p.2≠.yl∧p.2.inn (nms Q)=true)
  (hcon:Con P gf (.leaf (.obj T)::ds.map fun x=>.leaf (.d x)) ((T,.yl)::Q) (qB vals Q)) (hld:loopDst ss ps assign body=true) (h0:X 0)
  (hr:∀k v,vals[k]? = some v→X k→v.length=ps.size∧Exec P assign (fun e A1=>e=.normal∧Exec P body (RngQ ss Q St X k Φ) A1) ⟨ps.toList.zip v++tm0,(St k).ob,bf k⟩)
  (hend:X vals.length→Φ .normal ⟨tm0,Q++(St vals.length).ob,bf vals.length⟩):Exec P (.rangeFunc g ps assign body) Φ A:=by
 have hbf:∀k,(St k).bh=bf k:=fun k=>by rw [←hst k]
 have hS:∀k,(⟨tm0,(St k).ob,bf k⟩:ASt)=St k:=fun k=>by rw [←htm k,←hbf k]
 have hob:∀k q x,look Q q=some x→look (St k).ob q=none:=fun k q x hx=>by
  have h1:=List.all_eq_true.1 hq (q,x) (look_in hx)
  simp only [Bool.and_eq_true,Bool.not_eq_true',List.contains_eq_mem,decide_eq_false_iff_not] at h1
  rw [←hst k]
  show ((A.put (upd k)).keep ss os).obj q=none
  rw [keep_obj,if_neg h1.1]
 have hQT:look Q T=none:=by
  cases h:look Q T with
  |none=>rfl
  |some x=>
   have h1:=List.all_eq_true.1 hq (T,x) (look_in h)
   simp at h1
 have hbk:∀ob:List (Nat × AO),(∀p∈Q,look ob p.1=none)→backOK Q Q ob:=fun ob h q x' hx=>⟨h (q,x') (look_in hx),(hqi _ (look_in hx)).1,x',hx,back_refl x'⟩
 have hk:∀k,k≤vals.length→vals.length-(qB (vals.drop k) Q).cnt=k:=fun k hk=>by rw [qB_cnt,List.length_drop];omega
 have e0:vals.length-(qB vals Q).cnt=0:=by have:=hk 0 (Nat.zero_le _);simpa using this
 refine ⟨gf,ds,ds.map (fun x=>.leaf (.d x)),T,qB vals Q,B.tm,tm0,fun b=>(St (vals.length-b.cnt)).ob,fun b=>bf (vals.length-b.cnt),fun b=>∃k,k≤vals.length∧b=qB (vals.drop k) Q∧X k,Q,?_,hcan,?_,hcon,?_,?_,?_,⟨0,Nat.zero_le _,by simp,h0⟩,by rw [hss];exact hld,?_,?_⟩
 ·show (ASt.mk tm0 (St (vals.length-(qB vals Q).cnt)).ob (bf (vals.length-(qB vals Q).cnt))).ev g=_
  rw [e0,hS];exact hev
 ·have:∀l:List D,All2 WkP (l.map fun x=>AV.leaf (.d x)) (l.map fun x=>AV.leaf (.d x)):=fun l=>by
   induction l with
   |nil=>trivial
   |cons x l ih=>exact ⟨WkP.refl rfl,ih⟩
  exact this ds
 ·show Ghost A ⟨B.tm,Q++(St (vals.length-(qB vals Q).cnt)).ob,bf (vals.length-(qB vals Q).cnt)⟩
  rw [e0,←hB,←hg]
  exact Ghost.keep A ss (nms Q++os)
 ·show Restr ⟨B.tm,Q++(St (vals.length-(qB vals Q).cnt)).ob,bf (vals.length-(qB vals Q).cnt)⟩ ⟨tm0,(St (vals.length-(qB vals Q).cnt)).ob,bf (vals.length-(qB vals Q).cnt)⟩
  rw [e0,←hB,hS,←hg2]
  exact Restr.keep B ss os
 ·exact ⟨hQT,fun q x hx=>⟨(hqi _ (look_in hx)).1,(hqi _ (look_in hx)).2,hob _ q x hx⟩⟩
 ·rintro v κ ⟨k,hkl,hb,hX⟩
  cases hd:vals.drop k with
  |nil=>rw [hd] at hb;cases hb
  |cons v' r=>
   have hlt:k<vals.length:=by
    have:(vals.drop k).length=r.length+1:=by rw [hd];rfl
    rw [List.length_drop] at this;omega
   have hv:vals[k]? = some v':=by
    have:(vals.drop k)[0]? = some v':=by rw [hd];rfl
    rwa [List.getElem?_drop,Nat.add_zero] at this
   have hr':vals.drop (k+1)=r:=by rw [←List.drop_drop,hd];rfl
   rw [hd,qB,yB_cons] at hb
   injection hb with hb1 hb2
   subst hb1 hb2
   obtain ⟨h1,h2⟩:=hr k v hv hX
   refine ⟨h1,?_⟩
   have e1:vals.length-(Beh.yld v fun b=>bif b then qB r Q else .ret (.tup []) Q).cnt=k:=by
    have:=hk k hkl
    rw [hd,qB,yB_cons] at this
    exact this
   have e3:(St k).ob=(St (vals.length-(Beh.yld v fun b=>bif b then qB r Q else .ret (.tup []) Q).cnt)).ob:=by rw [e1]
   have e4:bf k=bf (vals.length-(Beh.yld v fun b=>bif b then qB r Q else .ret (.tup []) Q).cnt):=by rw [e1]
   rw [e3,e4] at h2
   refine Exec.mono assign (fun e A1 h=>⟨h.1,Exec.mono body (fun e A2 h=>?_) h.2⟩) h2
   cases e with
   |normal=>
    obtain ⟨hg',hX'⟩:=h
    refine ⟨?_,k+1,hlt,by rw [hr'];rfl,hX'⟩
    have e2:vals.length-(qB r Q).cnt=k+1:=by rw [←hr'];exact hk (k+1) hlt
    show Ghost (A2.lim (tm0.map Prod.fst)) ⟨tm0,(St (vals.length-(qB r Q).cnt)).ob,bf (vals.length-(qB r Q).cnt)⟩
    rw [e2,hS,hss]
    exact hg'
   |ret=>exact ⟨_,_,rfl,hbk _ h.1,by rw [hss];exact h.2⟩
   |exit i=>exact ⟨_,_,rfl,hbk _ h.1,by rw [hss];exact h.2⟩
   |_=>exact h.elim
 ·rintro res obs ⟨k,hkl,hb,hX⟩
  cases hd:vals.drop k with
  |cons v' r=>rw [hd] at hb;cases hb
  |nil=>
   have hkk:k=vals.length:=by
    have:(vals.drop k).length=0:=by rw [hd];rfl
    rw [List.length_drop] at this;omega
   subst hkk
   have:vals.length-(Beh.ret res obs).cnt=vals.length:=by simp [Beh.cnt]
   have hb':Beh.ret res obs=.ret (.tup []) Q:=by rw [hb,hd];rfl
   injection hb' with e1 e2
   subst e2
   refine ⟨hbk _ fun p hp=>?_,?_⟩
   ·show look (St (vals.length-(Beh.ret res obs).cnt)).ob p.1=none
    have h1:=List.all_eq_true.1 hq p hp
    simp only [Bool.and_eq_true,Bool.not_eq_true',List.contains_eq_mem,decide_eq_false_iff_not] at h1
    rw [←hst]
    show ((A.put (upd _)).keep ss os).obj p.1=none
    rw [keep_obj,if_neg h1.1]
   ·show Φ .normal ⟨tm0,obs++(St (vals.length-(Beh.ret res obs).cnt)).ob,bf (vals.length-(Beh.ret res obs).cnt)⟩
    rw [this]
    exact hend hX
end rng
end Go.Mw
namespace Go.Mw
open Go.RowKit
section
variable {P:Program} {ops:Array Oper} {A A':ASt} {acc:List Fp} {K:List Fp→ASt→Prop} {r:List (Oper × Nat)} {Φ:ASt→Prop}
theorem OpenK.calm {i d c:Nat}{f:Operand}{g:FuncId}{caps:List AL}{as:List Operand}{tys:Array TypeId}{ty:TypeId}{pos:String}{af:Array Edge}{gd:Option (Nat × Bool)}{args:List AV}{res:AV}{vs:List AV}{rs wl:List Loc}
  (hwt:wantedA ops gd A=some true) (hc:Contract P g args res []) (hcan:canCall P g=true) (hf:A.ev f=.leaf (.obj c)) (hm:A.obj c=some (.mth g caps)) (hv:as.map A.ev=vs) (hwk:All2 (WkR (rn [] (1000*(d+1))) []) (caps.map .leaf++vs) args)
  (hp:A.put [.slot d (res.ren (rn [] (1000*(d+1))))]=A')
  (hr:guardLoc ops ⟨some d,.call { callee:=.value f,args:=as.toArray,argTypes:=tys },ty,pos,af,gd⟩++(opLocs (f::as)++[.obj c])=rs)
  (hw:wLocs [.slot d (res.ren (rn [] (1000*(d+1))))]=wl)
  (h':OpenK P ops r A' (⟨rs,wl⟩::acc) K):OpenK P ops ((⟨some d,.call { callee:=.value f,args:=as.toArray,argTypes:=tys },ty,pos,af,gd⟩,i)::r) A acc K:=
 .cons (fun ho _ _ hrun=>⟨_,_,ho,by
  have:=StpF.sem (P:=P) (ops:=ops) (o:=⟨some d,.call { callee:=.value f,args:=as.toArray,argTypes:=tys },ty,pos,af,gd⟩) (A:=A) (opLocs (f::as)++[.obj c]) [.slot d (res.ren (rn [] (1000*(d+1))))] hwt (fun B hB C a w Q hd hR=>by
   have ef:B.ev f=A.ev f:=ev_agree fun l hl=>hB l V207
   have eas:as.map B.ev=as.map A.ev:=evs_agree fun l hl=>hB l V207
   have eo:B.obj c=A.obj c:=hB (.obj c) (by simp)
   obtain ⟨S,M,ι,hR⟩:=hR
   have hfr:=rep_ev hR f
   rw [ef,hf] at hfr
   obtain ⟨_,hfv,_⟩:=rep_leaf hfr
   obtain ⟨us,hι,hus⟩:=hR.objs c _ (eo.trans hm)
   have hargs:=rep_evs hR as
   rw [eas,hv] at hargs
   have hall:All2 (RepV S ι B.obj w) (caps.map .leaf++vs) (us++as.map a.eval):=All2.append (all2_map (R:=RepL S ι B.obj w) (R':=RepV S ι B.obj w) AV.leaf (fun _ _ h=>leaf_rep h) hus) hargs
   refine Oper.wpIn_mono (fun a' w' h=>?_) (snd_callX (o:=⟨some d,.call { callee:=.value f,args:=as.toArray,argTypes:=tys },ty,pos,af,gd⟩) (lend:=[]) (pre:=[]) (b:=.ret res []) (κ:=fun _ _=>B.bh) hR hd rfl (us:=us++as.map a.eval) ?_ hall hwk hc callOK_none rfl Q)
   ·obtain ⟨res',obs',hl,hR'⟩:=h
    obtain ⟨e1,e2⟩:=hl.inv
    subst e1 e2
    exact hR'
   ·simp [execOp,resolve,hfv,hι,Deferred.ofValue,invoke,run_callFunc hcan])
  rw [hr] at this
  exact this,hw.symm,hp▸hrun⟩) h'
theorem Run.unpin {l:List Oper}(G d:Nat){v:Value}{x:AL}(hG:A.obj G=some (.pin v x))(hs:A.get d=.leaf (.d (.raw v)))(hp:A.put [.slot d (.leaf x)]=A')(h':Run P ops Φ l A'):Run P ops Φ l A:=.ghost (Ghost.unpinS hG hs) (hp▸h')
end
end Go.Mw
namespace Go.Mw
open Go.RowKit
section
variable {P:Program} {ops:Array Oper} {A A':ASt} {d:Nat} {acc:List Fp} {K:List Fp→ASt→Prop} {l:List (Oper × Nat)}
theorem nsl_sl {S:Settled}{w:World}{k:Nat}{es:List (List D)}{v:Value}(h:RepD S w (.nsl k es) v):RepD S w (.sl k es) v∧∃p,v=.slice p es.length es.length:=by
 cases h with
 |nnil k a=>exact ⟨.nil k a 0,a,rfl⟩
 |nsl k es b off vals hk hS hw hr=>exact ⟨.sl k es b off _ vals (Nat.le_refl _) hk hS hw hr,_,rfl⟩
theorem sl_nsl {S:Settled}{w:World}{k:Nat}{es:List (List D)}{v:Value}(h:RepD S w (.sl k es) v):∃p c,v=.slice p es.length c∧es.length≤c∧RepD S w (.nsl k es) (.slice p es.length es.length):=by
 cases h with
 |nil k a c=>exact ⟨a,c,rfl,Nat.zero_le _,.nnil k a⟩
 |sl k es b off c vals hc hk hS hw hr=>exact ⟨_,c,rfl,hc,.nsl k es b off vals hk hS hw hr⟩
theorem semV_sl3 {t e:TypeId}{k kk:Nat}{x h m:Operand}{es:List (List D)}{ty:TypeId}{pos:String}{af:Array Edge}{g:Option (Nat × Bool)}(ht:tyEl P t=some e)(hk:tySize P e=some kk)(hx:A.ev x=.leaf (.d (.sl k es)))(hh:A.ev h=.int es.length)(hm:A.ev m=.int es.length) :
  SemV P ⟨some d,.slice t x none (some h) (some m),ty,pos,af,g⟩ A (.leaf (.d (.nsl k es))):=by
 intro C S M ι a w hR
 have h1:=rep_ev hR x
 rw [hx] at h1
 obtain ⟨p,c,hv,hc,hn⟩:=sl_nsl (rep_leaf h1:RepD S w (.sl k es) (a.eval x))
 have h2:=rep_ev hR h
 rw [hh] at h2
 have h2:=raw_eq (rep_leaf h2)
 have h3:=rep_ev hR m
 rw [hm] at h3
 have h3:=raw_eq (rep_leaf h3)
 have hb:=run_bounds3 (P:=P) (w:=w) (len:=es.length) (cap:=c) (km:=.i64) (l:=0) (h:=(es.length:Int)) (m:=(es.length:Int)) (lo:=none) (hi:=some (.int .i64 es.length)) (.inl ⟨rfl,rfl⟩) ⟨_,rfl⟩ (by omega) (by omega) (by omega) (by omega)
 refine ⟨.slice (if es.length=0 then p else p.map (·.add (0*kk))) (es.length-0) (es.length-0),?_,?_⟩
 ·simp only [execOp,Option.map_some,Option.map_none,h2,h3,Instr.sliceAt,Sem.run_bind,run_underlying (und_el ht),Result.andThen_ok,Instr.slice,hv,hb,run_size w hk,Sem.run_pure,Int.toNat_natCast,Int.toNat_zero]
 ·have hp:(if es.length=0 then p else p.map (·.add (0*kk)))=p:=by
   split
   ·rfl
   ·cases p<;>simp [Addr.add]
  rw [hp,Nat.sub_zero]
  exact leaf_rep hn
theorem opLocs3 (x h m:Operand):opLocs [x,h,m]=opLocs [x]++(opLocs [h]++opLocs [m]):=by cases x<;>cases h<;>rfl
theorem OpenK.sl3 {i:Nat}{t e:TypeId}{k kk:Nat}{x h m:Operand}{es:List (List D)}{ty:TypeId}{pos:String}{af:Array Edge}{g:Option (Nat × Bool)}{rs:List Loc}(ht:tyEl P t=some e)(hk:tySize P e=some kk)(hx:A.ev x=.leaf (.d (.sl k es)))(hh:A.ev h=.int es.length)(hm:A.ev m=.int es.length)
  (hw:wantedA ops g A=some true) (hr:guardLoc ops ⟨some d,.slice t x none (some h) (some m),ty,pos,af,g⟩++opLocs [x,h,m]=rs) (hp:A.put [.slot d (.leaf (.d (.nsl k es)))]=A')
  (h':OpenK P ops l A' (⟨rs,[.slot d]⟩::acc) K):OpenK P ops ((⟨some d,.slice t x none (some h) (some m),ty,pos,af,g⟩,i)::l) A acc K:=
 OpenK.val (opLocs [x,h,m]) (fun B hB=>semV_sl3 ht hk ((ev_agree fun l hl=>hB l V207).trans hx) ((ev_agree fun l hl=>hB l (by rw [opLocs3];simp [hl])).trans hh)
  ((ev_agree fun l hl=>hB l (by rw [opLocs3];simp [hl])).trans hm)) hw hr hp h'
theorem snd_apn {C:Ctx P}{a:Act}{w:World}{s x:Operand}{t e ty:TypeId}{pos:String}{af:Array Edge}{k:Nat}{es0 es:List (List D)}{i:TypeInfo}{z:Value}(hs:A.ev s=.leaf (.d (.nsl k es0)))(hx:A.ev x=.leaf (.d (.sl k es)))(hn:A.obj d=none)
  (ht:P.underlying t=some (.slice e)) (hi:P.info? e=some i) (hz:i.zero=some z∧i.size=k∧z.cells.size=k) (hk0:0<k) (hlen:es0.length+es.length≤1048576∧(es0.length+es.length)*i.bytes≤140737488355328) (hne:0<es.length) (hd:C.can d) (hR:Rel C A a w) (Q:Exit→Act→World→Prop) :
  (⟨some d,.call { callee:=.builtin .append,args:=#[s,x],argTypes:=#[t,t] },ty,pos,af,none⟩:Oper).wpIn (fen C) 0 P a w (fun a' w'=>Rel C (A.put [.slot d (.leaf (.d (.sl k (es0++es))))]) a' w') Q:=by
 obtain ⟨S,M,ι,hRR⟩:=id hR
 have h1:=rep_ev hRR s
 rw [hs] at h1
 obtain ⟨h1s,p0,hv0⟩:=nsl_sl (rep_leaf h1:RepD S w (.nsl k es0) (a.eval s))
 have h2:=rep_ev hRR x
 rw [hx] at h2
 have lenk:∀ {es:List (List D)} {v:Value},RepD S w (.sl k es) v→∀y∈es,y.length=k:=fun {es v} hv=>by
  cases hv with
  |nil k p c=>exact fun y hy=>by cases hy
  |sl k es b off c vals hc hk=>exact fun y hy=>by obtain ⟨j,hj⟩:=List.getElem?_of_mem hy;exact hk j y hj
 have hk1:=lenk h1s
 have hk2:=lenk (rep_leaf h2:RepD S w (.sl k es) (a.eval x))
 have read:∀ {es:List (List D)} {v:Value},RepD S w (.sl k es) v→(∀y∈es,y.length=k)→∃p c news,v=.slice p es.length c∧news.length=es.length*k∧All2 (RepD S w) es.flatten news∧(0<es.length→∃ad,p=some ad∧∀j u,news[j]? = some u→w.cell? (ad.add j)=some u):=fun {es v} hv hkk=>by
  obtain ⟨es',acc',e1,e2⟩:=see_rep hRR (k:=k) (f:=fun y=>.done [.slot 0 (.leaf (.d (.sl k y)))]) (leaf_rep (show RepL S ι A.obj w (.d (.sl k es)) v from hv)) (acc:=[]) (r:=([],[.slot 0 (.leaf (.d (.sl k es)))])) (by simp [seeSl,Ev.run])
  have he:es'=es:=by
   simp only [Ev.run,Option.some.injEq,Prod.mk.injEq,List.cons.injEq,Wr.slot.injEq,AV.leaf,AV.val.injEq,AL.d.injEq,D.sl.injEq,true_and,and_true] at e1
   exact e1.2
  subst he
  exact e2 hkk hk0
 obtain ⟨p1,c1,olds,hv1,hol,hall1,had1⟩:=read h1s hk1
 obtain ⟨p2,c2,news,hv2,hnl,hall2,had2⟩:=read (rep_leaf h2:RepD S w (.sl k es) (a.eval x)) hk2
 have hc1:c1=es0.length∧p1=p0:=by rw [hv0] at hv1;injection hv1 with q1 q2 q3;exact ⟨q3.symm,q1.symm⟩
 obtain ⟨rfl,rfl⟩:=hc1
 obtain ⟨ad,rfl,hnews⟩:=had2 hne
 have hfit:=growslice_fits (need:=es0.length+es.length) (old:=es0.length) (bytes:=i.bytes) (by omega) hlen.2
 have hrun:(Builtin.append_ #[t,t] ty #[.slice p1 es0.length es0.length,.slice (some ad) es.length c2]).run P w =
   .ok (.slice (some ⟨w.heap.size,0,none⟩) (es0.length+es.length) (grownCap w (es0.length+es.length) es0.length e))
    (w.drew.alloc (.cells ((olds++news).toArray++Builtin.zeroCells z.cells (grownCap w (es0.length+es.length) es0.length e-(es0.length+es.length))) e)):=by
  cases p1 with
  |none=>
   have h0:es0=[]:=by
    cases es0 with
    |nil=>rfl
    |cons y r=>obtain ⟨_,h,_⟩:=had1 (by simp);cases h
   subst h0
   have ho:olds=[]:=List.eq_nil_of_length_eq_zero (by simpa using hol)
   subst ho
   have:=run_append_nil (P:=P) w t ty e i z ht hi hz.1 ad es.length c2 news (by rw [hz.2.1];exact hnl) hnews hne (by omega) (by have:=hlen.2;simp only [List.length_nil,Nat.zero_add] at this;omega)
   simpa using this
  |some b=>
   have:=run_append_grow (P:=P) w t ty e i z ht hi hz.1 b es0.length es0.length olds (by rw [hz.2.1];exact hol) (fun j u hj=>by
    have hj2:j<olds.length:=(List.getElem?_eq_some_iff.1 hj).1
    have hpos:0<es0.length:=by
     rcases Nat.eq_zero_or_pos es0.length with h|h
     ·rw [h,Nat.zero_mul] at hol;omega
     ·exact h
    obtain ⟨_,h,hc⟩:=had1 hpos
    cases h
    exact hc j u hj) ad es.length c2 news (by rw [hz.2.1];exact hnl) hnews (by omega) (by omega) hfit
   simpa [List.append_toArray] using this
 have hge:=grownCap_ge w (es0.length+es.length) es0.length e
 have hcm:=grownCap_le_maxLen w (es0.length+es.length) es0.length e (by simp only [maxLen];omega)
 have hex:(execOp a.eval ⟨some d,.call { callee:=.builtin .append,args:=#[s,x],argTypes:=#[t,t] },ty,pos,af,none⟩).run P w=.ok (.value _) _:=execOp_append rfl (by rw [hv0,hv2];exact hrun)
 have hll:(es0++es).length=es0.length+es.length:=List.length_append
 have hlo:(olds++news).length=(es0++es).length*k:=by rw [List.length_append,hol,hnl,hll,Nat.add_mul]
 have hkk:∀y∈es0++es,y.length=k:=fun y hy=>(List.mem_append.1 hy).elim (hk1 y) (hk2 y)
 refine Oper.wpIn_mono (fun a' w' h2=>settle_at rfl hn hR h2) (wp_snd (snd_arr hRR rfl hd hn (e:=e) (k:=k) (es:=es0++es) (xs:=olds++news) hex ⟨rfl,rfl,rfl,by simp,fun j hj _=>Below.heap_alloc w.drew _ j hj⟩ ?_ (fun j hj=>by simp [blk] at hj;omega) (by rw [List.flatten_append];exact hall1.append hall2) hkk hk0) Q)
 refine ⟨hlo,.inr ⟨w.heap.size,_,_,by rw [hll],Nat.zero_le _,heap_alloc_new w.drew _,by rw [hll];omega,hcm,?_,?_⟩⟩
 ·simp only [Array.size_append,List.size_toArray,size_zeroCells,hz.2.2,hlo,hll]
  rw [←Nat.add_mul]
  congr 1
  omega
 ·simp only [Array.toList_append]
  rw [←hlo]
  exact List.take_left
theorem OpenK.apn {j:Nat}{s x:Operand}{t ty:TypeId}{pos:String}{af:Array Edge}(e:TypeId){k n:Nat}{es0 es:List (List D)}{rs:List Loc}(hs:A.ev s=.leaf (.d (.nsl k es0)))(hx:A.ev x=.leaf (.d (.sl k es)))(hn:A.obj d=none)
  (ht:tyEl P t=some e) (hz:zeroOK P e k n=true) (hk0:0<k) (hlen:es0.length+es.length≤1048576∧n≤1000) (hne:0<es.length)
  (hr:opLocs [s,x]++[.obj d]=rs) (hp:A.put [.slot d (.leaf (.d (.sl k (es0++es))))]=A') (h':OpenK P ops l A' (⟨rs,[.slot d]⟩::acc) K) :
  OpenK P ops ((⟨some d,.call { callee:=.builtin .append,args:=#[s,x],argTypes:=#[t,t] },ty,pos,af,none⟩,j)::l) A acc K:=by
 unfold zeroOK at hz
 split at hz
 ·next i hi=>
  split at hz
  ·next z hz1=>
   simp only [Bool.and_eq_true,beq_iff_eq] at hz
   have hb:(es0.length+es.length)*i.bytes≤140737488355328:=by
    rw [hz.2.2]
    exact Nat.le_trans (Nat.mul_le_mul hlen.1 hlen.2) (by decide)
   refine .cons (fun ho _ _ hrun=>⟨_,_,ho,by
    have:=StpF.sem (P:=P) (ops:=ops) (o:=⟨some d,.call { callee:=.builtin .append,args:=#[s,x],argTypes:=#[t,t] },ty,pos,af,none⟩) (A:=A) (opLocs [s,x]++[.obj d]) [.slot d (.leaf (.d (.sl k (es0++es))))] rfl fun B hB C a w Q hd hR=>
     snd_apn ((ev_agree fun l hl=>hB l V207).trans hs) ((ev_agree fun l hl=>hB l (by rw [opLocs_cons,opLocs_cons];simp [hl])).trans hx) ((hB (.obj d) (by simp)).trans hn) (und_el ht) hi ⟨hz1,hz.1,hz.2.1⟩ hk0 ⟨hlen.1,hb⟩ hne (hd d rfl) hR Q
    rw [show guardLoc ops ⟨some d,.call { callee:=.builtin .append,args:=#[s,x],argTypes:=#[t,t] },ty,pos,af,none⟩++(opLocs [s,x]++[.obj d])=rs from hr] at this
    exact this,rfl,hp▸hrun⟩) h'
  ·cases hz
 ·cases hz
end
end Go.Mw
namespace Go.Mw
open Go.RowKit
theorem look_ren {r:Nat→Nat}(hr:∀q,r (r q)=q):∀(l:List (Nat × AO)) (q:Nat),look (l.map fun p=>(r p.1,p.2.ren r)) (r q)=(look l q).map (·.ren r)
 |[],_=>rfl
 |(k,v)::l,q=>by
  simp only [List.map_cons,look]
  by_cases h:q=k
  ·subst h;simp
  ·have:¬r q=r k:=fun e=>h (by have:=congrArg r e;rwa [hr,hr] at this)
   rw [if_neg this,if_neg h]
   exact look_ren hr l q
def Beh.rn (r:Nat→Nat):Beh→Beh
 |.ret res obs=>.ret res (obs.map fun p=>(r p.1,p.2.ren r))
 |.yld a k=>.yld a fun t=>(k t).rn r
theorem qB_rn (r:Nat→Nat)(Q:List (Nat × AO)):∀rows:List (List AV),(qB rows Q).rn r=qB rows (Q.map fun p=>(r p.1,p.2.ren r))
 |[]=>rfl
 |v::rows=>by
  simp only [qB,yB_cons,Beh.rn]
  congr 1
  funext b
  cases b with
  |true=>exact qB_rn r Q rows
  |false=>rfl
theorem qB_leaf {Q:List (Nat × AO)}{res:AV}{obs:List (Nat × AO)}:∀ {rows:List (List AV)},Beh.Leaf (qB rows Q) res obs→res=.tup []∧obs=Q
 |[],h=>Beh.Leaf.inv h
 |v::rows,h=>by
  rw [qB,yB_cons] at h
  cases h with
  |yld t h=>
   cases t with
   |true=>exact qB_leaf (rows:=rows) h
   |false=>exact Beh.Leaf.inv h
theorem qB_leaf' (Q:List (Nat × AO)):∀rows:List (List AV),Beh.Leaf (qB rows Q) (.tup []) Q
 |[]=>.ret _ _
 |v::rows=>by
  rw [qB,yB_cons]
  exact .yld true (qB_leaf' Q rows)
theorem same1_ren {y:AO}{r:Nat→Nat}{v u:Value}(h:Same1 y y v u):Same1 (y.ren r) (y.ren r) v u:=by cases y<;>exact h
theorem ren_yl {x:AO}{r:Nat→Nat}(h:x.ren r=.yl):x=.yl:=by cases x<;>first|rfl|cases h
theorem Con.qren {P:Program}{g:FuncId}{args:List AV}{rows:List (List AV)}(r:Nat→Nat)(hr:∀q,r (r q)=q)(T:Nat)(hT:r T=T)(Q:List (Nat × AO))(hnc:∀p∈Q,p.2≠.yl∧∀ls,p.2≠.cells ls)(hin:∀p∈Q,p.2.inn (T::nms Q)=true)
  (hav:∀x∈args,x.ren r=x∧x.inn (T::nms Q)=true) (hcon:Con P g args ((T,.yl)::Q) (qB rows Q)):Con P g args ((T,.yl)::Q.map fun p=>(r p.1,p.2.ren r)) (qB rows (Q.map fun p=>(r p.1,p.2.ren r))):=by
 intro E S M ι w vs hS hM hobj hdis hown htok hargs hJ
 have hpre:((T,AO.yl)::Q).map (fun p=>(r p.1,p.2.ren r))=(T,.yl)::Q.map fun p=>(r p.1,p.2.ren r):=by rw [List.map_cons,hT];rfl
 have hl0:∀q,look ((T,.yl)::Q.map fun p=>(r p.1,p.2.ren r)) (r q)=(look ((T,AO.yl)::Q) q).map (·.ren r):=fun q=>by rw [←hpre];exact look_ren hr _ q
 have hlQ:=look_ren hr Q
 have hlk:∀ {q x},look ((T,AO.yl)::Q) q=some x→look ((T,.yl)::Q.map fun p=>(r p.1,p.2.ren r)) (r q)=some (x.ren r):=fun h=>by rw [hl0,h];rfl
 have hinnx:∀ {q x},look ((T,AO.yl)::Q) q=some x→x.inn (T::nms Q)=true:=fun {q x} h=>by
  rcases List.mem_cons.1 (look_in h) with e|h
  ·cases e;rfl
  ·exact hin _ h
 have hncx:∀ {q ls},look ((T,AO.yl)::Q) q=some (.cells ls)→False:=fun {q ls} h=>by
  rcases List.mem_cons.1 (look_in h) with e|h
  ·cases e
  ·exact (hnc _ h).2 ls rfl
 have hH:∀q∈nms ((T,AO.yl)::Q),∃x y,look ((T,AO.yl)::Q) q=some x∧look ((T,.yl)::Q.map fun p=>(r p.1,p.2.ren r)) (r q)=some y∧OLe y (x.ren r):=fun q hq=>by
  obtain ⟨p,hp,rfl⟩:=List.mem_map.1 hq
  obtain ⟨x,hx⟩:=look_mem hp
  exact ⟨x,_,hx,hlk hx,OLe.refl _⟩
 let E':Env P:={ l:=E.l,J:=fun b S M w=>E.J (b.rn r) S M w,glob:=E.glob,step:=E.step,yld:=fun hJ hv=>E.yld hJ hv }
 have H:=hcon E' S M (fun q=>ι (r q)) w vs hS hM (fun o x h=>objOK_un hH (fun ls e=>by subst e;exact (hncx h).elim) (OLe.refl _) (hinnx h) (hobj _ _ (hlk h)))
  (fun o o' x x' b h h' hne hb=>hdis _ _ _ _ b (hlk h) (hlk h') (fun e=>hne (by have:=congrArg r e;rwa [hr,hr] at this)) hb)
  (fun o x b h hb=>hown _ _ b (hlk h) hb) (fun o h=>by
   rcases List.mem_cons.1 (look_in h) with e|h
   ·cases e;show ι (r T)=_;rw [hT];exact htok T (by simp [look])
   ·exact absurd rfl (hnc _ h).1) ?_ (by show E.J ((qB rows Q).rn r) S M w;rw [qB_rn];exact hJ)
 ·refine H.mono fun e w' he=>?_
  obtain ⟨v,res,obs,S',M',ι',rfl,hl,hJ',hp⟩:=he
  obtain ⟨rfl,rfl⟩:=qB_leaf hl
  have hι:∀q x,look obs q=some x→(fun q=>ι' (r q)) (r q)=ι' q:=fun q x _=>by show ι' (r (r q))=_;rw [hr]
  have hHr:∀q x,look obs q=some x→look (obs.map fun p=>(r p.1,p.2.ren r)) (r q)=some (x.ren r):=fun q x h=>by rw [hlQ,h];rfl
  have inv:∀ {o x},look (obs.map fun p=>(r p.1,p.2.ren r)) o=some x→∃y,look obs (r o)=some y∧x=y.ren r:=fun {o x} h=>by
   have:=hlQ (r o)
   rw [hr,h] at this
   cases hy:look obs (r o) with
   |none=>rw [hy] at this;cases this
   |some y=>rw [hy] at this;exact ⟨y,rfl,by simpa using this⟩
  have hcl:∀ {q ls},look obs q=some (.cells ls)→False:=fun {q ls} h=>(hnc _ (look_in h)).2 ls rfl
  refine ⟨v,.tup [],_,S',M',fun q=>ι' (r q),rfl,qB_leaf' _ rows,hJ',{
   sub:=hp.sub,new:=hp.new,inn:=hp.inn,minn:=hp.minn
   res:=repV_ren (ι':=fun q=>ι' (r q)) (r:=r) hι hHr (x:=.tup []) hp.res
   objs:=fun o x h=>by
    obtain ⟨y,hy,rfl⟩:=inv h
    have:=objOK_ren (ι':=fun q=>ι' (r q)) (r:=r) hι hHr (fun ls e=>by subst e;exact (hcl hy).elim) hy (hp.objs _ _ hy)
    rwa [hr] at this
   dis:=fun o o' x x' b h h' hne hb=>by
    obtain ⟨y,hy,rfl⟩:=inv h
    obtain ⟨y',hy',rfl⟩:=inv h'
    exact hp.dis _ _ y y' b hy hy' (fun e=>hne (by have:=congrArg r e;rwa [hr,hr] at this)) hb
   own:=fun o x b h hb=>by
    obtain ⟨y,hy,rfl⟩:=inv h
    exact hp.own _ y b hy hb
   tok:=fun o h=>by
    obtain ⟨y,hy,hyl⟩:=inv h
    exact absurd (ren_yl hyl.symm) (hnc _ (look_in hy)).1
   same:=fun o x x' h h'=>by
    obtain ⟨y',hy',rfl⟩:=inv h'
    have h0:∃y,look ((T,AO.yl)::obs) (r o)=some y∧x=y.ren r:=by
     have:=hl0 (r o)
     rw [hr,h] at this
     cases hy:look ((T,AO.yl)::obs) (r o) with
     |none=>rw [hy] at this;cases this
     |some y=>rw [hy] at this;exact ⟨y,rfl,by simpa using this⟩
    obtain ⟨y,hy,rfl⟩:=h0
    have h1:=hp.same (r o) y y' hy hy'
    have hoT:r o≠T∨r o=T:=Classical.em _ |>.symm
    by_cases e:r o=T
    ·have:y=.yl:=by rw [e] at hy;simpa [look] using hy.symm
     subst this
     show Same1 (AO.yl) (y'.ren r) (ι' (r o)) (ι o)
     have h1:Same1 .yl y' (ι' (r o)) (ι (r (r o))):=h1
     rw [hr] at h1
     cases y' <;> first|exact h1|trivial
    ·have hyy:y=y':=by
      have:look ((T,AO.yl)::obs) (r o)=look obs (r o):=by simp [look,e]
      rw [this,hy'] at hy;simpa using hy.symm
     subst hyy
     have h1:Same1 y y (ι' (r o)) (ι (r (r o))):=h1
     rw [hr] at h1
     exact same1_ren h1 }⟩
 ·have key:∀ {as:List AV} {us:List Value},(∀x∈as,x.ren r=x∧x.inn (T::nms Q)=true)→All2 (RepV S ι (look ((T,.yl)::Q.map fun p=>(r p.1,p.2.ren r))) w) as us→All2 (RepV S (fun q=>ι (r q)) (look ((T,AO.yl)::Q)) w) as us:=fun {as}=>by
   induction as with
   |nil=>intro us _ h;cases us<;>exact h
   |cons x as ih=>
    intro us h1 h2
    cases us with
    |nil=>exact h2.elim
    |cons u us=>
     refine ⟨repV_un hH (h1 x (by simp)).2 ?_,ih (fun y hy=>h1 y V216) h2.2⟩
     rw [(h1 x (by simp)).1];exact h2.1
  exact key hav hargs
section pinv
variable {P:Program} {ops:Array Oper} {A:ASt} {C:Ctx P} {S:Settled} {M:Blocks} {ι:Nat→Value} {a:Act} {w:World}
theorem RelC.pinV (hR:RelC C S M ι A a w){c G i m:Nat}{ls:List AL}(hc:A.obj c=some (.cells ls))(hi:ls[i]? = some (.obj m))(hG:A.obj G=none)(hN:1000≤G) :
  ∃u,Rel C (A.put [.obj G (.pin u (.obj m)),.obj c (.cells (ls.set i (.d (.raw u))))]) a w:=by
 obtain ⟨b,vs,el,hι,hheap,hall,hS,htg⟩:=hR.objs c _ hc
 obtain ⟨u,hu,hru⟩:=hall.get' hi
 have hone:u.oneCell'=true:=RepL.one S ι A.obj w hru
 have hcG:c≠G:=fun e=>by rw [e,hG] at hc;cases hc
 have h1:=hR.pin (G:=G) (u:=u) (l:=.obj m) (.inl ⟨hG,hN⟩) hru
 have hc1:(A.put [.obj G (.pin u (.obj m))]).obj c=some (.cells ls):=by rw [obj_other _ _ hcG];exact hc
 obtain ⟨b1,vs1,el1,hι1,hheap1,hall1,hS1,htg1⟩:=h1.objs c _ hc1
 have ht2:Turns (upd ι G undef) (A.put [.obj G (.pin u (.obj m))]) c (.cells (ls.set i (.d (.raw u)))) (upd ι G undef c):=by unfold Turns;rw [hc1];exact ⟨⟨_,rfl⟩,rfl⟩
 have hon:=only_none (ι:=upd ι G undef) (A:=A.put [.obj G (.pin u (.obj m))]) (w:=w) c
 have hm:=hon.mv h1 ht2
 have e1:vs1=vs:=by
  have q:upd ι G undef c=ι c:=upd_other _ _ hcG
  rw [q,hι] at hι1
  injection hι1 with q1
  injection q1 with q1
  injection q1 with q1
  subst q1
  rw [hheap] at hheap1
  simpa using (Obj.cells.inj (Option.some.inj hheap1)).1.symm
 subst e1
 refine ⟨u,S,_,_,h1.chg hon ht2 ⟨b1,vs1,el1,by rw [upd_same];exact hι1,hheap1,(hall1.mono fun _ _=>hm.l).set fun u' hu'=>?_,hS1,htg1⟩ (fun b2 hb2=>.inr ⟨_,hc1,hb2⟩) (by simp) (fun hn=>by rw [hc1] at hn;cases hn)⟩
 rw [hu] at hu'
 cases hu'
 exact RepD.raw u hone
theorem Run.pinV {o:Oper}{r:List Oper}{Φ:ASt→Prop}(G c i m:Nat){ls:List AL}{F:Value→ASt}{rs:Value→List Loc}{ws:Value→List Wr}(hc:A.obj c=some (.cells ls))(hi:ls[i]? = some (.obj m))(hG:A.obj G=none)(hN:1000≤G)(hw0:wantedA ops o.guard A=some true)
  (hw:∀u,wantedA ops o.guard (A.put [.obj G (.pin u (.obj m)),.obj c (.cells (ls.set i (.d (.raw u))))])=some true)
  (h:∀u,stepOp P ops o (A.put [.obj G (.pin u (.obj m)),.obj c (.cells (ls.set i (.d (.raw u))))])=some (rs u,ws u)) (hF:∀u,(A.put [.obj G (.pin u (.obj m)),.obj c (.cells (ls.set i (.d (.raw u))))]).put (ws u)=F u)
  (h':∀u,Run P ops Φ r (F u)):Run P ops Φ (o::r) A:=
 .sem (K:=fun B=>∃u,B=F u) hw0 (fun C a w Q hd hR=>by
  obtain ⟨S,M,ι,hR⟩:=hR
  obtain ⟨u,hR2⟩:=hR.pinV hc hi hG hN
  have h5:=step_next (ops:=ops) (Q:=Q) (K:=fun a' w'=>∃A',(∃u,A'=F u)∧Rel C A' a' w') hR2 hd (stepOp_full (h u)) fun a' w' hR'=>⟨F u,⟨u,rfl⟩,hF u▸hR'⟩
  obtain ⟨S2,M2,ι2,hR3⟩:=hR2
  rw [if_pos (wanted_rep hR3 (hw u))] at h5
  exact h5) fun B ⟨u,e⟩=>e▸h' u
end pinv
end Go.Mw
namespace Go.Mw
open Go.RowKit
section
variable {P:Program} {ops:Array Oper} {A A':ASt} {Φ:ASt→Prop} {r:List Oper} {d:Nat}
theorem sem_eqNil {t e tz ty:TypeId}{pos:String}{af:Array Edge}{g:Option (Nat × Bool)}{x:Operand}{k:Nat}{es:List (List D)}(ht:tyEl P t=some e)(hx:A.ev x=.leaf (.d (.sl k es))) :
  SemStep P ⟨some d,.binOp .eql t x (.const (.slice none 0 0)) tz,ty,pos,af,g⟩ A (fun B=>∃b,(es≠[]→b=false)∧B=A.put [.slot d (.bool b)]):=by
 intro C a w Q hd ⟨S,M,ι,hR⟩
 have h1:=rep_ev hR x
 rw [hx] at h1
 obtain ⟨p,c,hv,_,hn⟩:=sl_nsl (rep_leaf h1:RepD S w (.sl k es) (a.eval x))
 have hrun:(binOp .eql t (.slice p es.length c) (.slice none 0 0)).run P w=.ok (.bool p.isNone) w:=by
  cases p with
  |none=>exact Lib.run_eql_slice_nil_nil w _ _ (und_el ht)
  |some a=>exact Lib.run_eql_slice_some_nil w a _ _ (und_el ht)
 have hc:a.eval (.const (.slice none 0 0))=.slice none 0 0:=rfl
 refine wp_run (x:=.value (.bool p.isNone)) (w':=w) (by simp [execOp,hv,hc,eqGuard,hrun]) V209 ?_
 rw [Oper.uponIn_value]
 refine ⟨_,⟨p.isNone,fun hne=>?_,rfl⟩,S,M,ι,hR.slot (hd d rfl) ⟨_,rfl,RepD.raw _ rfl⟩⟩
 generalize hes:es=es' at hn
 generalize es'.length=n at hn
 cases hn with
 |nnil k a=>exact absurd hes hne
 |nsl=>rfl
theorem Run.eqN {t e tz ty:TypeId}{pos:String}{af:Array Edge}{x:Operand}{k:Nat}{es:List (List D)}(ht:tyEl P t=some e)(hx:A.ev x=.leaf (.d (.sl k es)))(F:Bool→ASt)(hF:∀b,A.put [.slot d (.bool b)]=F b)
  (h':∀b,(es≠[]→b=false)→Run P ops Φ r (F b)):Run P ops Φ (⟨some d,.binOp .eql t x (.const (.slice none 0 0)) tz,ty,pos,af,none⟩::r) A:=
 .sem rfl (sem_eqNil ht hx) fun B ⟨b,hb,e⟩=>by rw [e,hF];exact h' b hb
theorem Run.bsN {t e ty:TypeId}{k:Nat}{pos:String}{af:Array Edge}(n:Nat)(ht:tyEl P t=some e)(hk:tySize P e=some k)(hk0:0<k)(hn:A.obj n=none)(hN:1000≤n)(hp:A.put [.slot d (.leaf (.own n 0 0 0)),.obj n (.arr e k [])]=A')(h':Run P ops Φ r A') :
  Run P ops Φ (⟨some d,.buildSlice t 0 #[],ty,pos,af,none⟩::r) A:=
 .sem (K:=fun B=>B=A') rfl (fun C a w Q hd hR=>by
  obtain ⟨S,M,ι,hR⟩:=hR
  have hpin:C.pin n=none:=by
   cases hp:C.pin n with
   |none=>rfl
   |some q=>have:=hR.pinN n (by rw [hp];simp);omega
  have hon:Only ι A n w (w.alloc (.cells ([]:List Value).toArray e)):=only_alloc A _
  have htn:Turns ι A n (.arr e k []) (.slice (some ⟨w.heap.size,0,none⟩) 0 0):=turns_new hn _ _
  have hR2:=hR.chg hon htn ⟨[],by rw [upd_same];exact ⟨by simp,.inr ⟨w.heap.size,0,#[],rfl,Nat.zero_le _,heap_alloc_new w _,Nat.le_refl _,Nat.zero_le _,by simp,by simp⟩⟩,by trivial,by simp,hk0,fun b hb off hs=>by
   rw [upd_same] at hb
   simp [blk] at hb
   have:=hR.inn _ _ hs
   omega⟩ (fun b hb=>by simp [blk] at hb;omega) (by simp) (fun _=>hpin)
  refine Oper.wpIn_mono (fun a' w' h=>⟨A',rfl,hp▸h⟩) (wp_snd (snd_new (o:=⟨some d,.buildSlice t 0 #[],ty,pos,af,none⟩) (v:=.slice (some ⟨w.heap.size,0,none⟩) 0 0) (av:=.leaf (.own n 0 0 0)) rfl (hd d rfl) ?_ hR2 ?_) Q)
  ·simp [execOp,Instr.buildSlice,run_underlying (und_el ht),run_size w hk,Instr.fill,newRow,Array.range_zero']
  ·exact leaf_rep ⟨rfl,e,k,[],obj_same _ _ _,Nat.le_refl _,fun _=>⟨Nat.le_refl _,fun _ _=>(upd_same ..).symm,_,0,rfl,Nat.le_refl _,fun h=>absurd h (by omega)⟩⟩) fun B e=>e▸h'
end
end Go.Mw

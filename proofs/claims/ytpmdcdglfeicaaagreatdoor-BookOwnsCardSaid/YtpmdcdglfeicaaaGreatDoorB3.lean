/- What a function's results read as; no condition but those in each. -/
import Derived.Test.YtpmdcdglfeicaaaGreatDoorD1
import Derived.Test.YtpmdcdglfeicaaaGreatDoorB2
set_option linter.unusedSimpArgs false
set_option linter.unusedVariables false
set_option linter.unusedSectionVars false
set_option linter.deprecated false
namespace Go.Mw
open Go.RowKit
def JEf (P:Program)(A:JE):ResultVar→Option AV
 |.tmp t=>some (A.get t)
 |.cell p t=>match A.get p with
  |.val false [.ptr o off]=>match A.obj o,Jn P t,QA P t with
   |some (.cells ls),some n,some ag=>if (ag=true∨n=1)∧off+n≤ls.length then some (.val ag ((ls.drop off).take n)) else none
   |_,_,_=>none
  |_=>none
def JCz (P:Program)(A:JE):List ResultVar→Option (List AV)
 |[]=>some []
 |r::rs=>match JEf P A r,JCz P A rs with
  |some v,some vs=>some (v::vs)
  |_,_=>none
def JBJ:List AV→Option (List (Bool × List AL))
 |[]=>some []
 |.val ag ls::r=>match JBJ r with
  |some cs=>some ((ag,ls)::cs)
  |none=>none
 |_::_=>none
def JDe (P:Program)(A:JE)(rs:List ResultVar):Option AV:=match JCz P A rs with
 |some [v]=>some v
 |some vs=>match JBJ vs with
  |some cs=>some (.tup cs)
  |none=>none
 |none=>none
def JFz (tmps:Array Value):ResultVar→Sem Value
 |.tmp t=>pure (tmps.getD t undef)
 |.cell p t=>do loadVar t (←asAddr (tmps.getD p undef))
theorem JT0 (fn:Func)(tmps:Array Value):results fn tmps=(do
  let vs ←fn.results.mapM (JFz tmps)
  pure (if h:vs.size=1 then vs[0] else .tuple vs)):=by
 unfold results
 congr 1
section res
variable {P:Program} {C:Ctx P} {S:Jc} {M:J7} {ι:Nat→Value} {A:JE} {a:Act} {w:World}
theorem JUF (hR:Jg C S M ι A a w){r:ResultVar}{v:AV}(h:JEf P A r=some v) :
  ∃u,(JFz a.tmps r).run P w=.ok u w∧Jk S ι A.obj w v u:=by
 cases r with
 |tmp t=>
  simp only [JEf,Option.some.injEq] at h
  subst h
  exact ⟨_,by simp [JFz],hR.tms t⟩
 |cell p t=>
  simp only [JEf] at h
  have hp:=hR.tms p
  split at h
  ·rename_i o off e
   rw [e] at hp
   obtain ⟨ls0,b,hob,hι,hv⟩:=Jl hp
   split at h
   ·rename_i ls n ag e1 e2 e3
    rw [hob] at e1;simp only [Option.some.injEq,AO.cells.injEq] at e1;subst e1
    split at h
    case isFalse=>cases h
    rename_i hc
    simp only [Option.some.injEq] at h
    subst h
    obtain ⟨b',vs,el,hι',hheap,hall,_⟩:=hR.objs o _ hob
    rw [hι] at hι';simp only [Value.pointer.injEq,Option.some.injEq,Addr.mk.injEq,and_true] at hι';subst hι'
    have hlen:=hall.length
    have hrun:=JF1 (P:=P) (t:=t) w e3 e2 hc.1 b off (fun j=>vs.getD (off+j) undef)
     (fun j hj=>by rw [JEG (H:=A.obj) hheap];simp [List.getElem?_eq_getElem (show off+j<vs.length by omega),List.getD])
    refine ⟨_,by simp only [JFz];rw [hv];simpa [asAddr] using hrun,?_⟩
    have hn':n=((ls0.drop off).take n).length:=by simp;omega
    have:=JFx (S:=S) (ι:=ι) (w:=w) (H:=A.obj) (ag:=ag) (ls:=(ls0.drop off).take n) (f:=fun j=>vs.getD (off+j) undef) (by rw [←hn'];exact hc.1) (fun j l hl=>?_)
    ·rw [←hn'] at this;exact this
    ·rw [List.getElem?_take] at hl
     split at hl
     ·rw [List.getElem?_drop] at hl
      obtain ⟨v,hv,hr⟩:=hall.get' hl
      simpa [List.getD,hv] using hr
     ·cases hl
   ·cases h
  ·cases h
theorem JNz (hR:Jg C S M ι A a w):∀ {rs:List ResultVar} {vs:List AV},JCz P A rs=some vs →
  ∃us,(rs.mapM (JFz a.tmps)).run P w=.ok us w∧JS (Jk S ι A.obj w) vs us
 |[],vs,h=>by simp [JCz] at h;subst h;exact ⟨[],by simp,trivial⟩
 |r::rs,vs,h=>by
  simp only [JCz] at h
  cases h1:JEf P A r with
  |none=>simp [h1] at h
  |some v=>
  cases h2:JCz P A rs with
  |none=>simp [h1,h2] at h
  |some vs'=>
  simp only [h1,h2,Option.some.injEq] at h
  subst h
  obtain ⟨u,hu,hr⟩:=JUF hR h1
  obtain ⟨us,hus,hrs⟩:=JNz hR h2
  refine ⟨u::us,?_,hr,hrs⟩
  rw [List.mapM_cons]
  simp only [Sem.run_bind,hu,Result.andThen_ok,hus,Sem.run_pure]
theorem JLi:∀ {vs:List AV} {cs:List (Bool × List AL)} {us:List Value},JBJ vs=some cs→JS (Jk S ι A.obj w) vs us→JS (fun c u=>Qv S ι A.obj w c.1 c.2 u) cs us
 |[],cs,us,h,hr=>by
  simp [JBJ] at h;subst h
  cases us with
  |nil=>trivial
  |cons _ _=>exact hr.elim
 |.val ag ls::r,cs,us,h,hr=>by
  simp only [JBJ] at h
  cases hc:JBJ r with
  |none=>simp [hc] at h
  |some cs'=>
  simp only [hc,Option.some.injEq] at h
  subst h
  cases us with
  |nil=>exact hr.elim
  |cons u us=>exact ⟨hr.1,JLi hc hr.2⟩
 |.tup _::_,_,_,h,_=>by simp [JBJ] at h
 |.cnd _ _::_,_,_,h,_=>by simp [JBJ] at h
 |.dead::_,_,_,h,_=>by simp [JBJ] at h
theorem JN0 (hR:Jg C S M ι A a w){fn:Func}{v:AV}(h:JDe P A fn.results.toList=some v):∃u,(results fn a.tmps).run P w=.ok u w∧Jk S ι A.obj w v u:=by
 unfold JDe at h
 cases hv:JCz P A fn.results.toList with
 |none=>simp [hv] at h
 |some vs=>
 obtain ⟨us,hus,hrs⟩:=JNz hR hv
 have hrun:(results fn a.tmps).run P w=.ok (if h:us.toArray.size=1 then us.toArray[0] else .tuple us.toArray) w:=by
  rw [JT0,←Array.toArray_toList (xs:=fn.results),List.mapM_toArray]
  simp only [Sem.run_bind,Sem.run_map,hus,Result.andThen_ok,Sem.run_pure,map_eq_pure_bind]
 refine ⟨_,hrun,?_⟩
 rw [hv] at h
 split at h
 ·rename_i v' e
  simp only [Option.some.injEq] at e h
  subst e h
  match us,hrs with
  |[u],hrs=>simpa using hrs.1
 ·rename_i vs' hne e
  simp only [Option.some.injEq] at e
  subst e
  cases hc:JBJ vs with
  |none=>simp [hc] at h
  |some cs=>
  simp only [hc,Option.some.injEq] at h
  subst h
  have hl:us.length≠1:=by
   rw [←hrs.length]
   intro h1
   match vs,h1 with
   |[x],_=>exact hne x rfl
  refine ⟨us,?_,JLi hc hrs⟩
  rw [dif_neg JB2]
 ·rename_i e;simp at e
end res
end Go.Mw
namespace Go.Mw
open Go.RowKit
theorem JN.refl (A:JE):JN A A:=fun _ _ _ _ h=>h
theorem JN.trans {A B D:JE}(h:JN A B)(h':JN B D):JN A D:=fun P C a w hR=>h' P C a w (h P C a w hR)
section keep
variable (A:JE) (ss os:List Nat)
theorem JJN (f:Nat→AV)(s:Nat):∀ss:List Nat,look (ss.map fun t=>(t,f t)) s=if s∈ss then some (f s) else none
 |[]=>by simp [look]
 |t::ss=>by
  simp only [List.map_cons,look,JJN f s ss]
  by_cases h:s=t
  ·subst h;simp
  ·simp [h]
theorem JJJ (os:List Nat)(o:Nat):∀r:List Nat,look (JAg A os r) o=if o∈r then (A.obj o).map (·.keep os) else none
 |[]=>by simp [JAg,look]
 |q::r=>by
  unfold JAg
  cases hq:A.obj q with
  |none=>
   simp only [JJJ os o r]
   by_cases h:o=q
   ·subst h;simp [hq]
   ·simp [h]
  |some x=>
   simp only [look,JJJ os o r]
   by_cases h:o=q
   ·subst h;simp [hq]
   ·simp [h]
theorem JCn (o:Nat):(A.keep ss os).obj o=if o∈os then (A.obj o).map (·.keep os) else none:=JJJ A os o os
theorem JSG (s:Nat):(A.keep ss os).get s=if s∈ss then (A.get s).keep os else .dead:=by
 show (look (ss.map fun t=>(t,(A.get t).keep os)) s).getD .dead=_
 rw [JJN (fun t=>(A.get t).keep os)]
 split<;>rfl
theorem JSF {S:Jc}{ι:Nat→Value}{w:World}{l:FL}{v:Value}(h:ZQ S ι A.obj w l v):ZQ S ι (A.keep ss os).obj w (l.keep os) v:=by
 have h1:=ZQ.one S ι A.obj w h
 cases l with
 |d x=>exact h
 |own o i j t=>
  simp only [FL.keep]
  split
  ·rename_i hc
   obtain ⟨_,e,k,es,ho,hv⟩:=h
   exact ⟨h1,e,k,es,by rw [JCn,if_pos (by simpa using hc),ho];rfl,hv⟩
  ·exact h1
 |obj o=>
  simp only [FL.keep]
  split
  ·rename_i hc
   obtain ⟨_,hv,x,ho,hx⟩:=h
   exact ⟨h1,hv,_,by rw [JCn,if_pos (by simpa using hc),ho];rfl,by cases x<;>first|rfl|simp [AO.whole] at hx⟩
  ·exact h1
 |dead=>exact h
theorem JDT {S:Jc}{ι:Nat→Value}{w:World}{l:AL}{v:Value}(h:Jd S ι A.obj w l v):Jd S ι (A.keep ss os).obj w (l.keep os) v:=by
 have h1:=Jd.one S ι A.obj w h
 cases l with
 |d x=>exact h
 |ptr o i=>
  simp only [AL.keep]
  split
  ·rename_i hc
   obtain ⟨ls,b,ho,hι,hv⟩:=h
   exact ⟨_,b,by rw [JCn,if_pos (by simpa using hc),ho];rfl,hι,hv⟩
  ·exact h1
 |eptr o i j t=>
  simp only [AL.keep]
  split
  ·rename_i hc
   obtain ⟨_,e,k,es,ho,hv⟩:=h
   exact ⟨h1,e,k,es,by rw [JCn,if_pos (by simpa using hc),ho];rfl,hv⟩
  ·exact h1
 |own o i j t=>
  simp only [AL.keep]
  split
  ·rename_i hc
   obtain ⟨_,e,k,es,ho,hv⟩:=h
   exact ⟨h1,e,k,es,by rw [JCn,if_pos (by simpa using hc),ho];rfl,hv⟩
  ·exact h1
 |obj o=>
  simp only [AL.keep]
  split
  ·rename_i hc
   obtain ⟨_,hv,x,ho,hx⟩:=h
   exact ⟨h1,hv,_,by rw [JCn,if_pos (by simpa using hc),ho];rfl,by cases x<;>first|rfl|simp [AO.whole] at hx⟩
  ·exact h1
 |fpt fs=>
  obtain ⟨b,off,hv,hf⟩:=h
  exact ⟨b,off,hv,JHK hf fun j f ⟨h1,u,h2,h3⟩=>⟨h1,u,h2,JSF A ss os h3⟩⟩
 |csl o i j=>
  simp only [AL.keep]
  split
  ·rename_i hc
   obtain ⟨ls,b,c,ho,hι,hv⟩:=h
   exact ⟨_,b,c,by rw [JCn,if_pos (by simpa using hc),ho];rfl,hι,hv⟩
  ·exact h1
 |dead=>exact h
theorem JI7 {S:Jc}{ι:Nat→Value}{w:World}{ag:Bool}{ls:List AL}{v:Value}(h:Qv S ι A.obj w ag ls v):Qv S ι (A.keep ss os).obj w ag (ls.map (·.keep os)) v:=by
 cases ag with
 |true=>obtain ⟨vs,hv,ha⟩:=h;exact ⟨vs,hv,Ya (R:=Jd S ι A.obj w) (R':=Jd S ι (A.keep ss os).obj w) (·.keep os) (fun _ _ h=>JDT A ss os h) ha⟩
 |false=>obtain ⟨l,rfl,ha⟩:=h;exact ⟨_,rfl,JDT A ss os ha⟩
theorem JI8 {S:Jc}{ι:Nat→Value}{w:World}:∀ {av:AV} {v:Value},Jk S ι A.obj w av v→Jk S ι (A.keep ss os).obj w (av.keep os) v
 |.val ag ls,_,h=>JI7 A ss os h
 |.tup cs,_,⟨vs,hv,ha⟩=>⟨vs,hv,Ya (R:=fun (c:Bool × List AL) u=>Qv S ι A.obj w c.1 c.2 u) (R':=fun (c:Bool × List AL) u=>Qv S ι (A.keep ss os).obj w c.1 c.2 u) (fun c=>(c.1,c.2.map (·.keep os))) (fun _ _ h=>JI7 A ss os h) ha⟩
 |.cnd _ x,_,h=>⟨fun hb=>JI8 (av:=x) (h.1 hb),h.2⟩
 |.dead,_,_=>trivial
theorem JMT (S:Jc)(ι:Nat→Value)(w:World)(o:Nat)(x':AO)(h:(A.keep ss os).obj o=some x') :
  ∃x,A.obj o=some x∧x'=x.keep os∧(Yw S ι A.obj w o x→Yw S ι (A.keep ss os).obj w o x')∧(x'=.yl→x=.yl)∧∀u v n,x.pinned u v n→x'.pinned u v n:=by
 rw [JCn] at h
 split at h
 case isFalse=>cases h
 cases hx:A.obj o with
 |none=>simp [hx] at h
 |some x=>
  simp only [hx,Option.map_some,Option.some.injEq] at h
  subst h
  refine ⟨x,rfl,rfl,fun hok=>?_,fun h=>(by cases x<;>first|rfl|cases h),fun u v n hp=>(by cases x<;>exact hp)⟩
  cases x with
  |cells ls=>
   obtain ⟨b,vs,el,h1,h2,h3,h5⟩:=hok
   exact ⟨b,vs,el,h1,h2,Ya (R:=Jd S ι A.obj w) (R':=Jd S ι (A.keep ss os).obj w) (·.keep os) (fun _ _ h=>JDT A ss os h) h3,h5⟩
  |arr e k es=>exact hok
  |clo f ls=>
   obtain ⟨vs,h1,h3⟩:=hok
   exact ⟨vs,h1,Ya (R:=Jd S ι A.obj w) (R':=Jd S ι (A.keep ss os).obj w) (·.keep os) (fun _ _ h=>JDT A ss os h) h3⟩
  |yl=>exact hok
  |map es=>
   obtain ⟨b,qs,ck,h1,h2,h3,h5⟩:=hok
   exact ⟨b,qs,ck,h1,h2,Ya (R:=Zl S ι A.obj w) (R':=Zl S ι (A.keep ss os).obj w) (fun p=>(p.1,p.2.1,p.2.2.map (·.keep os))) (fun _ _ h=>⟨h.1,JI7 A ss os h.2⟩) h3,h5⟩
  |pin v l=>exact ⟨hok.1,JDT A ss os hok.2⟩
  |mth f ls=>
   obtain ⟨vs,h1,h3⟩:=hok
   exact ⟨vs,h1,Ya (R:=Jd S ι A.obj w) (R':=Jd S ι (A.keep ss os).obj w) (·.keep os) (fun _ _ h=>JDT A ss os h) h3⟩
  |iter ls n sn c=>
   obtain ⟨b,m,h1,h2,h3,h5⟩:=hok
   exact ⟨b,m,h1,h2,Ya (R:=Jd S ι A.obj w) (R':=Jd S ι (A.keep ss os).obj w) (·.keep os) (fun _ _ h=>JDT A ss os h) h3,h5⟩
  |sit s p=>exact hok
  |byt b c l=>exact hok
theorem JN.keep:JN A (A.keep ss os):=by
 refine JCF (fun S ι w s v h=>?_) fun S ι w o x' h=>?_
 ·rw [JSG]
  split
  ·exact JI8 A ss os h
  ·trivial
 ·obtain ⟨x,h1,_,h2⟩:=JMT A ss os S ι w o x' h
  exact ⟨x,h1,h2⟩
end keep
def AV.mapL (φ:AL→AL):AV→AV
 |.val ag ls=>.val ag (ls.map φ)
 |.tup cs=>.tup (cs.map fun c=>(c.1,c.2.map φ))
 |.cnd b v=>.cnd b (v.mapL φ)
 |.dead=>.dead
def AO.mapL (φ:AL→AL):AO→AO
 |.cells ls=>.cells (ls.map φ)
 |.arr e k es=>.arr e k es
 |.clo f ls=>.clo f (ls.map φ)
 |.yl=>.yl
 |.map es=>.map (es.map fun p=>(p.1,p.2.1,p.2.2.map φ))
 |.mth f ls=>.mth f (ls.map φ)
 |.pin v l=>.pin v (φ l)
 |.iter ls n s c=>.iter (ls.map φ) n s c
 |.sit s p=>.sit s p
 |.byt b c l=>.byt b c l
def JBu (φ:AL→AL):List (Nat × AV)→List (Nat × AV)
 |[]=>[]
 |(s,v)::r=>(s,v.mapL φ)::JBu φ r
def JA4 (o:Nat)(φ:AL→AL):List (Nat × AO)→List (Nat × AO)
 |[]=>[]
 |(q,x)::r=>if q=o then JA4 o φ r else (q,x.mapL φ)::JA4 o φ r
theorem JJM (φ:AL→AL)(s:Nat):∀l:List (Nat × AV),(look (JBu φ l) s).getD .dead=((look l s).getD .dead).mapL φ
 |[]=>rfl
 |(t,v)::r=>by
  simp only [JBu,look]
  split
  ·rfl
  ·exact JJM φ s r
theorem JJL (o:Nat)(φ:AL→AL)(q:Nat):∀l:List (Nat × AO),look (JA4 o φ l) q=if q=o then none else (look l q).map (·.mapL φ)
 |[]=>by simp [JA4,look]
 |(p,x)::r=>by
  simp only [JA4]
  have ih:=JJL o φ q r
  by_cases hp:p=o
  ·rw [if_pos hp,ih]
   split
   ·rfl
   ·rename_i hq
    simp [look,hp,hq]
  ·rw [if_neg hp]
   simp only [look,ih]
   by_cases hq:q=p
   ·subst hq;simp [hp]
   ·simp [hq]
def JE.settle (A:JE)(o:Nat)(φ:AL→AL):JE:=⟨JBu φ A.tm,JA4 o φ A.ob,A.bh⟩
theorem JRq {S S':Jc}{ι ι':Nat→Value}{H H':Nat→Option AO}{w w':World}{φ:AL→AL}{ψ:FL→FL}(hψ:∀f:FL,φ f.al=(ψ f).al)(hp:∀fs,φ (.fpt fs)=.fpt (fs.map ψ))(hS:∀b q,S b q→S' b q∧w'.cell? ⟨b,q,none⟩=w.cell? ⟨b,q,none⟩)
  (h:∀l v,(∀fs,l≠.fpt fs)→Jd S ι H w l v→Jd S' ι' H' w' (φ l) v):∀l v,Jd S ι H w l v→Jd S' ι' H' w' (φ l) v:=by
 intro l v hr
 by_cases hl:∃fs,l=.fpt fs
 ·obtain ⟨fs,rfl⟩:=hl
  obtain ⟨b,off,hv,hf⟩:=hr
  rw [hp]
  exact ⟨b,off,hv,JHK hf fun j f ⟨h1,u,h2,h3⟩=>⟨(hS _ _ h1).1,u,(hS _ _ h1).2.trans h2,(JHo S' ι' H' w').2 (hψ f▸h f.al u (fun fs e=>by cases f<;>cases e) ((JHo S ι H w).1 h3))⟩⟩
 ·exact h l v (fun fs e=>hl ⟨fs,e⟩) hr
theorem JN.settle (A:JE)(o:Nat)(x0:AO)(ho:A.obj o=some x0)(φ:AL→AL)(n:Nat)(ψ:FL→FL)(hψ:∀f:FL,φ f.al=(ψ f).al)(hψp:∀fs,φ (.fpt fs)=.fpt (fs.map ψ))
  (hφ:∀(S S':Jc) (ι:Nat→Value) (w:World) (H':Nat→Option AO),Yw S ι A.obj w o x0→(∀b q,S b q→S' b q)→(∀b q,blk (ι o)=some b→q<n→S' b q) →
   (∀q x,A.obj q=some x→q≠o→H' q=some (x.mapL φ))→∀l v,(∀fs,l≠.fpt fs)→Jd S ι A.obj w l v→Jd S' ι H' w (φ l) v):JN A (A.settle o φ):=by
 intro P C a w ⟨S,M,ι,hR⟩
 have hok0:=hR.objs o _ ho
 have hobj:∀q,(A.settle o φ).obj q=if q=o then none else (A.obj q).map (·.mapL φ):=fun q=>JJL o φ q A.ob
 have hget:∀s,(A.settle o φ).get s=(A.get s).mapL φ:=fun s=>JJM φ s A.tm
 have hbh:(A.settle o φ).bh=A.bh:=rfl
 generalize A.settle o φ=A' at hobj hget hbh
 let S':Jc:=fun b q=>S b q∨(blk (ι o)=some b∧q<n)
 have hd:∀x v,RepD S w x v→RepD S' w x v:=fun x v h=>RepD.mono (S':=S') (w:=w) (w':=w) (fun _ _ h=>.inl h) (fun _ _ _=>rfl) h
 have hobj':∀q x,A.obj q=some x→q≠o→A'.obj q=some (x.mapL φ):=fun q x h hq=>by rw [hobj,if_neg hq,h];rfl
 have hl:∀l v,Jd S ι A.obj w l v→Jd S' ι A'.obj w (φ l) v:=JRq hψ hψp (fun _ _ h=>⟨.inl h,rfl⟩) (hφ S S' ι w A'.obj hok0 (fun _ _ h=>.inl h) (fun _ _ h1 h2=>.inr ⟨h1,h2⟩) hobj')
 have hc:∀ag ls v,Qv S ι A.obj w ag ls v→Qv S' ι A'.obj w ag (ls.map φ) v:=by
  intro ag ls v h
  cases ag with
  |true=>obtain ⟨vs,hv,ha⟩:=h;exact ⟨vs,hv,Ya (R:=Jd S ι A.obj w) (R':=Jd S' ι A'.obj w) φ hl ha⟩
  |false=>obtain ⟨l,rfl,ha⟩:=h;exact ⟨_,rfl,hl _ _ ha⟩
 have hv:∀av v,Jk S ι A.obj w av v→Jk S' ι A'.obj w (av.mapL φ) v:=by
  intro av
  induction av with
  |val ag ls=>exact fun v h=>hc _ _ _ h
  |tup cs=>
   intro v h
   obtain ⟨vs,hv,ha⟩:=h
   exact ⟨vs,hv,Ya (R:=fun (c:Bool × List AL) u=>Qv S ι A.obj w c.1 c.2 u) (R':=fun (c:Bool × List AL) u=>Qv S' ι A'.obj w c.1 c.2 u) (fun c=>(c.1,c.2.map φ)) (fun c u h=>hc c.1 c.2 u h) ha⟩
  |cnd b x ih=>exact fun v h=>⟨fun hb=>ih v (h.1 hb),h.2⟩
  |dead=>exact fun _ _=>trivial
 have hge:=fun b hb=>hok0.blk_ge (b:=b) hb
 have hinv:∀q x',A'.obj q=some x' → ∃x,A.obj q=some x∧q≠o∧x'=x.mapL φ:=fun q x' h=>by
  rw [hobj] at h
  split at h
  ·cases h
  ·rename_i hqo
   cases hx:A.obj q with
   |none=>simp [hx] at h
   |some x=>simp only [hx,Option.map_some,Option.some.injEq] at h;exact ⟨x,rfl,hqo,h.symm⟩
 refine ⟨S',M,ι,{
  sub:=fun b q h=>.inl (hR.sub b q h)
  new:=fun b q h=>?_
  inn:=fun b q h=>?_
  minn:=hR.minn
  sz:=hR.sz
  tms:=fun s=>by rw [hget];exact hv _ _ (hR.tms s)
  objs:=fun q x' h=>?_
  dis:=fun q q' x x' b h h'=>by
   obtain ⟨y,hy,_⟩:=hinv q x h
   obtain ⟨y',hy',_⟩:=hinv q' x' h'
   exact hR.dis q q' y y' b hy hy'
  own:=fun q x b h hb=>by obtain ⟨y,hy,_⟩:=hinv q x h;exact hR.own q y b hy hb
  env:=by
   rw [hbh]
   refine C.E.step hR.env ⟨rfl,rfl,rfl,Nat.le_refl _,fun _ _ _=>rfl,fun _ _ _=>rfl⟩ (fun _ h=>h) (fun _ h=>.inl h) (fun _ _ h=>.inl h) fun b q h=>?_
   rcases h with h|⟨h,_⟩
   ·exact .inl h
   ·exact .inr (hR.own o _ b ho h)
  tok:=fun q h=>by
   obtain ⟨y,hy,_,he⟩:=hinv q _ h
   cases y<;>first|exact hR.tok q hy|cases he
  fixed:=hR.fixed
  marks:=hR.marks
  rdok:=hR.rdok
  pinned:=fun q u m x h1 h2=>by
   obtain ⟨y,hy,_,rfl⟩:=hinv q _ h2
   have:=hR.pinned q u m y h1 hy
   cases y<;>exact this
  pinN:=hR.pinN }⟩
 ·rcases h with h|⟨h,_⟩
  ·exact hR.new b q h
  ·exact .inr (hR.own o _ b ho h)
 ·rcases h with h|⟨h,_⟩
  ·exact hR.inn b q h
  ·exact (hge b h).1
 ·obtain ⟨x,hx,hqo,rfl⟩:=hinv q x' h
  have hok:=hR.objs q x hx
  have hno:∀b,blk (ι q)=some b→∀off,¬S' b off:=fun b hb off hs=>by
   rcases hs with hs|⟨hs,_⟩
   ·exact (hok.blk_ge hb).2.1 off hs
   ·exact hR.dis q o x _ b hx ho hqo hb hs
  cases x with
  |cells ls=>
   obtain ⟨b,vs,el,h1,h2,h3,h5⟩:=hok
   exact ⟨b,vs,el,h1,h2,Ya (R:=Jd S ι A.obj w) (R':=Jd S' ι A'.obj w) φ hl h3,hno b JAU,h5.2⟩
  |arr e' k' es'=>
   obtain ⟨ys,h1,h2,h3,h4,h5⟩:=hok
   exact ⟨ys,h1,h2.mono fun _ _=>hd _ _,h3,h4,hno⟩
  |clo f ls=>
   obtain ⟨vs,h1,h3⟩:=hok
   exact ⟨vs,h1,Ya (R:=Jd S ι A.obj w) (R':=Jd S' ι A'.obj w) φ hl h3⟩
  |yl=>exact hok
  |map es=>
   obtain ⟨b,qs,ck,h1,h2,h3,h4,h5⟩:=hok
   exact ⟨b,qs,ck,h1,h2,Ya (R:=Zl S ι A.obj w) (R':=Zl S' ι A'.obj w) (fun p=>(p.1,p.2.1,p.2.2.map φ)) (fun _ _ h=>⟨h.1,hc _ _ _ h.2⟩) h3,h4,hno b JAU⟩
  |pin v l=>exact ⟨hok.1,hl _ _ hok.2⟩
  |mth f ls=>
   obtain ⟨vs,h1,h3⟩:=hok
   exact ⟨vs,h1,Ya (R:=Jd S ι A.obj w) (R':=Jd S' ι A'.obj w) φ hl h3⟩
  |iter ls n sn c=>
   obtain ⟨b,m,h1,h2,h3,h5⟩:=hok
   exact ⟨b,m,h1,h2,Ya (R:=Jd S ι A.obj w) (R':=Jd S' ι A'.obj w) φ hl h3,hno b JAU⟩
  |sit s p=>
   obtain ⟨b,h1,h2,h5⟩:=hok
   exact ⟨b,h1,h2,hno b JAU⟩
  |byt b c l=>exact ⟨hok.1,hok.2.1,hno b (by rw [hok.1];rfl)⟩
def FL.frz (o k:Nat)(es:List (List D)):FL→FL
 |.d x=>.d x
 |.own q i n t=>if q=o then (if es.length=t then .d (.sl k ((es.drop i).take n)) else .dead) else .own q i n t
 |.obj q=>.obj q
 |.dead=>.dead
def FL.frzf (o:Nat)(d:D):FL→FL
 |.obj q=>if q=o then .d d else .obj q
 |l=>l
def AL.frz (o k:Nat)(es:List (List D)):AL→AL
 |.d x=>.d x
 |.ptr q i=>.ptr q i
 |.eptr q i j t=>if q=o then .dead else .eptr q i j t
 |.own q i n t=>if q=o then (if es.length=t then .d (.sl k ((es.drop i).take n)) else .dead) else .own q i n t
 |.obj q=>.obj q
 |.fpt fs=>.fpt (fs.map (FL.frz o k es))
 |.csl q i n=>.csl q i n
 |.dead=>.dead
def AL.frzc (o:Nat)(ds:List D):AL→AL
 |.d x=>.d x
 |.ptr q i=>if q=o then .d (.pt (ds.drop i)) else .ptr q i
 |.eptr q i j t=>.eptr q i j t
 |.own q i n t=>.own q i n t
 |.obj q=>.obj q
 |.fpt fs=>.fpt fs
 |.csl q i n=>if q=o then .dead else .csl q i n
 |.dead=>.dead
def AL.frzf (o:Nat)(d:D):AL→AL
 |.obj q=>if q=o then .d d else .obj q
 |.fpt fs=>.fpt (fs.map (FL.frzf o d))
 |l=>l
def JE.frz (A:JE)(o:Nat):JE:=match A.obj o with
 |some (.arr _ k es)=>A.settle o (AL.frz o k es)
 |some (.cells ls)=>match J6 ls with
  |some ds=>A.settle o (AL.frzc o ds)
  |none=>A
 |some (.clo f ls)=>match J6 ls with
  |some ds=>A.settle o (AL.frzf o (.fn f ds))
  |none=>A
 |_=>A
theorem JRs (o k:Nat)(es:List (List D))(f:FL):AL.frz o k es f.al=(f.frz o k es).al:=by
 cases f with
 |own q i n t=>by_cases hq:q=o<;>by_cases ht:es.length=t<;>simp [FL.al,AL.frz,FL.frz,hq,ht]
 |_=>rfl
theorem JRw (o:Nat)(d:D)(f:FL):AL.frzf o d f.al=(f.frzf o d).al:=by
 cases f with
 |obj q=>by_cases hq:q=o<;>simp [FL.al,AL.frzf,FL.frzf,hq]
 |_=>rfl
theorem JN.frz (A:JE)(o:Nat):JN A (A.frz o):=by
 unfold JE.frz
 split
 ·rename_i e k es ho
  refine JN.settle A o _ ho _ (es.length*k) (FL.frz o k es) (JRs o k es) (fun _=>rfl) fun S S' ι w H' hok hS hT hH l v hne h=>?_
  obtain ⟨xs,hown,hall,hk,hk0,_⟩:=hok
  have h1:=Jd.one S ι A.obj w h
  have hd:∀x v,RepD S w x v→RepD S' w x v:=fun x v h=>RepD.mono (S':=S') (w:=w) (w':=w) hS (fun _ _ _=>rfl) h
  cases l with
  |d x=>exact hd _ _ h
  |ptr q i=>
   obtain ⟨ls,b,hq,hι,hv⟩:=h
   have hqo:q≠o:=fun e=>by rw [e,ho] at hq;cases hq
   exact ⟨_,b,hH q _ hq hqo,hι,hv⟩
  |eptr q i j t=>
   simp only [AL.frz]
   split
   ·exact h1
   ·rename_i hqo
    obtain ⟨_,e',k',es',hq,hv⟩:=h
    exact ⟨h1,e',k',es',hH q _ hq hqo,hv⟩
  |own q i n t=>
   simp only [AL.frz]
   split
   ·rename_i hqo
    have hqo:=hqo.symm
    subst hqo
    obtain ⟨_,e',k',es',hq,htl,hv⟩:=h
    rw [ho] at hq;simp only [Option.some.injEq,AO.arr.injEq] at hq
    obtain ⟨rfl,rfl,rfl⟩:=hq
    split
    ·rename_i htot
     obtain ⟨hin,_,p,c,rfl,hnc,hp⟩:=hv htot
     have hlen:((es.drop i).take n).length=n:=by simp;omega
     by_cases hn:n=0
     ·subst hn
      simp only [List.take_zero]
      exact RepD.nil k _ _
     ·obtain ⟨b,c0,hτ,rfl,_⟩:=hp (by omega)
      have hown':=hown
      rw [hτ,htot] at hown'
      have key:∀(j:Nat) (y:List D),((es.drop i).take n)[j]? = some y→es[i+j]? = some y∧j<n:=fun j y hy=>by
       rw [List.getElem?_take] at hy
       split at hy
       ·rename_i hj;rw [List.getElem?_drop] at hy;exact ⟨hy,hj⟩
       ·cases hy
      have hb:blk (ι o)=some b:=by rw [hτ];rfl
      have hlt:∀(j q:Nat) (y:List D),((es.drop i).take n)[j]? = some y→q<y.length→(i+j)*k+q<t*k:=fun j q y hy hq=>by
       obtain ⟨h1,h2⟩:=key j y hy
       have:y.length=k:=hk y (List.mem_of_getElem? h1)
       calc (i+j)*k+q<(i+j)*k+k:=by omega
        _=(i+j+1)*k:=by simp [Nat.add_mul]
        _≤t*k:=Nat.mul_le_mul_right _ (by omega)
      have hadd:∀j q,i*k+j*k+q=(i+j)*k+q:=fun j q=>by rw [Nat.add_mul]
      have:=RepD.sl (S:=S') (w:=w) k ((es.drop i).take n) b (i*k) c (fun j q=>xs.getD ((i+j)*k+q) undef) (by rw [hlen];exact hnc)
       (fun j y hy=>hk y (List.mem_of_getElem? (key j y hy).1))
       (fun j y q d hy hq=>hT b _ hb (by rw [hadd,htot];exact hlt j q y hy (List.getElem?_eq_some_iff.1 hq).1))
       (fun j y q d hy hq=>by
        have h1:=hlt j q y hy (List.getElem?_eq_some_iff.1 hq).1
        rw [hadd,hown'.cellAt _ h1]
        have:(i+j)*k+q<xs.length:=by rw [hown'.1];exact h1
        simp [List.getD,List.getElem?_eq_getElem this])
       (fun j y q d hy hq=>by
        obtain ⟨v,hv,hr⟩:=hall.get' (flat_get hk (key j y hy).1 hq)
        have e:xs.getD ((i+j)*k+q) undef=v:=by simp [List.getD,hv]
        rw [e];exact hd _ _ hr)
      rw [hlen] at this
      exact this
    ·exact h1
   ·rename_i hqo
    obtain ⟨_,e',k',es',hq,hv⟩:=h
    exact ⟨h1,e',k',es',hH q _ hq hqo,hv⟩
  |obj q=>
   obtain ⟨_,hv,x,hq,hx⟩:=h
   have hqo:q≠o:=fun e=>by rw [e,ho] at hq;cases hq;cases hx
   exact ⟨h1,hv,_,hH q _ hq hqo,by cases x<;>first|rfl|simp [AO.whole] at hx⟩
  |fpt fs=>exact absurd rfl (hne fs)
  |csl q i n=>
   obtain ⟨ls0,b',c',hq,hι',hv⟩:=h
   have hqo:q≠o:=fun e=>by rw [e,ho] at hq;cases hq
   exact ⟨_,b',c',hH q _ hq hqo,hι',hv⟩
  |dead=>exact h
 ·rename_i ls ho
  split
  case h_2=>exact JN.refl A
  rename_i ds hp
  refine JN.settle A o _ ho _ ds.length id (fun f=>by cases f<;>rfl) (fun fs=>by simp [AL.frzc]) fun S S' ι w H' hok hS hT hH l v hne h=>?_
  obtain ⟨b,vs,el,hι,hheap,hall,_⟩:=hok
  have h1:=Jd.one S ι A.obj w h
  have hd:∀x v,RepD S w x v→RepD S' w x v:=fun x v h=>RepD.mono (S':=S') (w:=w) (w':=w) hS (fun _ _ _=>rfl) h
  have hds:=JDa hp hall
  cases l with
  |d x=>exact hd _ _ h
  |ptr q i=>
   simp only [AL.frzc]
   split
   ·rename_i hqo
    have hqo:=hqo.symm
    subst hqo
    obtain ⟨ls0,b',hq,hι',rfl⟩:=h
    rw [hι] at hι'
    simp only [Value.pointer.injEq,Option.some.injEq,Addr.mk.injEq,and_true] at hι'
    subst hι'
    refine RepD.pt _ b i (fun j=>vs.getD (i+j) undef) (fun j d hj=>?_) (fun j d hj=>?_) (fun j d hj=>?_)
    ·rw [List.getElem?_drop] at hj
     exact hT b _ (by rw [hι];rfl) (List.getElem?_eq_some_iff.1 hj).1
    ·rw [List.getElem?_drop] at hj
     obtain ⟨v,hv,_⟩:=hds.get' hj
     rw [JEG (H:=A.obj) hheap]
     simp [List.getD,hv]
    ·rw [List.getElem?_drop] at hj
     obtain ⟨v,hv,hr⟩:=hds.get' hj
     have e:vs.getD (i+j) undef=v:=by simp [List.getD,hv]
     rw [e];exact hd _ _ hr
   ·rename_i hqo
    obtain ⟨ls0,b',hq,hι',hv⟩:=h
    exact ⟨_,b',hH q _ hq hqo,hι',hv⟩
  |eptr q i j t=>
   obtain ⟨_,e',k',es',hq,hv⟩:=h
   have hqo:q≠o:=fun e=>by rw [e,ho] at hq;cases hq
   exact ⟨h1,e',k',es',hH q _ hq hqo,hv⟩
  |own q i n t=>
   obtain ⟨_,e',k',es',hq,hv⟩:=h
   have hqo:q≠o:=fun e=>by rw [e,ho] at hq;cases hq
   exact ⟨h1,e',k',es',hH q _ hq hqo,hv⟩
  |obj q=>
   obtain ⟨_,hv,x,hq,hx⟩:=h
   have hqo:q≠o:=fun e=>by rw [e,ho] at hq;cases hq;cases hx
   exact ⟨h1,hv,_,hH q _ hq hqo,by cases x<;>first|rfl|simp [AO.whole] at hx⟩
  |fpt fs=>exact absurd rfl (hne fs)
  |csl q i n=>
   simp only [AL.frzc]
   split
   ·exact h1
   ·rename_i hqo
    obtain ⟨ls0,b',c',hq,hι',hv⟩:=h
    exact ⟨_,b',c',hH q _ hq hqo,hι',hv⟩
  |dead=>exact h
 ·rename_i f ls ho
  split
  case h_2=>exact JN.refl A
  rename_i ds hp
  refine JN.settle A o _ ho _ 0 (FL.frzf o (.fn f ds)) (JRw o _) (fun _=>rfl) fun S S' ι w H' hok hS hT hH l v hne h=>?_
  obtain ⟨vs,hι,hall⟩:=hok
  have h1:=Jd.one S ι A.obj w h
  have hd:∀x v,RepD S w x v→RepD S' w x v:=fun x v h=>RepD.mono (S':=S') (w:=w) (w':=w) hS (fun _ _ _=>rfl) h
  have hds:=JDa hp hall
  cases l with
  |d x=>exact hd _ _ h
  |ptr q i=>
   obtain ⟨ls0,b',hq,hι',hv⟩:=h
   have hqo:q≠o:=fun e=>by rw [e,ho] at hq;cases hq
   exact ⟨_,b',hH q _ hq hqo,hι',hv⟩
  |eptr q i j t=>
   obtain ⟨_,e',k',es',hq,hv⟩:=h
   have hqo:q≠o:=fun e=>by rw [e,ho] at hq;cases hq
   exact ⟨h1,e',k',es',hH q _ hq hqo,hv⟩
  |own q i n t=>
   obtain ⟨_,e',k',es',hq,hv⟩:=h
   have hqo:q≠o:=fun e=>by rw [e,ho] at hq;cases hq
   exact ⟨h1,e',k',es',hH q _ hq hqo,hv⟩
  |obj q=>
   obtain ⟨_,hv,x,hq,hx⟩:=h
   simp only [AL.frzf]
   split
   ·rename_i hqo
    subst hqo
    rw [hv,hι]
    exact RepD.fn f ds vs hds.length.symm fun j d v h1 h2=>hd _ _ (hds.get h1 h2)
   ·rename_i hqo
    exact ⟨h1,hv,_,hH q _ hq hqo,by cases x<;>first|rfl|simp [AO.whole] at hx⟩
  |fpt fs=>exact absurd rfl (hne fs)
  |csl q i n=>
   obtain ⟨ls0,b',c',hq,hι',hv⟩:=h
   have hqo:q≠o:=fun e=>by rw [e,ho] at hq;cases hq
   exact ⟨_,b',c',hH q _ hq hqo,hι',hv⟩
  |dead=>exact h
 ·exact JN.refl A
end Go.Mw
namespace Go.Mw
open Go.RowKit
theorem JN.nil (A:JE)(s o:Nat)(e:TypeId)(k:Nat)(hs:A.get s=.raw (.slice none 0 0))(ho:A.obj o=none)(hk:0<k)(hN:1000≤o) :
  JN A (A.put [.slot s (.leaf (.own o 0 0 0)),.obj o (.arr e k [])]):=by
 intro P C a w ⟨S,M,ι,hR⟩
 have hv:=hR.tms s
 rw [hs] at hv
 have hv:=Qm (Jl hv)
 have hon:Qu ι A o w w:=⟨rfl,rfl,rfl,Nat.le_refl _,fun _ _ _=>rfl⟩
 have ht:Qx ι A o (.arr e k []) (.slice none 0 0):=JAi ho _ _
 have hpin:C.pin o=none:=by
  cases hp:C.pin o with
  |none=>rfl
  |some q=>have:=hR.pinN o (by rw [hp];simp);omega
 have h1:=hR.chg hon ht ⟨[],by rw [upd_same];exact World.ownsRow_nil w 0 e k,by trivial,by simp,hk,fun b hb=>by rw [upd_same] at hb;simp [blk] at hb⟩ (fun b hb=>by simp [blk] at hb) (by simp) fun _=>hpin
 refine ⟨S,_,_,{ h1 with tms:=fun t=>?_ }⟩
 by_cases hts:t=s
 ·subst hts
  show Jk S (upd ι o (.slice none 0 0)) (A.put [.obj o (.arr e k [])]).obj w ((look ((t,AV.leaf (.own o 0 0 0))::A.tm) t).getD .dead) _
  simp only [look,if_true,Option.getD_some]
  rw [hv]
  exact Qk ⟨rfl,e,k,[],ZW _ _ _,Nat.le_refl _,fun _=>⟨Nat.le_refl _,by rw [upd_same];exact JAj.tip (World.ownsRow_nil w 0 e k)⟩⟩
 ·have:=h1.tms t
  show Jk S (upd ι o (.slice none 0 0)) (A.put [.obj o (.arr e k [])]).obj w ((look ((s,AV.leaf (.own o 0 0 0))::A.tm) t).getD .dead) _
  simp only [look,if_neg hts]
  exact this
theorem JJn {S:Jc}{ι ι':Nat→Value}{H H':Nat→Option AO}{w:World}:∀ {ls:List AL} {vs:List Value},(J6 ls).isSome=true→JS (Jd S ι H w) ls vs→JS (Jd S ι' H' w) ls vs
 |[],[],_,_=>trivial
 |[],_::_,_,h=>h.elim
 |_::_,[],_,h=>h.elim
 |.d x::ls,v::vs,hp,h=>by
  refine ⟨h.1,JJn ?_ h.2⟩
  simp only [J6] at hp
  cases hq:J6 ls<;>simp_all
 |.ptr _ _::_,_::_,hp,_=>by simp [J6] at hp
 |.eptr _ _ _ _::_,_::_,hp,_=>by simp [J6] at hp
 |.own _ _ _ _::_,_::_,hp,_=>by simp [J6] at hp
 |.obj _::_,_::_,hp,_=>by simp [J6] at hp
 |.fpt _::_,_::_,hp,_=>by simp [J6] at hp
 |.csl _ _ _::_,_::_,hp,_=>by simp [J6] at hp
 |.dead::_,_::_,hp,_=>by simp [J6] at hp
theorem WkP.refl {ag:Bool}{ls:List AL}(h:(J6 ls).isSome=true):WkP (.val ag ls) (.val ag ls):=by
 intro S ι H w v hr
 cases ag with
 |true=>obtain ⟨vs,hv,ha⟩:=hr;exact ⟨vs,hv,JJn h ha⟩
 |false=>
  obtain ⟨l,rfl,ha⟩:=hr
  exact ⟨l,rfl,(JJn (ls:=[l]) (vs:=[v]) (ι:=ι) (H:=H) h ⟨ha,trivial⟩).1⟩
theorem WkP.nil (k:Nat):WkP (.raw (.slice none 0 0)) (.leaf (.d (.sl k []))):=by
 intro S ι H w v hr
 have:=Qm (Jl hr)
 subst this
 exact ⟨_,rfl,RepD.nil k none 0⟩
theorem JNh {ns:List Nat}{r:Nat→Nat}:∀ {ls:List AL},(J6 ls).isSome=true→ls.map (AL.ren r)=ls∧ls.all (AL.inn ns)=true
 |[],_=>⟨rfl,rfl⟩
 |.d x::ls,hp=>by
  have hq:(J6 ls).isSome=true:=by
   simp only [J6] at hp
   cases hq:J6 ls<;>simp_all
  obtain ⟨h1,h2⟩:=JNh (ns:=ns) (r:=r) hq
  refine ⟨by simp [AL.ren,h1],?_⟩
  rw [List.all_cons,h2];rfl
 |.ptr _ _::_,hp=>by simp [J6] at hp
 |.eptr _ _ _ _::_,hp=>by simp [J6] at hp
 |.own _ _ _ _::_,hp=>by simp [J6] at hp
 |.obj _::_,hp=>by simp [J6] at hp
 |.fpt _::_,hp=>by simp [J6] at hp
 |.csl _ _ _::_,hp=>by simp [J6] at hp
 |.dead::_,hp=>by simp [J6] at hp
theorem Jj.pure {r:Nat→Nat}{ns:List Nat}{ag:Bool}{ls:List AL}(h:(J6 ls).isSome=true):Jj r ns (.val ag ls) (.val ag ls):=by
 obtain ⟨h1,h2⟩:=JNh (ns:=ns) (r:=r) h
 refine ⟨h2,fun S ι H w v hr=>?_⟩
 show Qv S ι H w ag (ls.map (AL.ren r)) v
 rw [h1];exact hr
theorem Jj.of {r:Nat→Nat}{ns:List Nat}{x y:AV}(h:y.inn ns=true)(e:y.ren r=x):Jj r ns x y:=⟨h,fun S ι H w v hr=>by rw [e];exact hr⟩
theorem Jj.nil {r:Nat→Nat}{ns:List Nat}(k:Nat):Jj r ns (.raw (.slice none 0 0)) (.leaf (.d (.sl k []))):=by
 refine ⟨rfl,fun S ι H w v hr=>?_⟩
 have:=Qm (Jl hr)
 subst this
 exact ⟨_,rfl,RepD.nil k none 0⟩
theorem Jj.dead {r:Nat→Nat}{ns:List Nat}(x:AV):Jj r ns x .dead:=⟨rfl,fun _ _ _ _ _ _=>trivial⟩
attribute [go_sem] FL.keep FL.ren FL.frz FL.frzf AL.keep AV.keep AO.keep JAg AL.frz AL.frzc AL.frzf AV.mapL AO.mapL JBu JA4 AL.ren AV.ren AO.ren JE.settle
@[go_sem] theorem JXY (tm:List (Nat × AV))(ob:List (Nat × AO))(bh:Jh)(ss os:List Nat):(JE.mk tm ob bh).keep ss os=⟨ss.map fun s=>(s,((look tm s).getD .dead).keep os),JAg (JE.mk tm ob bh) os os,bh⟩:=rfl
@[go_sem] theorem JXj (tm:List (Nat × AV))(ob:List (Nat × AO))(bh:Jh)(ss:List Nat):(JE.mk tm ob bh).lim ss=⟨ss.map fun s=>(s,(look tm s).getD .dead),ob,bh⟩:=rfl
def JAM:Nat→List AV→List (Nat × AV)
 |_,[]=>[]
 |n,x::r=>(n,x)::JAM (n+1) r
theorem JHY:∀ {xs:List AV} {n s:Nat},look (JAM n xs) s=if n≤s then xs[s-n]? else none
 |[],n,s=>by simp [JAM,look]
 |x::xs,n,s=>by
  simp only [JAM,look,JHY (xs:=xs)]
  by_cases h:s=n
  ·subst h;simp
  ·rw [if_neg h]
   by_cases h1:n≤s
   ·rw [if_pos (by omega),if_pos h1,show s-n=(s-(n+1))+1 by omega,List.getElem?_cons_succ]
   ·rw [if_neg (by omega),if_neg h1]
def Ends (P:Program)(fn:Func):Exit→JE→Prop:=fun e A=>
 (e=.normal∨e=.ret)∧∃(os:List Nat) (res0:AV),JDe P A fn.results.toList=some res0∧A.bh=.ret (res0.keep os) (JAg A os os)
section leave
variable {P:Program} {C:Ctx P} {S:Jc} {M:J7} {ι:Nat→Value} {A:JE} {a:Act} {w:World}
theorem JJD {fn:Func}{R:Ending→World→Prop}(hrd:C.rd=none):∀(rs:List Nat) (a:Act) (w:World),Jg C S M ι A a w→a.defers=rs.map mark →
  (∀a' w',Jg C S M ι A a' w' → a'.tmps=a.tmps→∃v,(results fn a.tmps).run P w'=.ok v w' ∧ R (.returned v) w')→LeavesInM Fence.wide 0 P fn a.tmps R a.defers .returning w
 |[],a,w,hR,hd,h=>by
  rw [hd]
  obtain ⟨v,h1,h2⟩:=h a w hR rfl
  exact ⟨v,h1,h2⟩
 |r::rs,a,w,hR,hd,h=>by
  obtain ⟨rs',h1,h2,h3⟩:=hR.marks
  have e:rs'=r::rs:=JJS (h1.symm.trans hd)
  subst e
  obtain ⟨hM,hheap⟩:=h3 r (by simp)
  have hlt:=(Array.getElem?_eq_some_iff.1 hheap).1
  have hcell:∀p:Addr,(w.putObj r (.deferred none)).cell? p=w.cell? p:=fun p=>by
   by_cases e:p.block=r
   ·unfold World.cell?
    rw [e,World.putObj_heap_same hlt,hheap]
   ·exact World.cell?_of_block (World.putObj_heap_other e)
  have hm:Mv S ι A.obj w S ι A.obj (w.putObj r (.deferred none)):=⟨fun _ _ h=>h.mono (fun _ _ h=>h) fun b o _=>hcell _,fun o ls h=>⟨⟨ls,h⟩,rfl⟩,fun o e k es h=>⟨es,h,Nat.le_refl _,fun _=>rfl⟩,fun b o hs=>⟨hs,hcell _⟩,fun o x h hx=>⟨⟨x,h,hx⟩,rfl⟩⟩
  have hnd:=List.nodup_cons.1 h2
  have hR':Jg C S M ι A { a with defers:=rs.map mark } (w.putObj r (.deferred none)):={
   sub:=hR.sub
   new:=hR.new
   inn:=fun b o h=>by simpa using hR.inn b o h
   minn:=fun k h=>by simpa using hR.minn k h
   sz:=hR.sz
   tms:=fun s=>hm.v (hR.tms s)
   objs:=fun o x h=>(hR.objs o x h).other hm rfl (fun k hk=>World.putObj_heap_other fun e=>by
    obtain ⟨_,_,z,hz,hd⟩:=(hR.objs o x h).blk_ge hk
    rw [e,hheap] at hz;cases hz;cases hd) fun _ _ _ h=>h
   dis:=hR.dis
   own:=hR.own
   env:=C.E.step hR.env ⟨rfl,rfl,rfl,by simp,fun b _ hb=>World.putObj_heap_other fun e=>hb (e▸hM),fun b o _=>hcell _⟩ (fun _ h=>h) (fun _ h=>.inl h) (fun _ _ h=>h) fun _ _ h=>.inl h
   tok:=hR.tok
   fixed:=hR.fixed
   marks:=⟨rs,rfl,hnd.2,fun q hq=>⟨(h3 q (by simp [hq])).1,(World.putObj_heap_other fun e=>hnd.1 (by rw [←e];exact hq)).trans (h3 q (by simp [hq])).2⟩⟩
   rdok:=fun l r h=>by rw [hrd] at h;cases h
   pinned:=hR.pinned
   pinN:=hR.pinN }
  have ih:=JJD hrd rs _ _ hR' rfl h
  rw [hd]
  exact ⟨by simp,.inl ⟨r,_,rfl,run_takeDeferred hheap,ih⟩⟩
end leave
def JJm (n:Nat)(pre:List (Nat × AO)):Bool:=pre.all fun p=>n≤p.1&&p.1<1000
theorem JRC {P:Program}(hm:P.follows .mixedOrders=true){f:FuncId}{fn:Func}{c:Code}{args:List AV}{pre:List (Nat × AO)}{b:Jh}(hf:P.funcs[f]? = some fn)(hb:fn.body=some c)
  (hn:args.length≤fn.ntmps∧fn.ntmps≤950) (hd:Y6 (fun d=>d<fn.ntmps) c=true) (hpre:JJm fn.ntmps pre=true) (h:JB P c (Ends P fn) ⟨JAM 0 args,pre,b⟩):∀(E:Env P) (S:Jc) (M:J7) (ι:Nat→Value) (w:World) (vs:List Value),(∀b o,S b o→b<w.heap.size)→(∀k,M k→k<w.heap.size) →
  (∀o x,look pre o=some x→Yw S ι (look pre) w o x) →
  (∀o o' x x' b,look pre o=some x→look pre o'=some x' → o≠o' → blk (ι o)=some b→blk (ι o')≠some b) →
  (∀o x b,look pre o=some x→blk (ι o)=some b→M b) →
  (∀o,look pre o=some .yl→ι o=.func (.yield E.l) #[] #[]) →
  JS (Jk S ι (look pre) w) args vs→E.J b S M w →
  CallsIn Fence.wide 0 P f vs.toArray w fun e w'=>∃v res obs S' M' ι',e=.returned v∧E.J (.ret res obs) S' M' w' ∧ JBb S pre ι E.l res obs v S' M' ι' w':=by
 intro E S M ι w vs hin hmin hobj hdis hown htok hargs hJ
 have hl:=hargs.length
 have hnl:=hn.1
 refine callsIn_of_wp_marks hf hb trivial ?_ rfl
 have hpin:∀q x,look pre q=some x→fn.ntmps≤q∧q<1000:=fun q x hx=>by
  obtain ⟨y,hy⟩:=JEW hx
  have:=List.all_eq_true.1 hpre _ hy
  simpa using this
 let C:Ctx P:={ E:=E,S0:=S,N:=fn.ntmps,fix:=fun _=>none,rd:=none,lim:=hn.2,pin:=fun q=>match look pre q with
  |some (.arr _ _ es)=>some (ι q,es.length)
  |some _=>some (ι q,0)
  |none=>none }
 have hpinN:∀q,C.pin q≠none→∃x,look pre q=some x:=fun q hq=>by
  cases hx:look pre q with
  |none=>exact absurd (by simp [C,hx]) hq
  |some x=>exact ⟨x,rfl⟩
 have hR:Jg C S M ι ⟨JAM 0 args,pre,b⟩ { tmps:=vs.toArray++Array.replicate (fn.ntmps-vs.toArray.size) undef,defers:=[] } w:={
  sub:=fun _ _ h=>h
  new:=fun _ _ h=>.inl h
  inn:=hin
  minn:=hmin
  sz:=by simp [C];omega
  tms:=by
   intro s
   show Jk S ι (look pre) w ((look (JAM 0 args) s).getD .dead) _
   rw [JHY,if_pos (Nat.zero_le _),Nat.sub_zero]
   cases ha:args[s]? with
   |none=>trivial
   |some x=>
    obtain ⟨v,hv,hr⟩:=hargs.get' ha
    have hs:s<vs.length:=(List.getElem?_eq_some_iff.1 hv).1
    have:(vs.toArray++Array.replicate (fn.ntmps-vs.toArray.size) undef).getD s undef=v:=by
     rw [Array.getD_eq_getD_getElem?,Array.getElem?_append_left (by simpa using hs)]
     simp [hv]
    rw [this]
    exact hr
  objs:=hobj
  dis:=hdis
  own:=hown
  env:=hJ
  tok:=htok
  fixed:=by intro s v h;cases h
  marks:=⟨[],rfl,List.nodup_nil,by simp⟩
  rdok:=by intro l r h;cases h
  pinned:=by
   intro q u n x hq hx
   have hx':look pre q=some x:=hx
   simp only [C,hx'] at hq
   cases x<;>simp only [Option.some.injEq,Prod.mk.injEq] at hq<;>obtain ⟨rfl,rfl⟩:=hq<;>first|exact ⟨Nat.le_refl _,fun _=>rfl⟩|exact rfl
  pinN:=fun q hq=>by obtain ⟨x,hx⟩:=hpinN q hq;exact hpin q x hx }
 have hcan:∀d,decide (d<fn.ntmps)=true→C.can d:=fun d hd=>by
  have hd:d<fn.ntmps:=by simpa using hd
  refine ⟨hd,rfl,?_⟩
  cases hp:C.pin d with
  |none=>rfl
  |some y=>
   obtain ⟨x,hx⟩:=hpinN d (by rw [hp];simp)
   have:=(hpin d x hx).1
   omega
 refine JA2 hm c (fun d=>d<fn.ntmps) hd C _ _ _ w hcan h ⟨S,M,ι,hR⟩ _ fun e A' a' w' hE hR'=>?_
 obtain ⟨he,os,res0,hres,hbh⟩:=hE
 obtain ⟨S',M',ι',hR'⟩:=hR'
 have hend:LeavesInM Fence.wide 0 P fn a'.tmps (fun e w'=>∃v res obs S' M' ι',e=.returned v∧E.J (.ret res obs) S' M' w' ∧ JBb S pre ι E.l res obs v S' M' ι' w') a'.defers .returning w':=by
  obtain ⟨rs,hrs,_⟩:=hR'.marks
  refine JJD rfl rs a' w' hR' hrs fun a3 w3 hR3 htm=>?_
  obtain ⟨u,hu,hr⟩:=JN0 hR3 hres
  rw [htm] at hu
  have hr:=JI8 A' [] os hr
  have hH:(A'.keep [] os).obj=look (JAg A' os os):=rfl
  have hob:∀o x,look (JAg A' os os) o=some x→∃y,A'.obj o=some y∧x=y.keep os∧Yw S' ι' (look (JAg A' os os)) w3 o x∧(x=.yl→y=.yl)∧∀u v n,y.pinned u v n→x.pinned u v n:=fun o x h=>by
   obtain ⟨y,hy,hk,hok,h1,h2⟩:=JMT A' [] os S' ι' w3 o x h
   exact ⟨y,hy,hk,hok (hR3.objs o y hy),h1,h2⟩
  refine ⟨u,hu,u,_,_,S',M',ι',rfl,hbh▸hR3.env,?_⟩
  exact {
   sub:=hR3.sub,new:=hR3.new,inn:=hR3.inn,minn:=hR3.minn,res:=hH▸hr
   objs:=fun o x h=>by obtain ⟨_,_,_,h,_⟩:=hob o x h;exact h
   dis:=fun o o' x x' b h h'=>by
    obtain ⟨y,hy,_⟩:=hob o x h
    obtain ⟨y',hy',_⟩:=hob o' x' h'
    exact hR3.dis o o' y y' b hy hy'
   own:=fun o x b h hb=>by obtain ⟨y,hy,_⟩:=hob o x h;exact hR3.own o y b hy hb
   tok:=fun o h=>by obtain ⟨y,hy,_,_,h1,_⟩:=hob o _ h;exact hR3.tok o (h1 rfl▸hy)
   same:=fun o x x' hx hx'=>by
    obtain ⟨y,hy,_,_,_,hp⟩:=hob o x' hx'
    cases x with
    |arr e k es=>
     have:=hp _ _ _ (hR3.pinned o (ι o) es.length y (by simp [C,hx]) hy)
     cases x' <;> first|exact this|trivial
    |_=>
     have:=hp _ _ _ (hR3.pinned o (ι o) 0 y (by simp [C,hx]) hy)
     cases x' <;> first|exact this|trivial }
 rcases he with rfl|rfl
 ·exact hend
 ·exact hend
def Env.desc {P:Program}(E:Env P)(b0:Jh):Env P where
 l:=E.l
 J b S M w:=E.J b S M w∧∀res obs,b.Leaf res obs→b0.Leaf res obs
 glob:=fun h=>E.glob h.1
 step:=fun h hf hM hN hS hT=>⟨E.step h.1 hf hM hN hS hT,h.2⟩
 yld:=fun {args k S M w vs} h hv=>by
  obtain ⟨fn,tmps,assign,body,hy,hR⟩:=E.yld h.1 hv
  exact ⟨fn,tmps,assign,body,hy,hR.mono fun e w' ⟨r,he,hk,hJ⟩=>⟨r,he,hk,hJ,fun res obs hl=>h.2 res obs (.yld r hl)⟩⟩
theorem Js {P:Program}(hm:P.follows .mixedOrders=true){f:FuncId}{fn:Func}{c:Code}{args:List AV}{pre:List (Nat × AO)}{b:Jh}(hf:P.funcs[f]? = some fn)(hb:fn.body=some c)
  (hn:args.length≤fn.ntmps∧fn.ntmps≤950) (hd:Y6 (fun d=>d<fn.ntmps) c=true) (hpre:JJm fn.ntmps pre=true) (h:JB P c (Ends P fn) ⟨JAM 0 args,pre,b⟩):Qq P f args pre b:=by
 intro E S M ι w vs hin hmin hobj hdis hown htok hargs hJ
 refine (JRC hm hf hb hn hd hpre h (E.desc b) S M ι w vs hin hmin hobj hdis hown htok hargs ⟨hJ,fun _ _ h=>h⟩).mono fun e w' h=>?_
 obtain ⟨v,res,obs,S',M',ι',he,⟨hJ',hl⟩,hp⟩:=h
 exact ⟨v,res,obs,S',M',ι',he,hl res obs (.ret res obs),hJ',hp⟩
end Go.Mw
namespace Go.Mw
theorem JN.wk {A:JE}{s:Nat}(v:AV)(h:Wk (A.get s) v):JN A (A.put [.slot s v]):=by
 refine JCF (fun S ι w q u hr=>?_) fun S ι w o x' h=>⟨x',h,fun h=>h,fun h=>h,fun _ _ _ h=>h⟩
 by_cases hq:q=s
 ·subst hq
  have:(A.put [.slot q v]).get q=v:=by simp [JE.put,JE.put1,JE.get,look]
  rw [this]
  exact h _ _ _ _ _ hr
 ·have:(A.put [.slot s v]).get q=A.get q:=by simp [JE.put,JE.put1,JE.get,look,hq]
  rw [this];exact hr
theorem Wk.nil (k:Nat):Wk (.raw (.slice none 0 0)) (.leaf (.d (.sl k []))):=by
 intro S ι H w v h
 obtain ⟨l,hl,hr⟩:=h
 simp at hl;subst hl
 cases hr
 exact ⟨_,rfl,RepD.nil k none 0⟩
theorem JN.nild {A:JE}(s k:Nat)(hs:A.get s=.raw (.slice none 0 0)):JN A (A.put [.slot s (.leaf (.d (.sl k [])))]):=JN.wk _ (by rw [hs];exact Wk.nil k)
def JHL (tm:List (Nat × AV))(ob:List (Nat × AO))(bh:Jh)(o:Nat):Option AO→JE
 |some (.arr _ k es)=>⟨JBu (AL.frz o k es) tm,JA4 o (AL.frz o k es) ob,bh⟩
 |some (.cells ls)=>match J6 ls with
  |some ds=>⟨JBu (AL.frzc o ds) tm,JA4 o (AL.frzc o ds) ob,bh⟩
  |none=>⟨tm,ob,bh⟩
 |some (.clo f ls)=>match J6 ls with
  |some ds=>⟨JBu (AL.frzf o (.fn f ds)) tm,JA4 o (AL.frzf o (.fn f ds)) ob,bh⟩
  |none=>⟨tm,ob,bh⟩
 |_=>⟨tm,ob,bh⟩
attribute [go_sem] JHL
@[go_sem] theorem JXW (tm:List (Nat × AV))(ob:List (Nat × AO))(bh:Jh)(o:Nat):(JE.mk tm ob bh).frz o=JHL tm ob bh o (look ob o):=by
 unfold JE.frz
 simp only [JE.obj,JE.settle]
 cases h:look ob o with
 |none=>rfl
 |some x=>cases x<;>first|rfl|(rename_i ls;cases hp:J6 ls<;>simp [JHL,hp])|(rename_i f ls;cases hp:J6 ls<;>simp [JHL,hp])
section steps
variable {P:Program} {ops:Array Oper} {Φ:JE→Prop} {r:List Oper} {A A' B:JE}
theorem JA.op {o:Oper}{rs:List Loc}{ws:List Wr}(h:Z7 P ops o A=some (rs,ws))(hp:A.put ws=A')(h':JA P ops Φ r A'):JA P ops Φ (o::r) A:=.eff rs ws h (hp▸h')
theorem JA.gop {dst:Nat}{op:Op}{ty:TypeId}{pos:String}{af:Array Edge}{g:Nat × Bool}{b:Bool}{rs:List Loc}{v:AV}(hw:J5 ops (some g) A=some b)
  (h:(Qg P op (some dst)).runS b A (Qt ops ⟨some dst,op,ty,pos,af,some g⟩)=some (rs,[.slot dst v])) (hp:A.put [.slot dst (.cnd b v)]=A') (h':JA P ops Φ r A') :
  JA P ops Φ (⟨some dst,op,ty,pos,af,some g⟩::r) A:=.geff b rs dst v rfl hw h (hp▸h')
theorem JA.skp {dst:Nat}{op:Op}{ty:TypeId}{pos:String}{af:Array Edge}{g:Nat × Bool}(hw:J5 ops (some g) A=some false)(hp:A.put [.slot dst (.tup [])]=A')(h':JA P ops Φ r A') :
  JA P ops Φ (⟨some dst,op,ty,pos,af,some g⟩::r) A:=
 .eff (Qt ops ⟨some dst,op,ty,pos,af,some g⟩) [.slot dst (.tup [])] (by unfold Z7;rw [show J5 ops (Oper.mk (some dst) op ty pos af (some g)).guard A=some false from hw];rfl) (hp▸h')
theorem JA.yes {dst:Option Nat}{op:Op}{ty:TypeId}{pos:String}{af:Array Edge}{g:Nat × Bool}{rs:List Loc}{ws:List Wr}(hw:J5 ops (some g) A=some true)
  (h:(Qg P op dst).run A (Qt ops ⟨dst,op,ty,pos,af,some g⟩)=some (rs,ws)) (hp:A.put ws=A') (h':JA P ops Φ r A') :
  JA P ops Φ (⟨dst,op,ty,pos,af,some g⟩::r) A:=
 .eff rs ws (by unfold Z7;rw [show J5 ops (Oper.mk dst op ty pos af (some g)).guard A=some true from hw];exact h) (hp▸h')
theorem JA.cal {d:Nat}{g:FuncId}{as:List Operand}{tys:Array TypeId}{ty:TypeId}{pos:String}{af:Array Edge}{args:List AV}{res:AV}{obs:List (Nat × AO)}{vs:List AV}
  (hc:Jb P g args res obs) (hcan:JO P g=true) (hv:as.map A.ev=vs) (hwk:JS (Jj (rn [] (1000*(d+1))) []) vs args) (hfr:∀q x,look obs q=some x→A.obj (1000*(d+1)+q)=none)
  (hp:A.put (obs.reverse.map (fun p=>.obj (1000*(d+1)+p.1) (p.2.ren (1000*(d+1) + ·)))++[.slot d (res.ren (1000*(d+1) + ·))])=A') (h':JA P ops Φ r A') :
  JA P ops Φ (⟨some d,.call { callee:=.value (.func g),args:=as.toArray,argTypes:=tys },ty,pos,af,none⟩::r) A:=
 .call _ rfl ⟨d,.func g,as,g,[],args,res,obs,rfl,by simp [Yy],rfl,hcan,by simpa [hv] using hwk,hc,hfr,rfl⟩ (hp▸h')
theorem JA.gcal {d:Nat}{g:FuncId}{as:List Operand}{tys:Array TypeId}{ty:TypeId}{pos:String}{af:Array Edge}{gd:Nat × Bool}{b:Bool}{args:List AV}{res:AV}{vs:List AV}
  (hw:J5 ops (some gd) A=some b) (hc:Jb P g args res []) (hcan:JO P g=true) (hv:as.map (A.strip b).ev=vs) (hwk:JS (Jj (rn [] (1000*(d+1))) []) vs args)
  (hp:A.put [.slot d (.cnd b (res.ren (1000*(d+1) + ·)))]=A') (h':JA P ops Φ r A') :
  JA P ops Φ (⟨some d,.call { callee:=.value (.func g),args:=as.toArray,argTypes:=tys },ty,pos,af,some gd⟩::r) A:=
 .gcall b d _ rfl hw ⟨d,.func g,as,g,[],args,res,[],rfl,by simp [Yy],rfl,hcan,by simpa [hv] using hwk,hc,by simp [look],rfl⟩ (hp▸h')
theorem JA.yld {d c:Nat}{f:Operand}{as:List Operand}{tys:Array TypeId}{ty:TypeId}{pos:String}{af:Array Edge}{args vs:List AV}{k:Bool→Jh}
  (hf:A.ev f=.leaf (.obj c)) (hc:A.obj c=some .yl) (hv:as.map A.ev=vs) (hwk:JS WkP vs args) (hbh:A.bh=.yld args k)
  (h':∀t,JA P ops Φ r ⟨(d,.bool t)::A.tm,A.ob,k t⟩):JA P ops Φ (⟨some d,.call { callee:=.value f,args:=as.toArray,argTypes:=tys },ty,pos,af,none⟩::r) A:=
 .yl (f:=f) (as:=as) rfl rfl (by simp [Yy]) hf hc (by rw [hv];exact hwk) hbh h'
theorem JA.gho {l:List Oper}(h:JN A B)(hp:B=A')(h':JA P ops Φ l A'):JA P ops Φ l A:=.ghost h (hp▸h')
theorem JA.keep {l:List Oper}(ss os:List Nat)(hp:A.keep ss os=A')(h':JA P ops Φ l A'):JA P ops Φ l A:=.ghost (JN.keep A ss os) (hp▸h')
theorem JA.frz {l:List Oper}(o:Nat)(hp:A.frz o=A')(h':JA P ops Φ l A'):JA P ops Φ l A:=.ghost (JN.frz A o) (hp▸h')
theorem JA.nild {l:List Oper}(s k:Nat)(hs:A.get s=.raw (.slice none 0 0))(hp:A.put [.slot s (.leaf (.d (.sl k [])))]=A')(h':JA P ops Φ l A'):JA P ops Φ l A:=
 .ghost (JN.nild s k hs) (hp▸h')
theorem JA.nilo {l:List Oper}(s o:Nat)(e:TypeId)(k:Nat)(hs:A.get s=.raw (.slice none 0 0))(ho:A.obj o=none)(hk:0<k)(hN:1000≤o)(hp:A.put [.slot s (.leaf (.own o 0 0 0)),.obj o (.arr e k [])]=A')(h':JA P ops Φ l A'):JA P ops Φ l A:=
 .ghost (JN.nil A s o e k hs ho hk hN) (hp▸h')
end steps
section code
variable {P:Program} {Φ:Exit→JE→Prop} {A:JE}
theorem JB.reg1 {id:Nat}{ops:Array Oper}(h:JA P ops (Φ .normal) ops.toList A):JB P (.region id ops false) Φ A:=.inl h
theorem JA.mono {ops:Array Oper}{Φ Ψ:JE→Prop}(hm:∀A,Φ A→Ψ A){l:List Oper}{A:JE}(h:JA P ops Φ l A):JA P ops Ψ l A:=by
 induction h with
 |nil h=>exact .nil (hm _ h)
 |eff rs ws h _ ih=>exact .eff rs ws h ih
 |call ws hw h _ ih=>exact .call ws hw h ih
 |geff b rs d v ho hw h _ ih=>exact .geff b rs d v ho hw h ih
 |gcall b d v ho hw h _ ih=>exact .gcall b d v ho hw h ih
 |cally hdst hw hop hf hcan hwk hcon hok hbh _ ih=>exact .cally hdst hw hop hf hcan hwk hcon hok hbh ih
 |inv hdst hw hop hf hmeth hcan hwk hcon hok hbh _ ih=>exact .inv hdst hw hop hf hmeth hcan hwk hcon hok hbh ih
 |yl hdst hw hop hf hc hwk hbh _ ih=>exact .yl hdst hw hop hf hc hwk hbh ih
 |ghost h _ ih=>exact .ghost h ih
 |sem hw h _ ih=>exact .sem hw h ih
theorem JB.reg {id:Nat}{ops:Array Oper}{y:Code}(h:JA P ops (fun B=>JB P y Φ B) ops.toList A):JB P (.seq (.region id ops false) y) Φ A:=.inl (JA.mono (fun A h=>⟨A,JN.refl A,h⟩) h)
theorem JDr.mono {ops:Array Oper}{Φ Ψ:Value→JE→Prop}(hm:∀v A,Φ v A→Ψ v A){A:JE}:JDr P ops Φ A→JDr P ops Ψ A:=fun ⟨pv,l1,o,l2,e,h⟩=>⟨pv,l1,o,l2,e,JA.mono (fun _ h=>⟨h.1,hm _ _ h.2⟩) h⟩
theorem JDq.mono {ops:Array Oper}{Φ Ψ:Value→JE→Prop}(hm:∀v A,Φ v A→Ψ v A){A:JE}:JDq P ops Φ A→JDq P ops Ψ A:=fun ⟨pv,n,p,o,fs,B,rs,h1,h2,h3,h4,h5,h6,h7,h8⟩=>⟨pv,n,p,o,fs,B,rs,h1,h2,h3,h4,h5,h6,h7,hm _ _ h8⟩
theorem JB.mono {P:Program}:∀(c:Code) {Φ Ψ:Exit→JE→Prop} {A:JE},(∀e A,Φ e A→Ψ e A)→JB P c Φ A→JB P c Ψ A
 |.skip,_,_,_,hm,h=>hm _ _ h
 |.region _ _ false,_,_,_,hm,h=>h.imp (JA.mono (hm _)) (JDr.mono fun _=>hm _)
 |.region _ _ true,_,_,_,hm,.inl ⟨A',hg,.inl ⟨n,fs,B,h1,h2,h3,h4,B',hg',h5⟩⟩=>.inl ⟨A',hg,.inl ⟨n,fs,B,h1,h2,h3,h4,B',hg',hm _ _ h5⟩⟩
 |.region _ _ true,_,_,_,hm,.inl ⟨A',hg,.inr ⟨n,p,op,fs,B,K,h1,h2,h3,h4,h5,h6,h7,h8,h9,h10⟩⟩=>.inl ⟨A',hg,.inr ⟨n,p,op,fs,B,K,h1,h2,h3,h4,h5,h6,h7,h8,h9,fun B' hk=>let ⟨B2,hg2,hh⟩:=h10 B' hk;⟨B2,hg2,hm _ _ hh⟩⟩⟩
 |.region _ _ true,_,_,_,hm,.inr ⟨A',hg,h⟩=>.inr ⟨A',hg,h.mono fun _=>hm _⟩
 |.seq x y,_,_,_,hm,h=>JB.mono x (fun e A h=>by cases e<;>first|(obtain ⟨B,hg,h⟩:=h;exact ⟨B,hg,JB.mono y hm h⟩)|exact hm _ _ h) h
 |.cond _ x y,_,_,_,hm,⟨b,hb,h1,h2⟩=>⟨b,hb,fun e=>JB.mono x hm (h1 e),fun e=>JB.mono y hm (h2 e)⟩
 |.block i x,_,_,_,hm,h=>JB.mono x (fun e A h=>by
   cases e with
   |exit j=>
    simp only at h ⊢
    split
    ·rename_i hj;rw [if_pos hj] at h;exact hm _ _ h
    ·rename_i hj;rw [if_neg hj] at h;exact hm _ _ h
   |_=>exact hm _ _ h) h
 |.loop x,_,_,_,hm,⟨I,h0,hr⟩=>⟨I,h0,fun n A1 h=>JB.mono x (fun e A h=>by cases e<;>first|exact h|exact hm _ _ h) (hr n A1 h)⟩
 |.exit _,_,_,_,hm,h=>hm _ _ h
 |.ret,_,_,_,hm,h=>hm _ _ h
 |.rangeFunc g ps x y,_,_,_,hm,h=>by
  obtain ⟨gf,ds,args,T,b0,tm,ob,bh,X,h1,h2,h3,h4,h5,h6,h7,h8,h9⟩:=h
  refine ⟨gf,ds,args,T,b0,tm,ob,bh,X,h1,h2,h3,h4,h5,h6,h7,fun vals k hx=>⟨(h8 vals k hx).1,JB.mono x (fun e A h=>⟨h.1,JB.mono y (fun e A h=>?_) h.2⟩) (h8 vals k hx).2⟩,fun res obs hx=>hm _ _ (h9 res obs hx)⟩
  cases e with
  |normal=>exact h
  |ret=>exact ⟨h.1,hm _ _ h.2⟩
  |exit i=>exact ⟨h.1,hm _ _ h.2⟩
  |_=>exact h
 |.label _,_,_,_,hm,h=>hm _ _ h
 |.scope x,_,_,_,hm,h=>JB.mono x (fun e A h=>by cases e<;>first|exact h|exact hm _ _ h) h
 |.goto _,_,_,_,_,h=>h.elim
 |.refuse _,_,_,_,_,h=>h.elim
theorem JB.assocS {x y z:Code}(h:JB P (.seq x (.seq y z)) Φ A):JB P (.seq (.seq x y) z) Φ A:=
 JB.mono x (fun e A h=>by cases e<;>exact h) h
theorem JB.cnd {c:Operand}{x y:Code}{b:Bool}(hb:asBool (A.ev c)=some b)(h1:b=true→JB P x Φ A)(h2:b=false→JB P y Φ A):JB P (.cond c x y) Φ A:=⟨b,hb,h1,h2⟩
theorem JB.cndS {c:Operand}{x y z:Code}{b:Bool}(hb:asBool (A.ev c)=some b)(h1:b=true→JB P (.seq x z) Φ A)(h2:b=false→JB P (.seq y z) Φ A):JB P (.seq (.cond c x y) z) Φ A:=⟨b,hb,h1,h2⟩
theorem JB.skipS {y:Code}(h:JB P y Φ A):JB P (.seq .skip y) Φ A:=⟨A,JN.refl A,h⟩
theorem JB.retS {y:Code}(h:Φ .ret A):JB P (.seq .ret y) Φ A:=h
def Qp (id:Nat)(Φ:Exit→JE→Prop):Exit→JE→Prop:=fun e A=>match e with |.exit j=>if j=id then Φ .normal A else Φ (.exit j) A|e=>Φ e A
theorem JB.blk1 {id:Nat}{x:Code}(h:JB P x (Qp id Φ) A):JB P (.block id x) Φ A:=h
theorem Qp.nrm {id:Nat}(h:Φ .normal A):Qp id Φ .normal A:=h
theorem Qp.ret {id:Nat}(h:Φ .ret A):Qp id Φ .ret A:=h
theorem Qp.hit {id:Nat}(h:Φ .normal A):Qp id Φ (.exit id) A:=by show (if id=id then _ else _);rw [if_pos rfl];exact h
theorem JB.exitS {y:Code}{i:Nat}(h:Φ (.exit i) A):JB P (.seq (.exit i) y) Φ A:=h
end code
def JR (P:Program)(id:Nat)(y:Code)(Φ:Exit→JE→Prop):Exit→JE→Prop:=fun e A=>match e with
 |.normal=>JB P y Φ A
 |.exit j=>if j=id then JB P y Φ A else Φ (.exit j) A
 |e=>Φ e A
theorem JB.blk {P:Program}{Φ:Exit→JE→Prop}{A:JE}{id:Nat}{x y:Code}(h:JB P x (JR P id y Φ) A):JB P (.seq (.block id x) y) Φ A:=by
 refine JB.mono x (fun e A h=>?_) h
 cases e with
 |exit j=>
  simp only [JR] at h ⊢
  split
  ·rename_i hj;rw [if_pos hj] at h;exact ⟨A,JN.refl A,h⟩
  ·rename_i hj;rw [if_neg hj] at h;exact h
 |normal=>exact ⟨A,JN.refl A,h⟩
 |_=>exact h
def Zq {σ:Type}(S:σ→JE)(X:σ→Prop)(Φ:Exit→JE→Prop):Exit→JE→Prop:=fun e A=>match e with
 |.normal=>∃t,X t∧JN A (S t)
 |e=>Φ e A
theorem JB.joinS {P:Program}{Φ:Exit→JE→Prop}{A:JE}{x y:Code}{σ:Type}(S:σ→JE)(X:σ→Prop)(h1:JB P x (Zq S X Φ) A)(h2:∀t,X t→JB P y Φ (S t)):JB P (.seq x y) Φ A:=by
 refine JB.mono x (fun e A h=>?_) h1
 cases e with
 |normal=>obtain ⟨t,hx,hg⟩:=h;exact ⟨_,hg,h2 t hx⟩
 |_=>exact h
theorem Zq.nrm {σ:Type}{S:σ→JE}{X:σ→Prop}{Φ:Exit→JE→Prop}{A:JE}(t:σ)(h1:X t)(h2:JN A (S t)):Zq S X Φ .normal A:=⟨t,h1,h2⟩
theorem Zq.ext {σ:Type}{S:σ→JE}{X:σ→Prop}{Φ:Exit→JE→Prop}{A:JE}{j:Nat}(h:Φ (.exit j) A):Zq S X Φ (.exit j) A:=h
theorem Zq.ret {σ:Type}{S:σ→JE}{X:σ→Prop}{Φ:Exit→JE→Prop}{A:JE}(h:Φ .ret A):Zq S X Φ .ret A:=h
theorem JR.nrm {P:Program}{Φ:Exit→JE→Prop}{A:JE}{id:Nat}{y:Code}(h:JB P y Φ A):JR P id y Φ .normal A:=h
theorem JR.hit {P:Program}{Φ:Exit→JE→Prop}{A:JE}{id:Nat}{y:Code}(h:JB P y Φ A):JR P id y Φ (.exit id) A:=by
 show (if id=id then _ else _);rw [if_pos rfl];exact h
theorem JR.ret {P:Program}{Φ:Exit→JE→Prop}{A:JE}{id:Nat}{y:Code}(h:Φ .ret A):JR P id y Φ .ret A:=h
def JU (N:Nat)(St:Nat→JE)(X:Nat→Prop)(k:Nat)(Φ:Exit→JE→Prop):Exit→JE→Prop:=fun e A=>match e with
 |.normal=>k<N∧JN A (St (k+1))∧X (k+1)
 |e=>Φ e A
theorem JB.for {P:Program}{Φ:Exit→JE→Prop}{A:JE}{body:Code}(N:Nat)(St:Nat→JE)(X:Nat→Prop)(hg:JN A (St 0))(h0:X 0)
  (hr:∀k,k≤N→X k→JB P body (JU N St X k Φ) (St k)):JB P (.loop body) Φ A:=by
 refine ⟨fun n A1=>∃k,k≤N∧n=N-k∧A1=St k∧X k,⟨N,St 0,hg,0,Nat.zero_le _,rfl,rfl,h0⟩,fun n A1 ⟨k,hk,hn,hA,hX⟩=>?_⟩
 subst hA
 refine JB.mono body (fun e A2 h=>?_) (hr k hk hX)
 cases e with
 |normal=>
  obtain ⟨hlt,hg,hX'⟩:=h
  exact ⟨N-(k+1),St (k+1),by omega,hg,k+1,by omega,rfl,rfl,hX'⟩
 |_=>exact h
theorem JU.nxt {N:Nat}{St:Nat→JE}{X:Nat→Prop}{k:Nat}{Φ:Exit→JE→Prop}{A:JE}(h1:k<N)(h2:JN A (St (k+1)))(h3:X (k+1)):JU N St X k Φ .normal A:=⟨h1,h2,h3⟩
theorem JU.ext {N:Nat}{St:Nat→JE}{X:Nat→Prop}{k:Nat}{Φ:Exit→JE→Prop}{A:JE}{j:Nat}(h:Φ (.exit j) A):JU N St X k Φ (.exit j) A:=h
theorem JU.ret {N:Nat}{St:Nat→JE}{X:Nat→Prop}{k:Nat}{Φ:Exit→JE→Prop}{A:JE}(h:Φ .ret A):JU N St X k Φ .ret A:=h
theorem JB.forA {P:Program}{Φ:Exit→JE→Prop}{A:JE}{body:Code}(ss os:List Nat)(N:Nat)(upd:Nat→List Wr)(X:Nat→Prop){St:Nat→JE}(hst:∀k,(A.put (upd k)).keep ss os=St k)(hg:A.keep ss os=St 0)(h0:X 0)
  (hr:∀k,k≤N→X k→JB P body (JU N St X k Φ) (St k)):JB P (.loop body) Φ A:=JB.for N St X (hg▸JN.keep A ss os) h0 hr
theorem JN.kp {A B:JE}(ss os:List Nat)(h:A.keep ss os=B):JN A B:=h▸JN.keep A ss os
theorem YX {A:JE}{B:Nat}:∀q x,look ([]:List (Nat × AO)) q=some x→A.obj (B+q)=none:=by intro q x h;simp [look] at h
theorem fr1 {A:JE}{B n:Nat}{y:AO}(h:A.obj (B+n)=none):∀q x,look [(n,y)] q=some x→A.obj (B+q)=none:=by
 intro q x hq
 by_cases e:q=n
 ·subst e;exact h
 ·simp [look,e] at hq
theorem Ends.fin {P:Program}{fn:Func}{A:JE}(os:List Nat){rs:List ResultVar}{res0:AV}(hrs:fn.results=rs.toArray)(h:JDe P A rs=some res0)(h1:A.bh=.ret (res0.keep os) (JAg A os os)) :
  Ends P fn .ret A:=⟨.inr rfl,os,res0,by rw [hrs];exact h,h1⟩
theorem Ends.fin0 {P:Program}{fn:Func}{A:JE}(os:List Nat){rs:List ResultVar}{res0:AV}(hrs:fn.results=rs.toArray)(h:JDe P A rs=some res0)(h1:A.bh=.ret (res0.keep os) (JAg A os os)) :
  Ends P fn .normal A:=⟨.inl rfl,os,res0,by rw [hrs];exact h,h1⟩
attribute [go_sem] JEf JCz JBJ JDe JAM after rn Ql Jh.bind JNo
attribute [go_sem] Ev.runS JE.strip J5
attribute [go_sem] List.tail_cons List.length_set Bool.and_true Bool.and_false Bool.true_and Bool.false_and Nat.zero_add List.contains_cons List.contains_nil Nat.reduceBEq Bool.true_or Bool.false_or Bool.or_true Bool.or_false beq_self_eq_true Bool.false_eq_true if_true if_false
attribute [go_sem] Nat.reduceEqDiff Nat.reduceAdd Nat.reduceLeDiff Nat.reduceMul Nat.reduceSub
attribute [go_sem] Option.getD_some Option.getD_none Option.bind_some Option.map_some List.length_map List.length_cons List.length_nil List.drop_zero List.drop_succ_cons List.take_succ_cons List.take_zero List.map_cons List.map_nil or_true true_or and_self and_true true_and
 List.getElem?_toArray List.getElem?_cons_zero List.getElem?_cons_succ List.cons_append List.nil_append List.append_nil List.reverse_cons List.reverse_nil List.zip_cons_cons List.zip_nil_right List.zip_nil_left Int.toNat_natCast List.length_append
 Bool.cond_true Bool.cond_false Bool.not_true Bool.not_false List.getElem?_map List.all_cons List.all_nil reduceIte ite_true ite_false JE.ev Bool.cond_false_right Bool.cond_true_left List.length_replicate List.take_length
end Go.Mw
namespace Go.Mw
section lists
variable {α:Type} {l:List α} {p:α→Bool} {k:Nat} {s:α}
theorem JVJ (hs:l[k]? = some s):l.take (k+1)=l.take k++[s]:=by rw [List.take_succ,hs];rfl
theorem JE3 (h:(l.take k).any p=false)(hs:l[k]? = some s)(hp:p s=false):(l.take (k+1)).any p=false:=by
 rw [JVJ hs,List.any_append,h];simp [hp]
theorem JFa (h:(l.take k).any p=false)(hs:l[k]? = some s)(hp:p s=true):l.findIdx? p=some k:=by
 obtain ⟨hk,rfl⟩:=List.getElem?_eq_some_iff.1 hs
 rw [List.findIdx?_eq_some_iff_getElem]
 refine ⟨hk,hp,fun j hj=>?_⟩
 have:=List.any_eq_false.1 h (l[j]'(by omega)) (by rw [List.mem_take_iff_getElem];exact ⟨j,by omega,rfl⟩)
 simpa using this
theorem JFb (h:(l.take k).any p=false)(hk:l.length≤k):l.findIdx? p=none:=by
 rw [List.findIdx?_eq_none_iff]
 intro x hx
 rw [List.take_of_length_le hk] at h
 simpa using List.any_eq_false.1 h x hx
def JCG (o:Option Nat):Int:=match o with
 |none=>-1
 |some n=>n
theorem JMR {o:Option Nat}:decide (JCG o≥0)=o.isSome:=by
 cases o with
 |none=>rfl
 |some n=>simp [JCG]
theorem JL8:(l.findIdx? p).isSome=l.any p:=by
 cases h:l.findIdx? p with
 |none=>
  rw [List.findIdx?_eq_none_iff] at h
  symm
  rw [Option.isSome_none,List.any_eq_false]
  exact fun x hx=>by simp [h x hx]
 |some i=>
  rw [List.findIdx?_eq_some_iff_getElem] at h
  obtain ⟨hi,hp,_⟩:=h
  symm
  rw [Option.isSome_some,List.any_eq_true]
  exact ⟨_,List.getElem_mem hi,hp⟩
theorem Yj (h:decide ((k:Int)<(l.length:Int))=true):∃s,l[k]? = some s:=by
 have:k<l.length:=by simpa using h
 exact ⟨_,List.getElem?_eq_getElem this⟩
theorem Yk (h:decide ((k:Int)<(l.length:Int))=true):k<l.length:=by simpa using h
theorem Yo (h:decide ((k:Int)<(l.length:Int))=false):l.length≤k:=by simpa using h
end lists
theorem JAf {c:Prop}[Decidable c](h:c){x y:Ev}{A:JE}{acc:List Loc}{r:Option (List Loc × List Wr)}(h':x.run A acc=r):(if c then x else y).run A acc=r:=by rw [if_pos h];exact h'
section eqs
theorem Q8 {tm tm':List (Nat × AV)}{ob ob':List (Nat × AO)}{bh bh':Jh}(h1:tm=tm')(h2:ob=ob')(h3:bh=bh'):JE.mk tm ob bh=JE.mk tm' ob' bh':=by rw [h1,h2,h3]
theorem Q7 {v v':AV}{obs:List (Nat × AO)}(h:v=v'):Jh.ret v obs=Jh.ret v' obs:=by rw [h]
theorem YL {l m:List (Bool × List AL)}(h:l=m):AV.tup l=AV.tup m:=by rw [h]
theorem Q9 {α β:Type}{s:β}{v v':α}{r r':List (β × α)}(h:v=v')(h':r=r'):(s,v)::r=(s,v')::r':=by rw [h,h']
theorem YN {b:Bool}{ls ms:List AL}(h:ls=ms):AV.val b ls=AV.val b ms:=by rw [h]
theorem Q6 {x y:D}{ls ms:List AL}(h:x=y)(h':ls=ms):AL.d x::ls=AL.d y::ms:=by rw [h,h']
theorem YK {k:Nat}{es es':List (List D)}(h:es=es'):D.sl k es=D.sl k es':=by rw [h]
theorem YF {a b:Bool}(h:a=b):D.raw (.bool a)=D.raw (.bool b):=by rw [h]
theorem Q5 {k:IntKind}{n m:Int}(h:n=m):D.raw (.int k n)=D.raw (.int k m):=by rw [h]
theorem YI {o n n':Nat}{ls ms:List AL}(h:n=n')(h':ls=ms):AL.own o 0 n n::ls=AL.own o 0 n' n'::ms:=by rw [h,h']
theorem Q3 {e k:Nat}{es es':List (List D)}(h:es=es'):AO.arr e k es=AO.arr e k es':=by rw [h]
theorem Q4 {ls ms:List AL}(h:ls=ms):AO.cells ls=AO.cells ms:=by rw [h]
end eqs
section al
variable {α β:Type} {k:Nat} {l m:List (List β)}
theorem JAa:∀y∈([]:List (List β)),y.length=k:=by simp
theorem JAX {x:List β}(h:x.length=k)(h':∀y∈l,y.length=k):∀y∈x::l,y.length=k:=by
 intro y hy
 rcases List.mem_cons.1 hy with rfl|hy
 ·exact h
 ·exact h' y hy
theorem JAW (h:∀y∈l,y.length=k)(h':∀y∈m,y.length=k):∀y∈l++m,y.length=k:=by
 intro y hy
 rcases List.mem_append.1 hy with hy|hy
 ·exact h y hy
 ·exact h' y hy
theorem JAY {n:Nat}(h:∀y∈l,y.length=k):∀y∈l.drop n,y.length=k:=fun y hy=>h y (List.mem_of_mem_drop hy)
theorem JAc {n:Nat}(h:∀y∈l,y.length=k):∀y∈l.take n,y.length=k:=fun y hy=>h y (List.mem_of_mem_take hy)
theorem JAZ {f:α→List β}{a:List α}(h:∀x,(f x).length=k):∀y∈a.map f,y.length=k:=by
 intro y hy
 obtain ⟨x,_,rfl⟩:=List.mem_map.1 hy
 exact h x
theorem JAb {x:List β}{n:Nat}(h:x.length=k):∀y∈List.replicate n x,y.length=k:=fun y hy=>by rw [(List.mem_replicate.1 hy).2];exact h
end al
end Go.Mw
namespace Go.Mw
section opn
variable {P:Program} {Φ:Exit→JE→Prop} {A A' B:JE} {ops:Array Oper} {fs:List Fp} {r:List Nat}
theorem JB.opn {id n:Nat}{y:Code}(h:Qe P ops (List.range ops.size) A fs B)(hl:(decide (fs.length=ops.size)&&down ops)=true)(ho:ZJ ops n ((List.range ops.size).zip fs)=true)(h':JB P y Φ B) :
  JB P (.seq (.region id ops true) y) Φ A:=by
 simp only [Bool.and_eq_true,decide_eq_true_eq] at hl
 exact .inl ⟨A,JN.refl A,.inl ⟨n,fs,B,h,hl.1,hl.2,ho,B,JN.refl B,B,JN.refl B,h'⟩⟩
theorem JB.cut {x y:Code}(B:JE)(h:JB P x (fun e A'=>e=.normal∧JN A' B) A)(h':JB P y Φ B):JB P (.seq x y) Φ A:=
 JB.mono x (fun e A1 h1=>by obtain ⟨rfl,h1⟩:=h1;exact ⟨B,h1,h'⟩) h
theorem Qe.op {i:Nat}{o:Oper}{rs:List Loc}{ws:List Wr}{wl:List Loc}(ho:ops[i]? = some o)(h:Z7 P ops o A=some (rs,ws))(hp:A.put ws=A')(hw:YO ws=wl)(h':Qe P ops r A' fs B) :
  Qe P ops (i::r) A (⟨rs,wl⟩::fs) B:=⟨o,ws,ho,JHv h,hw.symm,hp▸h'⟩
theorem Qe.yes {i:Nat}{dst:Option Nat}{op:Op}{ty:TypeId}{pos:String}{af:Array Edge}{g:Nat × Bool}{rs:List Loc}{ws:List Wr}{wl:List Loc}(ho:ops[i]? = some ⟨dst,op,ty,pos,af,some g⟩)(hw:J5 ops (some g) A=some true)
  (h:(Qg P op dst).run A (Qt ops ⟨dst,op,ty,pos,af,some g⟩)=some (rs,ws)) (hp:A.put ws=A') (hl:YO ws=wl) (h':Qe P ops r A' fs B):Qe P ops (i::r) A (⟨rs,wl⟩::fs) B:=
 ⟨_,ws,ho,.eff rs ws hw h,hl.symm,hp▸h'⟩
theorem Qe.skp {i dst:Nat}{op:Op}{ty:TypeId}{pos:String}{af:Array Edge}{g:Nat × Bool}{rs:List Loc}(ho:ops[i]? = some ⟨some dst,op,ty,pos,af,some g⟩)(hw:J5 ops (some g) A=some false)
  (hr:Qt ops ⟨some dst,op,ty,pos,af,some g⟩=rs) (hp:A.put [.slot dst (.tup [])]=A') (h':Qe P ops r A' fs B):Qe P ops (i::r) A (⟨rs,[.slot dst]⟩::fs) B:=
 ⟨_,[.slot dst (.tup [])],ho,hr▸.skip hw,rfl,hp▸h'⟩
theorem Qe.gop {i dst:Nat}{op:Op}{ty:TypeId}{pos:String}{af:Array Edge}{g:Nat × Bool}{b:Bool}{rs:List Loc}{v:AV}(ho:ops[i]? = some ⟨some dst,op,ty,pos,af,some g⟩)(hw:J5 ops (some g) A=some b)
  (h:(Qg P op (some dst)).runS b A (Qt ops ⟨some dst,op,ty,pos,af,some g⟩)=some (rs,[.slot dst v])) (hp:A.put [.slot dst (.cnd b v)]=A') (h':Qe P ops r A' fs B) :
  Qe P ops (i::r) A (⟨rs,[.slot dst]⟩::fs) B:=⟨_,[.slot dst (.cnd b v)],ho,.geff rs b dst v rfl hw (by rw [←Ev.runS_eq];exact h),rfl,hp▸h'⟩
theorem Qe.cal {i d:Nat}{g:FuncId}{as:List Operand}{tys:Array TypeId}{ty:TypeId}{pos:String}{af:Array Edge}{args:List AV}{res:AV}{obs:List (Nat × AO)}{vs:List AV}{rs wl:List Loc}
  (ho:ops[i]? = some ⟨some d,.call { callee:=.value (.func g),args:=as.toArray,argTypes:=tys },ty,pos,af,none⟩)
  (hc:Jb P g args res obs) (hcan:JO P g=true) (hv:as.map A.ev=vs) (hwk:JS (Jj (rn [] (1000*(d+1))) []) vs args) (hfr:∀q x,look obs q=some x→A.obj (1000*(d+1)+q)=none)
  (hp:A.put (obs.reverse.map (fun p=>.obj (1000*(d+1)+p.1) (p.2.ren (1000*(d+1) + ·)))++[.slot d (res.ren (1000*(d+1) + ·))])=A')
  (hr:Q1 (.func g::as)++obs.map (fun p=>.obj (1000*(d+1)+p.1))=rs) (hw:YO (obs.reverse.map (fun p=>.obj (1000*(d+1)+p.1) (p.2.ren (1000*(d+1) + ·)))++[.slot d (res.ren (1000*(d+1) + ·))])=wl)
  (h':Qe P ops r A' fs B):Qe P ops (i::r) A (⟨rs,wl⟩::fs) B:=
 ⟨_,_,ho,by
  have:=YV.call (ops:=ops) (o:=⟨some d,.call { callee:=.value (.func g),args:=as.toArray,argTypes:=tys },ty,pos,af,none⟩) _ _ rfl ⟨d,.func g,as,g,[],args,res,obs,rfl,by simp [Yy],rfl,hcan,by simpa [hv] using hwk,hc,hfr,rfl,rfl⟩
  rw [hr] at this
  exact this,hw.symm,hp▸h'⟩
theorem Qe.gcal {i d:Nat}{g:FuncId}{as:List Operand}{tys:Array TypeId}{ty:TypeId}{pos:String}{af:Array Edge}{gd:Nat × Bool}{b:Bool}{args:List AV}{res:AV}{vs:List AV}{rs:List Loc}
  (ho:ops[i]? = some ⟨some d,.call { callee:=.value (.func g),args:=as.toArray,argTypes:=tys },ty,pos,af,some gd⟩)
  (hw:J5 ops (some gd) A=some b) (hc:Jb P g args res []) (hcan:JO P g=true) (hv:as.map (A.strip b).ev=vs) (hwk:JS (Jj (rn [] (1000*(d+1))) []) vs args)
  (hp:A.put [.slot d (.cnd b (res.ren (1000*(d+1) + ·)))]=A') (hr:Qt ops ⟨some d,.call { callee:=.value (.func g),args:=as.toArray,argTypes:=tys },ty,pos,af,some gd⟩++Q1 (.func g::as)=rs) (h':Qe P ops r A' fs B) :
  Qe P ops (i::r) A (⟨rs,[.slot d]⟩::fs) B:=
 ⟨_,[.slot d (.cnd b (res.ren (1000*(d+1) + ·)))],ho,by
  have:=YV.gcall (ops:=ops) (o:=⟨some d,.call { callee:=.value (.func g),args:=as.toArray,argTypes:=tys },ty,pos,af,some gd⟩) _ b d _ rfl hw ⟨d,.func g,as,g,[],args,res,[],rfl,by simp [Yy],rfl,hcan,by simpa [hv] using hwk,hc,by simp [look],rfl,rfl⟩
  simp only [List.map_nil,List.append_nil] at this
  rw [hr] at this
  exact this,rfl,hp▸h'⟩
def JF (P:Program)(ops:Array Oper)(l:List (Oper × Nat))(A:JE)(acc:List Fp)(K:List Fp→JE→Prop):Prop:=(∀p∈l,ops[p.2]? = some p.1)→∃fs B,Qe P ops (l.map Prod.snd) A fs B∧K (acc.reverse++fs) B
def QO (ops:Array Oper)(n:Nat)(K:JE→Prop)(fs:List Fp)(B:JE):Prop:=(decide (fs.length=ops.size)&&down ops)=true∧ZJ ops n ((List.range ops.size).zip fs)=true∧K B
theorem JM2 {n:Nat}{K:JE→Prop}(h:JF P ops ops.toList.zipIdx A [] (QO ops n K)):∃fs B,Qe P ops (List.range ops.size) A fs B∧(decide (fs.length=ops.size)&&down ops)=true∧ZJ ops n ((List.range ops.size).zip fs)=true∧K B:=by
 obtain ⟨fs,B,h,hl,ho,h'⟩:=h fun p hp=>by
  have:=List.mem_zipIdx hp
  obtain ⟨_,h2,h3⟩:=this
  rw [h3]
  simp at h2 ⊢
 have e:ops.toList.zipIdx.map Prod.snd=List.range ops.size:=by
  apply List.ext_getElem?
  intro i
  by_cases hi:i<ops.size<;>simp [hi]
 rw [e] at h
 exact ⟨fs,B,h,hl,ho,h'⟩
theorem JB.opk {id:Nat}{y:Code}(n:Nat)(h:JF P ops ops.toList.zipIdx A [] (QO ops n (fun B=>∃B',JN B B' ∧ JB P y Φ B'))):JB P (.seq (.region id ops true) y) Φ A:=by
 obtain ⟨fs,B,h,hl,ho,B',hg,h'⟩:=JM2 h
 simp only [Bool.and_eq_true,decide_eq_true_eq] at hl
 exact .inl ⟨A,JN.refl A,.inl ⟨n,fs,B,h,hl.1,hl.2,ho,B',hg,B',JN.refl B',h'⟩⟩
theorem JB.opk1 {id:Nat}(n:Nat)(h:JF P ops ops.toList.zipIdx A [] (QO ops n (fun B=>∃B',JN B B' ∧ Φ .normal B'))):JB P (.region id ops true) Φ A:=by
 obtain ⟨fs,B,h,hl,ho,B',hg,h'⟩:=JM2 h
 simp only [Bool.and_eq_true,decide_eq_true_eq] at hl
 exact .inl ⟨A,JN.refl A,.inl ⟨n,fs,B,h,hl.1,hl.2,ho,B',hg,h'⟩⟩
variable {acc:List Fp} {K:List Fp→JE→Prop} {r:List (Oper × Nat)}
theorem JF.nil (h:K acc.reverse A):JF P ops [] A acc K:=fun _=>⟨[],A,Same.refl A,by rw [List.append_nil];exact h⟩
theorem QO.fin {n:Nat}{K:JE→Prop}(hl:(decide (fs.length=ops.size)&&down ops)=true)(ho:ZJ ops n ((List.range ops.size).zip fs)=true)(h:K B):QO ops n (fun B=>∃B',JN B B' ∧ K B') fs B:=⟨hl,ho,B,JN.refl B,h⟩
theorem QO.gho {n:Nat}{K:JE→Prop}(hl:(decide (fs.length=ops.size)&&down ops)=true)(ho:ZJ ops n ((List.range ops.size).zip fs)=true){C:JE}(hg:JN B C)(hp:C=A')(h:K A'):QO ops n (fun B=>∃B',JN B B' ∧ K B') fs B:=⟨hl,ho,C,hg,hp▸h⟩
theorem JF.cons {o:Oper}{i:Nat}{f:Fp}(h:ops[i]? = some o→∀fs B,Qe P ops (r.map Prod.snd) A' fs B→Qe P ops (i::r.map Prod.snd) A (f::fs) B)(h':JF P ops r A' (f::acc) K):JF P ops ((o,i)::r) A acc K:=by
 intro hp
 obtain ⟨fs,B,h1,h2⟩:=h' fun p hq=>hp p (by simp [hq])
 exact ⟨f::fs,B,h (hp (o,i) (by simp)) fs B h1,by simpa using h2⟩
theorem JF.op {i:Nat}{o:Oper}{rs:List Loc}{ws:List Wr}{wl:List Loc}(h:Z7 P ops o A=some (rs,ws))(hp:A.put ws=A')(hw:YO ws=wl)(h':JF P ops r A' (⟨rs,wl⟩::acc) K) :
  JF P ops ((o,i)::r) A acc K:=.cons (fun ho _ _=>Qe.op ho h hp hw) h'
theorem JF.yes {i:Nat}{dst:Option Nat}{op:Op}{ty:TypeId}{pos:String}{af:Array Edge}{g:Nat × Bool}{rs:List Loc}{ws:List Wr}{wl:List Loc}(hw:J5 ops (some g) A=some true)
  (h:(Qg P op dst).run A (Qt ops ⟨dst,op,ty,pos,af,some g⟩)=some (rs,ws)) (hp:A.put ws=A') (hl:YO ws=wl) (h':JF P ops r A' (⟨rs,wl⟩::acc) K):JF P ops ((⟨dst,op,ty,pos,af,some g⟩,i)::r) A acc K:=.cons (fun ho _ _=>Qe.yes ho hw h hp hl) h'
theorem JF.skp {i dst:Nat}{op:Op}{ty:TypeId}{pos:String}{af:Array Edge}{g:Nat × Bool}{rs:List Loc}(hw:J5 ops (some g) A=some false)
  (hr:Qt ops ⟨some dst,op,ty,pos,af,some g⟩=rs) (hp:A.put [.slot dst (.tup [])]=A') (h':JF P ops r A' (⟨rs,[.slot dst]⟩::acc) K):JF P ops ((⟨some dst,op,ty,pos,af,some g⟩,i)::r) A acc K:=.cons (fun ho _ _=>Qe.skp ho hw hr hp) h'
theorem JF.gop {i dst:Nat}{op:Op}{ty:TypeId}{pos:String}{af:Array Edge}{g:Nat × Bool}{b:Bool}{rs:List Loc}{v:AV}(hw:J5 ops (some g) A=some b)
  (h:(Qg P op (some dst)).runS b A (Qt ops ⟨some dst,op,ty,pos,af,some g⟩)=some (rs,[.slot dst v])) (hp:A.put [.slot dst (.cnd b v)]=A') (h':JF P ops r A' (⟨rs,[.slot dst]⟩::acc) K) :
  JF P ops ((⟨some dst,op,ty,pos,af,some g⟩,i)::r) A acc K:=.cons (fun ho _ _=>Qe.gop ho hw h hp) h'
theorem JF.cal {i d:Nat}{g:FuncId}{as:List Operand}{tys:Array TypeId}{ty:TypeId}{pos:String}{af:Array Edge}{args:List AV}{res:AV}{obs:List (Nat × AO)}{vs:List AV}{rs wl:List Loc}
  (hc:Jb P g args res obs) (hcan:JO P g=true) (hv:as.map A.ev=vs) (hwk:JS (Jj (rn [] (1000*(d+1))) []) vs args) (hfr:∀q x,look obs q=some x→A.obj (1000*(d+1)+q)=none)
  (hp:A.put (obs.reverse.map (fun p=>.obj (1000*(d+1)+p.1) (p.2.ren (1000*(d+1) + ·)))++[.slot d (res.ren (1000*(d+1) + ·))])=A')
  (hr:Q1 (.func g::as)++obs.map (fun p=>.obj (1000*(d+1)+p.1))=rs) (hw:YO (obs.reverse.map (fun p=>.obj (1000*(d+1)+p.1) (p.2.ren (1000*(d+1) + ·)))++[.slot d (res.ren (1000*(d+1) + ·))])=wl)
  (h':JF P ops r A' (⟨rs,wl⟩::acc) K):JF P ops ((⟨some d,.call { callee:=.value (.func g),args:=as.toArray,argTypes:=tys },ty,pos,af,none⟩,i)::r) A acc K:=.cons (fun ho _ _=>Qe.cal ho hc hcan hv hwk hfr hp hr hw) h'
theorem JF.gcal {i d:Nat}{g:FuncId}{as:List Operand}{tys:Array TypeId}{ty:TypeId}{pos:String}{af:Array Edge}{gd:Nat × Bool}{b:Bool}{args:List AV}{res:AV}{vs:List AV}{rs:List Loc}
  (hw:J5 ops (some gd) A=some b) (hc:Jb P g args res []) (hcan:JO P g=true) (hv:as.map (A.strip b).ev=vs) (hwk:JS (Jj (rn [] (1000*(d+1))) []) vs args)
  (hp:A.put [.slot d (.cnd b (res.ren (1000*(d+1) + ·)))]=A') (hr:Qt ops ⟨some d,.call { callee:=.value (.func g),args:=as.toArray,argTypes:=tys },ty,pos,af,some gd⟩++Q1 (.func g::as)=rs) (h':JF P ops r A' (⟨rs,[.slot d]⟩::acc) K) :
  JF P ops ((⟨some d,.call { callee:=.value (.func g),args:=as.toArray,argTypes:=tys },ty,pos,af,some gd⟩,i)::r) A acc K:=.cons (fun ho _ _=>Qe.gcal ho hw hc hcan hv hwk hp hr) h'
theorem JF.calw {i d:Nat}{f:Operand}{g:FuncId}{ds:List D}{as:List Operand}{tys:Array TypeId}{ty:TypeId}{pos:String}{af:Array Edge}{gd:Option (Nat × Bool)}{args:List AV}{res:AV}{obs:List (Nat × AO)}{vs:List AV}{rs wl:List Loc}
  (hwt:J5 ops gd A=some true) (hc:Jb P g args res obs) (hcan:JO P g=true) (hf:A.ev f=.leaf (.d (.fn g ds))) (hv:as.map A.ev=vs) (hwk:JS (Jj (rn [] (1000*(d+1))) []) (vs++ds.map fun x=>.leaf (.d x)) args)
  (hfr:∀q x,look obs q=some x→A.obj (1000*(d+1)+q)=none)
  (hp:A.put (obs.reverse.map (fun p=>.obj (1000*(d+1)+p.1) (p.2.ren (1000*(d+1) + ·)))++[.slot d (res.ren (1000*(d+1) + ·))])=A')
  (hr:Qt ops ⟨some d,.call { callee:=.value f,args:=as.toArray,argTypes:=tys },ty,pos,af,gd⟩++(Q1 (f::as)++obs.map (fun p=>.obj (1000*(d+1)+p.1)))=rs)
  (hw:YO (obs.reverse.map (fun p=>.obj (1000*(d+1)+p.1) (p.2.ren (1000*(d+1) + ·)))++[.slot d (res.ren (1000*(d+1) + ·))])=wl)
  (h':JF P ops r A' (⟨rs,wl⟩::acc) K):JF P ops ((⟨some d,.call { callee:=.value f,args:=as.toArray,argTypes:=tys },ty,pos,af,gd⟩,i)::r) A acc K:=
 .cons (fun ho _ _ hrun=>⟨_,_,ho,by
  have:=YV.call (ops:=ops) (o:=⟨some d,.call { callee:=.value f,args:=as.toArray,argTypes:=tys },ty,pos,af,gd⟩) _ _ hwt ⟨d,f,as,g,ds,args,res,obs,rfl,by simp [Yy],hf,hcan,by rw [hv];exact hwk,hc,hfr,rfl,rfl⟩
  rw [hr] at this
  exact this,hw.symm,hp▸hrun⟩) h'
theorem JA.calw {Ψ:JE→Prop}{l:List Oper}{d:Nat}{f:Operand}{g:FuncId}{ds:List D}{as:List Operand}{tys:Array TypeId}{ty:TypeId}{pos:String}{af:Array Edge}{gd:Option (Nat × Bool)}{args:List AV}{res:AV}{obs:List (Nat × AO)}{vs:List AV}
  (hwt:J5 ops gd A=some true) (hc:Jb P g args res obs) (hcan:JO P g=true) (hf:A.ev f=.leaf (.d (.fn g ds))) (hv:as.map A.ev=vs) (hwk:JS (Jj (rn [] (1000*(d+1))) []) (vs++ds.map fun x=>.leaf (.d x)) args)
  (hfr:∀q x,look obs q=some x→A.obj (1000*(d+1)+q)=none)
  (hp:A.put (obs.reverse.map (fun p=>.obj (1000*(d+1)+p.1) (p.2.ren (1000*(d+1) + ·)))++[.slot d (res.ren (1000*(d+1) + ·))])=A')
  (h':JA P ops Ψ l A'):JA P ops Ψ (⟨some d,.call { callee:=.value f,args:=as.toArray,argTypes:=tys },ty,pos,af,gd⟩::l) A:=
 .call _ hwt ⟨d,f,as,g,ds,args,res,obs,rfl,by simp [Yy],hf,hcan,by rw [hv];exact hwk,hc,hfr,rfl⟩ (hp▸h')
theorem Jj.int {r:Nat→Nat}{ns:List Nat}{a b:Int}(h:a=b):Jj r ns (.int a) (.int b):=h▸Jj.pure rfl
theorem JOx (r:Nat→Nat)(ns:List Nat):∀ds:List D,JS (Jj r ns) (ds.map fun x=>.leaf (.d x)) (ds.map fun x=>.leaf (.d x))
 |[]=>trivial
 |_::ds=>⟨Jj.pure rfl,JOx r ns ds⟩
theorem JB.forY {body:Code}{Φ:Exit→JE→Prop}(ss os:List Nat)(N:Nat)(upd:Nat→List Wr)(bf:Nat→Jh)(X:Nat→Prop){St:Nat→JE}(hst:∀k,(⟨((A.put (upd k)).keep ss os).tm,((A.put (upd k)).keep ss os).ob,bf k⟩:JE)=St k)(hg:A.keep ss os=St 0)(h0:X 0)
  (hr:∀k,k≤N→X k→JB P body (JU N St X k Φ) (St k)):JB P (.loop body) Φ A:=JB.for N St X (hg▸JN.keep A ss os) h0 hr
end opn
attribute [go_sem] YO Q1
end Go.Mw
namespace Go.Mw
theorem JS.set {α β:Type}{R:α→β→Prop}:∀ {l:List α} {m:List β} {i:Nat} {x:α},JS R l m→(∀b,m[i]? = some b→R x b)→JS R (l.set i x) m
 |[],[],_,_,_,_=>trivial
 |_::_,_::_,0,_,h,hx=>⟨hx _ rfl,h.2⟩
 |_::_,_::_,i+1,_,h,hx=>⟨h.1,JS.set (i:=i) h.2 fun b hb=>hx b (by simpa using hb)⟩
 |[],_::_,_,_,h,_=>h.elim
 |_::_,[],_,_,h,_=>h.elim
theorem JN.nilC (A:JE)(c i o:Nat)(e:TypeId)(k:Nat){ls:List AL}(hc:A.obj c=some (.cells ls))(hi:ls[i]? = some (.d (.raw (.slice none 0 0))))(ho:A.obj o=none)(hk:0<k)(hN:1000≤o) :
  JN A (A.put [.obj o (.arr e k []),.obj c (.cells (ls.set i (.own o 0 0 0)))]):=by
 intro P C a w ⟨S,M,ι,hR⟩
 have hne:o≠c:=fun h=>by rw [h,hc] at ho;cases ho
 have hon:Qu ι A o w w:=⟨rfl,rfl,rfl,Nat.le_refl _,fun _ _ _=>rfl⟩
 have ht:Qx ι A o (.arr e k []) (.slice none 0 0):=JAi ho _ _
 have hpin:C.pin o=none:=by
  cases hp:C.pin o with
  |none=>rfl
  |some q=>have:=hR.pinN o (by rw [hp];simp);omega
 have h1:=hR.chg hon ht ⟨[],by rw [upd_same];exact World.ownsRow_nil w 0 e k,by trivial,by simp,hk,fun b hb=>by rw [upd_same] at hb;simp [blk] at hb⟩ (fun b hb=>by simp [blk] at hb) (by simp) fun _=>hpin
 have hc1:(A.put [.obj o (.arr e k [])]).obj c=some (.cells ls):=by rw [Zo _ _ hne.symm];exact hc
 have hon2:Qu (upd ι o (.slice none 0 0)) (A.put [.obj o (.arr e k [])]) c w w:=⟨rfl,rfl,rfl,Nat.le_refl _,fun _ _ _=>rfl⟩
 have ht2:Qx (upd ι o (.slice none 0 0)) (A.put [.obj o (.arr e k [])]) c (.cells (ls.set i (.own o 0 0 0))) (upd ι o (.slice none 0 0) c):=by unfold Qx;rw [hc1];exact ⟨⟨_,rfl⟩,rfl⟩
 have hm:=hon2.mv h1 ht2
 obtain ⟨b,vs,el,hι,hheap,hall,hS⟩:=h1.objs c _ hc1
 have h2:=h1.chg hon2 ht2 ⟨b,vs,el,by rw [upd_same];exact hι,hheap,(hall.mono fun _ _=>hm.l).set fun u hu=>?_,hS⟩ (fun b1 hb1=>.inr ⟨_,hc1,hb1⟩) (by simp) (fun hn=>by rw [hc1] at hn;cases hn)
 ·exact ⟨S,_,_,h2⟩
 ·have hv:=Qm (hall.get hi hu)
  rw [hv]
  refine ⟨rfl,e,k,[],by rw [Zo _ _ hne];exact ZW _ _ _,Nat.le_refl _,fun _=>⟨Nat.le_refl _,?_⟩⟩
  rw [JBA _ _ hne,upd_same]
  exact JAj.tip (World.ownsRow_nil w 0 e k)
theorem JA.nilC {P:Program}{ops:Array Oper}{Ψ:JE→Prop}{A A':JE}{l:List Oper}(c i o:Nat)(e:TypeId)(k:Nat){ls:List AL}(hc:A.obj c=some (.cells ls))(hi:ls[i]? = some (.d (.raw (.slice none 0 0))))(ho:A.obj o=none)(hk:0<k)(hN:1000≤o)
  (hp:A.put [.obj o (.arr e k []),.obj c (.cells (ls.set i (.own o 0 0 0)))]=A') (h':JA P ops Ψ l A'):JA P ops Ψ l A:=.ghost (JN.nilC A c i o e k hc hi ho hk hN) (hp▸h')
def lB:List (List AV)→Jh
 |[]=>.ret (.tup []) []
 |v::r=>.yld v fun b=>bif b then lB r else .ret (.tup []) []
def Jh.cnt:Jh→Nat
 |.ret _ _=>0
 |.yld _ k=>(k true).cnt+1
theorem JMW:∀l:List (List AV),(lB l).cnt=l.length
 |[]=>rfl
 |v::r=>by simp only [lB,Jh.cnt,cond_true,List.length_cons,JMW r]
@[go_sem] theorem JXi:lB []=.ret (.tup []) []:=rfl
theorem JJA (v:List AV)(r:List (List AV)):lB (v::r)=.yld v fun b=>bif b then lB r else .ret (.tup []) []:=rfl
def JCO (ss:List Nat)(St:Nat→JE)(X:Nat→Prop)(k:Nat)(Φ:Exit→JE→Prop):Exit→JE→Prop:=fun e A=>match e with
 |.normal=>JN (A.lim ss) (St (k+1))∧X (k+1)
 |.ret=>Φ .ret (A.lim ss)
 |.exit i=>Φ (.exit i) (A.lim ss)
 |_=>False
section rng
variable {P:Program} {Φ:Exit→JE→Prop} {A A':JE} {ss:List Nat} {St:Nat→JE} {X:Nat→Prop} {k:Nat}
theorem JCO.nrm (h:JN (A.lim ss) (St (k+1)))(h':X (k+1)):JCO ss St X k Φ .normal A:=⟨h,h'⟩
theorem JCO.ret (hp:A.lim ss=A')(h:Φ .ret A'):JCO ss St X k Φ .ret A:=by show Φ .ret (A.lim ss);rw [hp];exact h
theorem JCO.ext {i:Nat}(hp:A.lim ss=A')(h:Φ (.exit i) A'):JCO ss St X k Φ (.exit i) A:=by show Φ (.exit i) (A.lim ss);rw [hp];exact h
theorem JN.kl {B:JE}(os:List Nat)(h:(A.lim ss).keep ss os=B):JN (A.lim ss) B:=h▸JN.keep _ ss os
theorem JB.rangeL {g:Operand}{ps:Array Tmp}{assign body:Code}(gf:FuncId)(ds:List D)(T:Nat)(vals:List (List AV))(ss os:List Nat)(upd:Nat→List Wr)(X:Nat→Prop){St:Nat→JE}{tm0:List (Nat × AV)}{bh0:Jh}
  (hst:∀k,(A.put (upd k)).keep ss os=St k) (hg:A.keep ss os=St 0) (htm:∀k,(St k).tm=tm0) (hbh:∀k,(St k).bh=bh0) (hss:tm0.map Prod.fst=ss) (hev:(St 0).ev g=.leaf (.d (.fn gf ds))) (hcan:JO P gf=true)
  (hcon:Qq P gf (.leaf (.obj T)::ds.map fun x=>.leaf (.d x)) [(T,.yl)] (lB vals)) (hld:JFi ss ps assign body=true) (h0:X 0)
  (hr:∀k v,vals[k]? = some v→X k→v.length=ps.size∧JB P assign (fun e A1=>e=.normal∧JB P body (JCO ss St X k Φ) A1) ⟨ps.toList.zip v++tm0,(St k).ob,bh0⟩)
  (hend:X vals.length→Φ .normal (St vals.length)):JB P (.rangeFunc g ps assign body) Φ A:=by
 have hS:∀k,(⟨tm0,(St k).ob,bh0⟩:JE)=St k:=fun k=>by rw [←htm k,←hbh k]
 have hk:∀k,k≤vals.length→vals.length-(lB (vals.drop k)).cnt=k:=fun k hk=>by rw [JMW,List.length_drop];omega
 have e0:vals.length-(lB vals).cnt=0:=by have:=hk 0 (Nat.zero_le _);simpa using this
 refine ⟨gf,ds,ds.map (fun x=>.leaf (.d x)),T,lB vals,tm0,fun b=>(St (vals.length-b.cnt)).ob,fun _=>bh0,fun b=>∃k,k≤vals.length∧b=lB (vals.drop k)∧X k,?_,hcan,?_,hcon,?_,⟨0,Nat.zero_le _,by simp,h0⟩,by rw [hss];exact hld,?_,?_⟩
 ·show (JE.mk tm0 (St (vals.length-(lB vals).cnt)).ob bh0).ev g=_
  rw [e0,hS];exact hev
 ·have:∀l:List D,JS WkP (l.map fun x=>AV.leaf (.d x)) (l.map fun x=>AV.leaf (.d x)):=fun l=>by
   induction l with
   |nil=>trivial
   |cons x l ih=>exact ⟨WkP.refl rfl,ih⟩
  exact this ds
 ·show JN A ⟨tm0,(St (vals.length-(lB vals).cnt)).ob,bh0⟩
  rw [e0,hS]
  exact hg▸JN.keep A ss os
 ·rintro v κ ⟨k,hkl,hb,hX⟩
  cases hd:vals.drop k with
  |nil=>rw [hd] at hb;cases hb
  |cons v' r=>
   have hlt:k<vals.length:=by
    have:(vals.drop k).length=r.length+1:=by rw [hd];rfl
    rw [List.length_drop] at this;omega
   have hv:vals[k]? = some v':=by
    have:(vals.drop k)[0]? = some v':=by rw [hd];rfl
    rwa [List.getElem?_drop,Nat.add_zero] at this
   have hr':vals.drop (k+1)=r:=by rw [←List.drop_drop,hd];rfl
   rw [hd,JJA] at hb
   injection hb with hb1 hb2
   subst hb1 hb2
   obtain ⟨h1,h2⟩:=hr k v hv hX
   refine ⟨h1,?_⟩
   have e1:vals.length-(Jh.yld v fun b=>bif b then lB r else .ret (.tup []) []).cnt=k:=by
    have:=hk k hkl
    rw [hd,JJA] at this
    exact this
   have e3:(St k).ob=(St (vals.length-(Jh.yld v fun b=>bif b then lB r else .ret (.tup []) []).cnt)).ob:=by rw [e1]
   rw [e3] at h2
   refine JB.mono assign (fun e A1 h=>⟨h.1,JB.mono body (fun e A2 h=>?_) h.2⟩) h2
   cases e with
   |normal=>
    obtain ⟨hg',hX'⟩:=h
    refine ⟨?_,k+1,hlt,by rw [hr'];rfl,hX'⟩
    have e2:vals.length-(lB r).cnt=k+1:=by rw [←hr'];exact hk (k+1) hlt
    show JN (A2.lim (tm0.map Prod.fst)) ⟨tm0,(St (vals.length-(lB r).cnt)).ob,bh0⟩
    rw [e2,hS,hss]
    exact hg'
   |ret=>exact ⟨⟨_,_,rfl⟩,by rw [hss];exact h⟩
   |exit i=>exact ⟨⟨_,_,rfl⟩,by rw [hss];exact h⟩
   |_=>exact h.elim
 ·rintro res obs ⟨k,hkl,hb,hX⟩
  cases hd:vals.drop k with
  |cons v' r=>rw [hd] at hb;cases hb
  |nil=>
   have hkk:k=vals.length:=by
    have:(vals.drop k).length=0:=by rw [hd];rfl
    rw [List.length_drop] at this;omega
   subst hkk
   have:vals.length-(Jh.ret res obs).cnt=vals.length:=by simp [Jh.cnt]
   show Φ .normal ⟨tm0,(St (vals.length-(Jh.ret res obs).cnt)).ob,bh0⟩
   rw [this,hS]
   exact hend hX
end rng
end Go.Mw
namespace Go.Mw
open Go.RowKit
def FL.kp (p:Nat→Bool):FL→FL
 |.d x=>.d x
 |.own o i j t=>if p o=true then .own o i j t else .dead
 |.obj o=>if p o=true then .obj o else .dead
 |.dead=>.dead
def AL.kp (p:Nat→Bool):AL→AL
 |.d x=>.d x
 |.ptr o i=>if p o=true then .ptr o i else .dead
 |.eptr o i j t=>if p o=true then .eptr o i j t else .dead
 |.own o i j t=>if p o=true then .own o i j t else .dead
 |.obj o=>if p o=true then .obj o else .dead
 |.fpt fs=>.fpt (fs.map (·.kp p))
 |.csl o i j=>if p o=true then .csl o i j else .dead
 |.dead=>.dead
def AV.kp (p:Nat→Bool):AV→AV
 |.val ag ls=>.val ag (ls.map (·.kp p))
 |.tup cs=>.tup (cs.map fun c=>(c.1,c.2.map (·.kp p)))
 |.cnd b v=>.cnd b (v.kp p)
 |.dead=>.dead
def AO.kp (p:Nat→Bool):AO→AO
 |.cells ls=>.cells (ls.map (·.kp p))
 |.arr e k es=>.arr e k es
 |.clo f ls=>.clo f (ls.map (·.kp p))
 |.yl=>.yl
 |.map es=>.map (es.map fun q=>(q.1,q.2.1,q.2.2.map (·.kp p)))
 |.mth f ls=>.mth f (ls.map (·.kp p))
 |.pin v l=>.pin v (l.kp p)
 |.iter ls n s c=>.iter (ls.map (·.kp p)) n s c
 |.sit s q=>.sit s q
 |.byt b c l=>.byt b c l
def Zu (p:Nat→Bool):List (Nat × AO)→List (Nat × AO)
 |[]=>[]
 |(o,x)::r=>if p o=true then (o,x.kp p)::Zu p r else Zu p r
def JE.kp (A:JE)(ss:List Nat)(p:Nat→Bool):JE:=⟨ss.map fun s=>(s,(A.get s).kp p),Zu p A.ob,A.bh⟩
section kp
variable (A:JE) (ss:List Nat) (p:Nat→Bool)
theorem JJK (o:Nat):∀l:List (Nat × AO),look (Zu p l) o=if p o=true then (look l o).map (·.kp p) else none
 |[]=>by simp [Zu,look]
 |(q,x)::r=>by
  unfold Zu
  by_cases hq:p q=true
  ·rw [if_pos hq]
   simp only [look,JJK o r]
   by_cases h:o=q
   ·subst h;simp [hq]
   ·simp [h]
  ·rw [if_neg hq,JJK o r]
   simp only [look]
   by_cases h:o=q
   ·subst h;simp [hq]
   ·simp [h]
theorem JCo (o:Nat):(A.kp ss p).obj o=if p o=true then (A.obj o).map (·.kp p) else none:=JJK p o A.ob
theorem JSI (s:Nat):(A.kp ss p).get s=if s∈ss then (A.get s).kp p else .dead:=by
 show (look (ss.map fun t=>(t,(A.get t).kp p)) s).getD .dead=_
 rw [JJN (fun t=>(A.get t).kp p)]
 split<;>rfl
theorem JSH {S:Jc}{ι:Nat→Value}{w:World}{l:FL}{v:Value}(h:ZQ S ι A.obj w l v):ZQ S ι (A.kp ss p).obj w (l.kp p) v:=by
 have h1:=ZQ.one S ι A.obj w h
 cases l with
 |d x=>exact h
 |own o i j t=>
  simp only [FL.kp]
  split
  ·rename_i hc
   obtain ⟨_,e,k,es,ho,hv⟩:=h
   exact ⟨h1,e,k,es,by rw [JCo,if_pos hc,ho];rfl,hv⟩
  ·exact h1
 |obj o=>
  simp only [FL.kp]
  split
  ·rename_i hc
   obtain ⟨_,hv,x,ho,hx⟩:=h
   exact ⟨h1,hv,_,by rw [JCo,if_pos hc,ho];rfl,by cases x<;>first|rfl|simp [AO.whole] at hx⟩
  ·exact h1
 |dead=>exact h
theorem JDU {S:Jc}{ι:Nat→Value}{w:World}{l:AL}{v:Value}(h:Jd S ι A.obj w l v):Jd S ι (A.kp ss p).obj w (l.kp p) v:=by
 have h1:=Jd.one S ι A.obj w h
 cases l with
 |d x=>exact h
 |ptr o i=>
  simp only [AL.kp]
  split
  ·rename_i hc
   obtain ⟨ls,b,ho,hι,hv⟩:=h
   exact ⟨_,b,by rw [JCo,if_pos hc,ho];rfl,hι,hv⟩
  ·exact h1
 |eptr o i j t=>
  simp only [AL.kp]
  split
  ·rename_i hc
   obtain ⟨_,e,k,es,ho,hv⟩:=h
   exact ⟨h1,e,k,es,by rw [JCo,if_pos hc,ho];rfl,hv⟩
  ·exact h1
 |own o i j t=>
  simp only [AL.kp]
  split
  ·rename_i hc
   obtain ⟨_,e,k,es,ho,hv⟩:=h
   exact ⟨h1,e,k,es,by rw [JCo,if_pos hc,ho];rfl,hv⟩
  ·exact h1
 |obj o=>
  simp only [AL.kp]
  split
  ·rename_i hc
   obtain ⟨_,hv,x,ho,hx⟩:=h
   exact ⟨h1,hv,_,by rw [JCo,if_pos hc,ho];rfl,by cases x<;>first|rfl|simp [AO.whole] at hx⟩
  ·exact h1
 |fpt fs=>
  obtain ⟨b,off,hv,hf⟩:=h
  exact ⟨b,off,hv,JHK hf fun j f ⟨h1,u,h2,h3⟩=>⟨h1,u,h2,JSH A ss p h3⟩⟩
 |csl o i j=>
  simp only [AL.kp]
  split
  ·rename_i hc
   obtain ⟨ls,b,c,ho,hι,hv⟩:=h
   exact ⟨_,b,c,by rw [JCo,if_pos hc,ho];rfl,hι,hv⟩
  ·exact h1
 |dead=>exact h
theorem JI9 {S:Jc}{ι:Nat→Value}{w:World}{ag:Bool}{ls:List AL}{v:Value}(h:Qv S ι A.obj w ag ls v):Qv S ι (A.kp ss p).obj w ag (ls.map (·.kp p)) v:=by
 cases ag with
 |true=>obtain ⟨vs,hv,ha⟩:=h;exact ⟨vs,hv,Ya (R:=Jd S ι A.obj w) (R':=Jd S ι (A.kp ss p).obj w) (·.kp p) (fun _ _ h=>JDU A ss p h) ha⟩
 |false=>obtain ⟨l,rfl,ha⟩:=h;exact ⟨_,rfl,JDU A ss p ha⟩
theorem JMV {S:Jc}{ι:Nat→Value}{w:World}:∀ {av:AV} {v:Value},Jk S ι A.obj w av v→Jk S ι (A.kp ss p).obj w (av.kp p) v
 |.val ag ls,_,h=>JI9 A ss p h
 |.tup cs,_,⟨vs,hv,ha⟩=>⟨vs,hv,Ya (R:=fun (c:Bool × List AL) u=>Qv S ι A.obj w c.1 c.2 u) (R':=fun (c:Bool × List AL) u=>Qv S ι (A.kp ss p).obj w c.1 c.2 u) (fun c=>(c.1,c.2.map (·.kp p))) (fun _ _ h=>JI9 A ss p h) ha⟩
 |.cnd _ x,_,h=>⟨fun hb=>JMV (av:=x) (h.1 hb),h.2⟩
 |.dead,_,_=>trivial
theorem JSJ (S:Jc)(ι:Nat→Value)(w:World)(o:Nat)(x':AO)(h:(A.kp ss p).obj o=some x') :
  ∃x,A.obj o=some x∧(Yw S ι A.obj w o x→Yw S ι (A.kp ss p).obj w o x')∧(x'=.yl→x=.yl)∧∀u v n,x.pinned u v n→x'.pinned u v n:=by
 rw [JCo] at h
 split at h
 case isFalse=>cases h
 cases hx:A.obj o with
 |none=>simp [hx] at h
 |some x=>
  simp only [hx,Option.map_some,Option.some.injEq] at h
  subst h
  refine ⟨x,rfl,fun hok=>?_,fun h=>(by cases x<;>first|rfl|cases h),fun u v n hp=>(by cases x<;>exact hp)⟩
  cases x with
  |cells ls=>
   obtain ⟨b,vs,el,h1,h2,h3,h5⟩:=hok
   exact ⟨b,vs,el,h1,h2,Ya (R:=Jd S ι A.obj w) (R':=Jd S ι (A.kp ss p).obj w) (·.kp p) (fun _ _ h=>JDU A ss p h) h3,h5⟩
  |arr e k es=>exact hok
  |clo f ls=>
   obtain ⟨vs,h1,h3⟩:=hok
   exact ⟨vs,h1,Ya (R:=Jd S ι A.obj w) (R':=Jd S ι (A.kp ss p).obj w) (·.kp p) (fun _ _ h=>JDU A ss p h) h3⟩
  |yl=>exact hok
  |map es=>
   obtain ⟨b,qs,ck,h1,h2,h3,h5⟩:=hok
   exact ⟨b,qs,ck,h1,h2,Ya (R:=Zl S ι A.obj w) (R':=Zl S ι (A.kp ss p).obj w) (fun q=>(q.1,q.2.1,q.2.2.map (·.kp p))) (fun _ _ h=>⟨h.1,JI9 A ss p h.2⟩) h3,h5⟩
  |pin v l=>exact ⟨hok.1,JDU A ss p hok.2⟩
  |mth f ls=>
   obtain ⟨vs,h1,h3⟩:=hok
   exact ⟨vs,h1,Ya (R:=Jd S ι A.obj w) (R':=Jd S ι (A.kp ss p).obj w) (·.kp p) (fun _ _ h=>JDU A ss p h) h3⟩
  |iter ls n sn c=>
   obtain ⟨b,m,h1,h2,h3,h5⟩:=hok
   exact ⟨b,m,h1,h2,Ya (R:=Jd S ι A.obj w) (R':=Jd S ι (A.kp ss p).obj w) (·.kp p) (fun _ _ h=>JDU A ss p h) h3,h5⟩
  |sit s q=>exact hok
  |byt b c l=>exact hok
theorem JN.kp0:JN A (A.kp ss p):=by
 refine JCF (fun S ι w s v h=>?_) fun S ι w o x' h=>?_
 ·rw [JSI]
  split
  ·exact JMV A ss p h
  ·trivial
 ·exact JSJ A ss p S ι w o x' h
end kp
theorem JN.kpp {A B:JE}(ss:List Nat)(p:Nat→Bool)(h:A.kp ss p=B):JN A B:=h▸JN.kp0 A ss p
attribute [go_sem] FL.kp AV.kp AO.kp Zu
section kps
variable (p:Nat→Bool)
@[go_sem] theorem JXa (x:D):(AL.d x).kp p=.d x:=rfl
@[go_sem] theorem JXh (o i:Nat):(AL.ptr o i).kp p=if p o=true then .ptr o i else .dead:=rfl
@[go_sem] theorem JXc (o i j t:Nat):(AL.eptr o i j t).kp p=if p o=true then .eptr o i j t else .dead:=rfl
@[go_sem] theorem JXg (o i j t:Nat):(AL.own o i j t).kp p=if p o=true then .own o i j t else .dead:=rfl
@[go_sem] theorem JXf (o:Nat):(AL.obj o).kp p=if p o=true then .obj o else .dead:=rfl
@[go_sem] theorem JXd (fs:List FL):(AL.fpt fs).kp p=.fpt (fs.map (·.kp p)):=rfl
@[go_sem] theorem JXZ (o i j:Nat):(AL.csl o i j).kp p=if p o=true then .csl o i j else .dead:=rfl
@[go_sem] theorem JXb:(AL.dead).kp p=.dead:=rfl
end kps
@[go_sem] theorem JXe (tm:List (Nat × AV))(ob:List (Nat × AO))(bh:Jh)(ss:List Nat)(p:Nat→Bool):(JE.mk tm ob bh).kp ss p=⟨ss.map fun s=>(s,((look tm s).getD .dead).kp p),Zu p ob,bh⟩:=rfl
end Go.Mw
namespace Go.Mw
open Go.RowKit
def r1 (o n q:Nat):Nat:=if q=o then n else q
def JE.ren1 (A:JE)(o n:Nat):JE:=⟨A.tm.map fun p=>(p.1,p.2.ren (r1 o n)),A.ob.map fun p=>(r1 o n p.1,p.2.ren (r1 o n)),A.bh⟩
theorem JMj (f:AV→AV)(hf:f .dead=.dead)(s:Nat):∀l:List (Nat × AV),(look (l.map fun p=>(p.1,f p.2)) s).getD .dead=f ((look l s).getD .dead)
 |[]=>by simp [look,hf]
 |(t,v)::l=>by
  simp only [List.map_cons,look]
  split
  ·rfl
  ·exact JMj f hf s l
theorem JMi (o n:Nat)(hne:n≠o)(q:Nat):∀l:List (Nat × AO),look l n=none→look (l.map fun p=>(r1 o n p.1,p.2.ren (r1 o n))) q=if q=n then (look l o).map (·.ren (r1 o n)) else if q=o then none else (look l q).map (·.ren (r1 o n))
 |[],_=>by simp [look]
 |(k,x)::l,h=>by
  have hk:n≠k:=fun e=>by simp [look,e] at h
  have hl:look l n=none:=by simpa [look,hk] using h
  have ih:=JMi o n hne q l hl
  have hrk:r1 o n k=if k=o then n else k:=rfl
  simp only [List.map_cons,look,ih,hrk]
  by_cases e1:k=o
  ·subst e1
   by_cases e2:q=n
   ·simp [e2]
   ·by_cases e3:q=k
    ·subst e3;simp [hne.symm]
    ·simp [e2,e3]
  ·by_cases e2:q=n
   ·subst e2;simp [e1,hk,Ne.symm e1]
   ·by_cases e3:q=o
    ·subst e3;simp [e1,e2,Ne.symm e1]
    ·simp only [e1,e2,e3,if_false]
     split<;>rfl
theorem JN.ren1 (A:JE)(o n:Nat)(hn:A.obj n=none)(hne:n≠o)(hN:1000≤n)(hτ:ZF (n%1000)=ZF (o%1000):=by rfl):JN A (A.ren1 o n):=by
 intro P C a w ⟨S,M,ι,hR⟩
 have hobj:∀q,(A.ren1 o n).obj q=if q=n then (A.obj o).map (·.ren (r1 o n)) else if q=o then none else (A.obj q).map (·.ren (r1 o n)):=fun q=>JMi o n hne q A.ob hn
 have hget:∀s,(A.ren1 o n).get s=(A.get s).ren (r1 o n):=fun s=>JMj (·.ren (r1 o n)) rfl s A.tm
 let ι':Nat→Value:=fun q=>if q=n then ι o else ι q
 have hι:∀q x,A.obj q=some x→ι' (r1 o n q)=ι q:=fun q x hq=>by
  have hqn:q≠n:=fun e=>by rw [e,hn] at hq;cases hq
  show (if r1 o n q=n then ι o else ι (r1 o n q))=ι q
  unfold r1
  by_cases e:q=o
  ·simp [e]
  ·simp [e,hqn]
 have hH:∀q x,A.obj q=some x→(A.ren1 o n).obj (r1 o n q)=some (x.ren (r1 o n)):=fun q x hq=>by
  have hqn:q≠n:=fun e=>by rw [e,hn] at hq;cases hq
  rw [hobj]
  unfold r1
  by_cases e:q=o
  ·subst e;simp [hq]
  ·simp [e,hqn,hq]
 have hinv:∀q x',(A.ren1 o n).obj q=some x' → ∃q0 x,A.obj q0=some x∧q=r1 o n q0∧x'=x.ren (r1 o n)∧ι' q=ι q0:=fun q x' h=>by
  rw [hobj] at h
  split at h
  ·rename_i e
   cases ho:A.obj o with
   |none=>simp [ho] at h
   |some x=>simp [ho] at h;exact ⟨o,x,ho,by simp [r1,e],h.symm,by show (if q=n then ι o else ι q)=ι o;simp [e]⟩
  ·rename_i e
   split at h
   ·cases h
   ·rename_i e2
    cases ho:A.obj q with
    |none=>simp [ho] at h
    |some x=>simp [ho] at h;exact ⟨q,x,ho,by simp [r1,e2],h.symm,by show (if q=n then ι o else ι q)=ι q;simp [e]⟩
 refine ⟨S,M,ι',{ hR with
  tms:=fun s=>by rw [hget];exact JJy hι hH (hR.tms s)
  objs:=fun q x' h=>?_
  dis:=fun q q' x x' b h1 h2 hne' hb=>?_
  own:=fun q x b h hb=>?_
  tok:=fun q h=>?_
  pinned:=fun q u m x h1 h2=>?_ }⟩
 ·obtain ⟨q0,x,h1,rfl,rfl,_⟩:=hinv q x' h
  exact JMv hι hH (fun ls _=>by unfold r1;split;rename_i e;rw [e];exact hτ;rfl) h1 (hR.objs q0 x h1)
 ·obtain ⟨q0,y,a1,rfl,_,a2⟩:=hinv q x h1
  obtain ⟨q1,y',b1,rfl,_,b2⟩:=hinv q' x' h2
  rw [a2] at hb
  rw [b2]
  exact hR.dis q0 q1 y y' b a1 b1 (fun e=>hne' (by rw [e])) hb
 ·obtain ⟨q0,y,a1,_,_,a2⟩:=hinv q x h
  rw [a2] at hb
  exact hR.own q0 y b a1 hb
 ·obtain ⟨q0,y,a1,_,a3,a2⟩:=hinv q _ h
  rw [a2]
  have:y=.yl:=by cases y<;>first|rfl|cases a3
  rw [this] at a1
  exact hR.tok q0 a1
 ·have hq:q<1000:=(hR.pinN q (by rw [h1];simp)).2
  have hqn:q≠n:=by omega
  rw [hobj,if_neg hqn] at h2
  split at h2
  ·cases h2
  ·cases ho:A.obj q with
   |none=>simp [ho] at h2
   |some y=>
    simp [ho] at h2
    subst h2
    have h3:=hR.pinned q u m y h1 ho
    have:ι' q=ι q:=by show (if q=n then ι o else ι q)=ι q;simp [hqn]
    rw [this]
    cases y<;>exact h3
theorem JN.ob {tm:List (Nat × AV)}{ob ob':List (Nat × AO)}{bh:Jh}(h:∀o,look ob' o=look ob o):JN ⟨tm,ob,bh⟩ ⟨tm,ob',bh⟩:=by
 refine JCF (fun S ι w s v hr=>?_) fun S ι w o x' h'=>?_
 ·have e:(JE.mk tm ob' bh).obj=(JE.mk tm ob bh).obj:=funext h
  rw [e];exact hr
 ·have e:(JE.mk tm ob' bh).obj=(JE.mk tm ob bh).obj:=funext h
  rw [e] at h'
  exact ⟨x',h',fun hk=>by rw [e];exact hk,fun h=>h,fun _ _ _ h=>h⟩
end Go.Mw
namespace Go.Mw
open Go.RowKit
section bfz
variable {P:Program} {ops:Array Oper} {A A':JE} {r:List (Oper × Nat)} {acc:List Fp} {K:List Fp→JE→Prop}
theorem JRu {S:Jc}{ι:Nat→Value}{H:Nat→Option AO}{w:World}{d k:Nat}{es:List (List D)}(hd:H d=none){l:FL}{v:Value}(h:ZQ S ι H w l v):FL.frz d k es l=l:=by
 cases l with
 |own q i n t=>
  simp only [FL.frz]
  split
  ·rename_i e
   subst e
   obtain ⟨_,_,_,_,h1,_⟩:=h
   rw [hd] at h1;cases h1
  ·rfl
 |_=>rfl
theorem JDQ {S:Jc}{ι:Nat→Value}{H:Nat→Option AO}{w:World}{d k:Nat}{es:List (List D)}(hd:H d=none){l:AL}{v:Value}(h:Jd S ι H w l v):AL.frz d k es l=l:=by
 cases l with
 |eptr q i j t=>
  simp only [AL.frz]
  split
  ·rename_i e
   subst e
   obtain ⟨_,_,_,_,h1,_⟩:=h
   rw [hd] at h1;cases h1
  ·rfl
 |own q i n t=>
  simp only [AL.frz]
  split
  ·rename_i e
   subst e
   obtain ⟨_,_,_,_,h1,_⟩:=h
   rw [hd] at h1;cases h1
  ·rfl
 |fpt fs=>
  obtain ⟨b,off,_,hf⟩:=h
  simp only [AL.frz,AL.fpt.injEq]
  refine List.ext_getElem? fun j=>?_
  rw [List.getElem?_map]
  cases hj:fs[j]? with
  |none=>rfl
  |some f=>
   obtain ⟨_,u,_,h3⟩:=hf j f hj
   rw [Option.map_some,JRu hd h3]
 |_=>rfl
theorem JEV {β:Type}{R:AL→β→Prop}{φ:AL→AL}(hφ:∀l v,R l v→φ l=l):∀ {ls:List AL} {vs:List β},JS R ls vs→ls.map φ=ls
 |[],[],_=>rfl
 |l::ls,v::vs,h=>by rw [List.map_cons,hφ l v h.1,JEV hφ h.2]
 |[],_::_,h=>h.elim
 |_::_,[],h=>h.elim
theorem JIz {S:Jc}{ι:Nat→Value}{H:Nat→Option AO}{w:World}{d k:Nat}{es:List (List D)}(hd:H d=none){ag:Bool}{ls:List AL}{v:Value}(h:Qv S ι H w ag ls v):ls.map (AL.frz d k es)=ls:=by
 cases ag with
 |true=>obtain ⟨vs,_,ha⟩:=h;exact JEV (fun _ _=>JDQ hd) ha
 |false=>obtain ⟨l,rfl,ha⟩:=h;rw [List.map_cons,JDQ hd ha];rfl
theorem JMF {S S':Jc}{ι ι':Nat→Value}{H H':Nat→Option AO}{w w':World}{d k:Nat}{es:List (List D)}(hd:H d=none):∀ {av:AV} {v v':Value},Jk S ι H w av v→Jk S' ι' H' w' (av.mapL (AL.frz d k es)) v' → Jk S' ι' H' w' av v'
 |.val ag ls,v,v',h,h'=>by
  have e:=JIz (k:=k) (es:=es) hd h
  simp only [AV.mapL,e] at h'
  exact h'
 |.tup cs,v,v',⟨vs,_,h⟩,h'=>by
  have e:∀ {cs:List (Bool × List AL)} {vs:List Value},JS (fun c u=>Qv S ι H w c.1 c.2 u) cs vs→cs.map (fun c=>(c.1,c.2.map (AL.frz d k es)))=cs:=by
   intro cs
   induction cs with
   |nil=>intro vs _;rfl
   |cons c cs ih=>
    intro vs h
    cases vs with
    |nil=>exact h.elim
    |cons u vs=>rw [List.map_cons,ih h.2,JIz hd h.1]
  simp only [AV.mapL,e h] at h'
  exact h'
 |.cnd b x,v,v',h,h'=>by
  simp only [AV.mapL] at h'
  exact ⟨fun hb=>JMF hd (h.1 hb) (h'.1 hb),h'.2⟩
 |.dead,_,_,_,_=>trivial
theorem JRv {S:Jc}{ι:Nat→Value}{H:Nat→Option AO}{w:World}{d k:Nat}{es:List (List D)}(hd:H d=none){o:Nat}{x:AO}(h:Yw S ι H w o x):x.mapL (AL.frz d k es)=x:=by
 cases x with
 |cells ls=>obtain ⟨_,_,_,_,_,ha,_⟩:=h;simp only [AO.mapL];rw [JEV (fun _ _=>JDQ hd) ha]
 |clo f ls=>obtain ⟨_,_,ha⟩:=h;simp only [AO.mapL];rw [JEV (fun _ _=>JDQ hd) ha]
 |mth f ls=>obtain ⟨_,_,ha⟩:=h;simp only [AO.mapL];rw [JEV (fun _ _=>JDQ hd) ha]
 |pin v l=>simp only [AO.mapL];rw [JDQ hd h.2]
 |iter ls n sn c=>obtain ⟨_,_,_,_,ha,_⟩:=h;simp only [AO.mapL];rw [JEV (fun _ _=>JDQ hd) ha]
 |sit s p=>rfl
 |byt b c l=>rfl
 |map es'=>
  obtain ⟨_,qs,_,_,_,ha,_⟩:=h
  have e:∀ {es':List (Value × Bool × List AL)} {qs:List MapEntry},JS (Zl S ι H w) es' qs→es'.map (fun p=>(p.1,p.2.1,p.2.2.map (AL.frz d k es)))=es':=by
   intro es'
   induction es' with
   |nil=>intro vs _;rfl
   |cons c cs ih=>
    intro vs h
    cases vs with
    |nil=>exact h.elim
    |cons u vs=>rw [List.map_cons,ih h.2,JIz hd h.1.2]
  simp only [AO.mapL];rw [e ha]
 |_=>rfl
theorem JJ8 {C:Ctx P}{d n e k:Nat}{es:List (List D)}{B:JE}{a a':Act}{w w':World}(hl:es.length=n)(hd:B.obj d=none)(h0:J9 C B a w)(h1:J9 C (B.put [.slot d (.leaf (.own d 0 n n)),.obj d (.arr e k es)]) a' w') :
  J9 C (B.put [.slot d (.leaf (.d (.sl k es)))]) a' w':=by
 have h2:=JN.frz _ d P C a' w' h1
 obtain ⟨S,M,ι,hR⟩:=h0
 have ho1:(B.put [.slot d (.leaf (.own d 0 n n)),.obj d (.arr e k es)]).obj d=some (.arr e k es):=by simp [JE.put,JE.put1,JE.obj,look]
 have hfz:(B.put [.slot d (.leaf (.own d 0 n n)),.obj d (.arr e k es)]).frz d=(B.put [.slot d (.leaf (.own d 0 n n)),.obj d (.arr e k es)]).settle d (AL.frz d k es):=by
  unfold JE.frz;rw [ho1]
 rw [hfz] at h2
 have hobj:∀q,((B.put [.slot d (.leaf (.own d 0 n n)),.obj d (.arr e k es)]).settle d (AL.frz d k es)).obj q=(B.put [.slot d (.leaf (.d (.sl k es)))]).obj q:=by
  intro q
  have e1:((B.put [.slot d (.leaf (.own d 0 n n)),.obj d (.arr e k es)]).settle d (AL.frz d k es)).obj q=if q=d then none else ((B.put [.slot d (.leaf (.own d 0 n n)),.obj d (.arr e k es)]).obj q).map (·.mapL (AL.frz d k es)):=JJL d _ q _
  have e2:(B.put [.slot d (.leaf (.d (.sl k es)))]).obj q=B.obj q:=rfl
  rw [e1,e2]
  by_cases hq:q=d
  ·subst hq;rw [if_pos rfl,hd]
  ·rw [if_neg hq]
   have e3:(B.put [.slot d (.leaf (.own d 0 n n)),.obj d (.arr e k es)]).obj q=B.obj q:=by simp [JE.put,JE.put1,JE.obj,look,hq]
   rw [e3]
   cases hx:B.obj q with
   |none=>rfl
   |some x=>rw [Option.map_some,JRv hd (hR.objs q x hx)]
 have hfun:((B.put [.slot d (.leaf (.own d 0 n n)),.obj d (.arr e k es)]).settle d (AL.frz d k es)).obj=(B.put [.slot d (.leaf (.d (.sl k es)))]).obj:=funext hobj
 refine JCF (A:=(B.put [.slot d (.leaf (.own d 0 n n)),.obj d (.arr e k es)]).settle d (AL.frz d k es)) (A':=B.put [.slot d (.leaf (.d (.sl k es)))]) (fun S' ι' w2 s v h=>?_) (fun S' ι' w2 o x' h=>?_) rfl P C a' w' h2
 ·rw [←hfun]
  have e1:((B.put [.slot d (.leaf (.own d 0 n n)),.obj d (.arr e k es)]).settle d (AL.frz d k es)).get s=((B.put [.slot d (.leaf (.own d 0 n n)),.obj d (.arr e k es)]).get s).mapL (AL.frz d k es):=JJM _ s _
  rw [e1] at h
  by_cases hs:s=d
  ·subst hs
   have e2:(B.put [.slot s (.leaf (.own s 0 n n)),.obj s (.arr e k es)]).get s=.leaf (.own s 0 n n):=by simp [JE.put,JE.put1,JE.get,look]
   have e3:(B.put [.slot s (.leaf (.d (.sl k es)))]).get s=.leaf (.d (.sl k es)):=by simp [JE.put,JE.put1,JE.get,look]
   rw [e2] at h
   rw [e3]
   have e4:(AV.leaf (.own s 0 n n)).mapL (AL.frz s k es)=.leaf (.d (.sl k es)):=by
    show AV.val false [AL.frz s k es (.own s 0 n n)]=_
    simp only [AL.frz,if_true,hl,List.drop_zero]
    rw [←hl,List.take_length]
   rw [e4] at h
   exact h
  ·have e2:(B.put [.slot d (.leaf (.own d 0 n n)),.obj d (.arr e k es)]).get s=B.get s:=by simp [JE.put,JE.put1,JE.get,look,hs]
   have e3:(B.put [.slot d (.leaf (.d (.sl k es)))]).get s=B.get s:=by simp [JE.put,JE.put1,JE.get,look,hs]
   rw [e2] at h
   rw [e3]
   exact JMF hd (hR.tms s) h
 ·rw [←hfun] at h ⊢
  exact ⟨x',h,fun h=>h,fun h=>h,fun _ _ _ h=>h⟩
theorem JF.bfz {i d n e k:Nat}{o:Oper}{rs:List Loc}{es:List (List D)}(hw:J5 ops o.guard A=some true)(h:(Qg P o.op o.dst).run A (Qt ops o)=some (rs,[.slot d (.leaf (.own d 0 n n)),.obj d (.arr e k es)]))
  (hl:es.length=n) (hm:Loc.obj d∈rs) (hn:A.obj d=none) (hp:A.put [.slot d (.leaf (.d (.sl k es)))]=A') (h':JF P ops r A' (⟨rs,[.slot d]⟩::acc) K):JF P ops ((o,i)::r) A acc K:=by
 refine JF.cons (fun ho fs B hr=>⟨o,[.slot d (.leaf (.d (.sl k es)))],ho,.wk rs _ _ hw h fun B' hB' C a w a' w' h0 h1=>?_,rfl,hp▸hr⟩) h'
 have hd:B'.obj d=none:=(hB' _ hm).trans hn
 exact JJ8 hl hd h0 h1
end bfz
def JKO (a b:List Nat):List Nat:=a.foldl (fun l x=>if l.contains x then l else x::l) b
def Yz (T:List (List Nat)):List Edge→List Nat
 |[]=>[]
 |e::r=>if Region.binds .any e then JKO (e.on::(T[e.on]?).getD []) (Yz T r) else Yz T r
def JHw (T:List (List Nat)):List Oper→List (List Nat)
 |[]=>T
 |o::r=>JHw (T++[Yz T o.after.toList]) r
def JFn (T:List (List Nat)):List (Nat × Fp)→Bool
 |[]=>true
 |(i,f)::r=>(r.all fun p=>!f.clash p.2 || ((T[p.1]?).getD []).contains i)&&JFn T r
theorem JMq {x:Nat}:∀ {a b:List Nat},x∈JKO a b→x∈a∨x∈b
 |[],b,h=>.inr h
 |y::a,b,h=>by
  unfold JKO at h
  rw [List.foldl_cons] at h
  rcases JMq (a:=a) h with h|h
  ·exact .inl (by simp [h])
  ·split at h
   ·exact .inr h
   ·rcases List.mem_cons.1 h with rfl|h
    ·exact .inl (by simp)
    ·exact .inr h
theorem JJU {T:List (List Nat)}{x:Nat}:∀ {es:List Edge},x∈Yz T es→∃e∈es,Region.binds .any e=true∧(e.on=x∨x∈(T[e.on]?).getD [])
 |[],h=>by simp [Yz] at h
 |e::r,h=>by
  unfold Yz at h
  split at h
  ·rename_i hb
   rcases JMq h with h|h
   ·rcases List.mem_cons.1 h with h|h
    ·exact ⟨e,by simp,hb,.inl h.symm⟩
    ·exact ⟨e,by simp,hb,.inr h⟩
   ·obtain ⟨e',h1,h2⟩:=JJU h
    exact ⟨e',by simp [h1],h2⟩
  ·obtain ⟨e',h1,h2⟩:=JJU h
   exact ⟨e',by simp [h1],h2⟩
theorem JLv {ops:Array Oper}:∀ {n i j:Nat},YR ops n i j=true→YR ops (n+1) i j=true
 |0,_,_,h=>by simp [YR] at h
 |n+1,i,j,h=>by
  unfold YR at h ⊢
  cases ho:ops[i]? with
  |none=>rw [ho] at h;cases h
  |some o=>
   rw [ho] at h
   simp only [Array.any_eq_true,Bool.and_eq_true,Bool.or_eq_true] at h ⊢
   obtain ⟨k,hk,h1,h2⟩:=h
   exact ⟨k,hk,h1,h2.imp id fun h=>JLv h⟩
theorem JLu {ops:Array Oper}{n m i j:Nat}(h:YR ops n i j=true)(hnm:n≤m):YR ops m i j=true:=by
 obtain ⟨k,rfl⟩:∃k,m=n+k:=⟨m-n,by omega⟩
 clear hnm
 induction k with
 |zero=>exact h
 |succ k ih=>exact JLv ih
theorem JOY {ops:Array Oper}:∀(r:List Oper) (T:List (List Nat)),(∀i j,j∈(T[i]?).getD []→YR ops (i+1) i j=true)→(∀k o,r[k]? = some o→ops[T.length+k]? = some o) →
  ∀i j,j∈((JHw T r)[i]?).getD []→YR ops (i+1) i j=true
 |[],_,hT,_=>hT
 |o::r,T,hT,ho=>by
  refine JOY r _ (fun i j hj=>?_) fun k o' hk=>by
   have:=ho (k+1) o' (by simpa using hk)
   rw [List.length_append,List.length_singleton]
   rw [show T.length+1+k=T.length+(k+1) by omega];exact this
  by_cases hi:i<T.length
  ·rw [List.getElem?_append_left hi] at hj;exact hT i j hj
  ·rw [List.getElem?_append_right (by omega)] at hj
   by_cases he:i-T.length=0
   ·have hit:i=T.length:=by omega
    rw [he] at hj
    simp only [List.getElem?_cons_zero,Option.getD_some] at hj
    obtain ⟨e,h1,h2,h3⟩:=JJU hj
    have ho':ops[i]? = some o:=by have:=ho 0 o rfl;rw [Nat.add_zero] at this;rw [hit];exact this
    unfold YR
    rw [ho']
    simp only [Array.any_eq_true',Bool.and_eq_true,Bool.or_eq_true,beq_iff_eq]
    refine ⟨e,by simpa using h1,h2,h3.imp id fun h=>?_⟩
    have hlt:e.on<T.length:=by
     rcases Nat.lt_or_ge e.on T.length with h4|h4
     ·exact h4
     ·rw [List.getElem?_eq_none h4] at h;simp at h
    exact JLu (hT _ _ h) (by omega)
   ·obtain ⟨q,hq⟩:∃q,i-T.length=q+1:=⟨i-T.length-1,by omega⟩
    rw [hq] at hj
    simp at hj
theorem JM3 {ops:Array Oper}{T:List (List Nat)}{n:Nat}(hT:∀i j,j∈(T[i]?).getD []→YR ops n i j=true):∀ {l:List (Nat × Fp)},JFn T l=true→ZJ ops n l=true
 |[],_=>rfl
 |(i,f)::r,h=>by
  unfold JFn at h
  unfold ZJ
  rw [Bool.and_eq_true,List.all_eq_true] at h ⊢
  refine ⟨fun p hp=>?_,JM3 hT h.2⟩
  have:=h.1 p hp
  rw [Bool.or_eq_true] at this ⊢
  refine this.imp id fun h=>hT _ _ ?_
  simpa using h
theorem JSm {ops:Array Oper}{n:Nat}{l:List (Nat × Fp)}(hn:ops.size≤n)(h:JFn (JHw [] ops.toList) l=true):ZJ ops n l=true:=by
 refine JM3 (fun i j hj=>?_) h
 have h1:=JOY (ops:=ops) ops.toList [] (fun i j hj=>by simp at hj) (fun k o hk=>by simpa using hk) i j hj
 have hi:i<ops.size:=by
  rcases Nat.lt_or_ge i ops.size with h2|h2
  ·exact h2
  ·unfold YR at h1
   rw [Array.getElem?_eq_none h2] at h1;cases h1
 exact JLu h1 (by omega)
section
variable {P:Program} {ops:Array Oper} {A A' B:JE} {fs:List Fp} {K:JE→Prop}
theorem QO.finT {n:Nat}{K:JE→Prop}(hl:(decide (fs.length=ops.size)&&down ops)=true)(hn:decide (ops.size≤n)=true)(ho:JFn (JHw [] ops.toList) ((List.range ops.size).zip fs)=true)(h:K B):QO ops n (fun B=>∃B',JN B B' ∧ K B') fs B:=
 QO.fin hl (JSm (of_decide_eq_true hn) ho) h
end
end Go.Mw
namespace Go.Mw
theorem JB.joinA {P:Program}{Φ:Exit→JE→Prop}{A:JE}{x y:Code}{σ:Type}(ss os:List Nat)(upd:σ→List Wr)(X:σ→Prop){S:σ→JE}(hst:∀t,(A.put (upd t)).keep ss os=S t)
  (h1:JB P x (Zq S X Φ) A) (h2:∀t,X t→JB P y Φ (S t)):JB P (.seq x y) Φ A:=JB.joinS S X h1 h2
def Zm {σ:Type}(S:σ→JE)(X:σ→Prop)(μ:σ→Nat)(t:σ)(Φ:Exit→JE→Prop):Exit→JE→Prop:=fun e A=>match e with
 |.normal=>∃t',μ t'<μ t∧X t' ∧ JN A (S t')
 |e=>Φ e A
theorem JB.whl {P:Program}{Φ:Exit→JE→Prop}{A:JE}{body:Code}{σ:Type}(ss os:List Nat)(upd:σ→List Wr)(X:σ→Prop)(μ:σ→Nat)(t0:σ){S:σ→JE}(hst:∀t,(A.put (upd t)).keep ss os=S t)(hg:A.keep ss os=S t0)(h0:X t0)
  (hr:∀t,X t→JB P body (Zm S X μ t Φ) (S t)):JB P (.loop body) Φ A:=by
 refine ⟨fun n A1=>∃t,n=μ t∧A1=S t∧X t,⟨μ t0,S t0,hg▸JN.keep A ss os,t0,rfl,rfl,h0⟩,fun n A1 ⟨t,hn,hA,hX⟩=>?_⟩
 subst hA
 refine JB.mono body (fun e A2 h=>?_) (hr t hX)
 cases e with
 |normal=>
  obtain ⟨t',hlt,hX',hg'⟩:=h
  exact ⟨μ t',S t',by omega,hg',t',rfl,rfl,hX'⟩
 |_=>exact h
theorem Zm.nxt {σ:Type}{S:σ→JE}{X:σ→Prop}{μ:σ→Nat}{t:σ}{Φ:Exit→JE→Prop}{A:JE}(t':σ)(h1:μ t'<μ t)(h2:X t')(h3:JN A (S t')):Zm S X μ t Φ .normal A:=⟨t',h1,h2,h3⟩
theorem Zm.ext {σ:Type}{S:σ→JE}{X:σ→Prop}{μ:σ→Nat}{t:σ}{Φ:Exit→JE→Prop}{A:JE}{j:Nat}(h:Φ (.exit j) A):Zm S X μ t Φ (.exit j) A:=h
theorem Zm.ret {σ:Type}{S:σ→JE}{X:σ→Prop}{μ:σ→Nat}{t:σ}{Φ:Exit→JE→Prop}{A:JE}(h:Φ .ret A):Zm S X μ t Φ .ret A:=h
end Go.Mw
namespace Go.Mw
def yB:List (List AV)→(Bool→Jh)→Jh
 |[],κ=>κ true
 |v::r,κ=>.yld v fun b=>bif b then yB r κ else κ false
theorem JVv (v:List AV)(r:List (List AV))(κ:Bool→Jh):yB (v::r) κ=.yld v fun b=>bif b then yB r κ else κ false:=rfl
abbrev JJ0 (Q:List (Nat × AO)):Bool→Jh:=fun t=>.ret (.bool t) Q
theorem JO2 {Q:List (Nat × AO)}{res:AV}{obs:List (Nat × AO)}:∀ {l:List (List AV)},Jh.Leaf (yB l (JJ0 Q)) res obs→∃t,res=.bool t∧obs=Q
 |[],h=>by
  obtain ⟨h1,h2⟩:=Jh.Leaf.inv h
  exact ⟨true,h1,h2⟩
 |v::r,h=>by
  rw [JVv] at h
  cases h with
  |yld t h=>
   cases t with
   |true=>exact JO2 h
   |false=>
    obtain ⟨h1,h2⟩:=Jh.Leaf.inv h
    exact ⟨false,h1,h2⟩
theorem JEB (x:AO):Z8 x x:=by
 cases x with
 |cells ls=>exact ⟨ls,rfl⟩
 |arr e k es=>exact ⟨es,rfl,Nat.le_refl _⟩
 |clo f ls=>rfl
 |yl=>rfl
 |map es=>rfl
 |mth f ls=>rfl
 |pin v l=>rfl
 |iter ls n sn c=>rfl
 |sit s p=>rfl
 |byt b c l=>rfl
theorem JQ2 {A:JE}{B:Nat}{lend:List (Nat × Nat)}{Q:List (Nat × AO)}{l:List (List AV)}(hdom:lend.map Prod.fst=Q.map Prod.fst)(hinj:(lend.map Prod.snd).Nodup)
  (hin:Q.all (fun p=>p.2.inn (Ql Q))=true) (hob:∀p∈Q,∀n,look lend p.1=some n→A.obj n=some (p.2.ren (rn lend B))) (htg:(lend.all fun p=>ZF (p.2%1000)==ZF (p.1%1000))=true:=by rfl):Z0 A B lend Q (yB l (JJ0 Q)):=by
 have key:∀ {α β:Type} {l:List (Nat × α)} {m:List (Nat × β)},l.map Prod.fst=m.map Prod.fst→∀ {q:Nat} {y:β},look m q=some y→∃n,look l q=some n:=fun {α β l m}=>by
  induction l generalizing m with
  |nil=>
   intro h q y hy
   cases m with
   |nil=>cases hy
   |cons _ _=>cases h
  |cons p l ih=>
   intro h q y hy
   cases m with
   |nil=>cases hy
   |cons r m=>
    simp only [List.map_cons,List.cons.injEq] at h
    obtain ⟨k,v⟩:=p
    obtain ⟨k',v'⟩:=r
    simp only at h
    unfold look at hy ⊢
    by_cases e:q=k
    ·exact ⟨v,if_pos e⟩
    ·rw [if_neg (by rw [←h.1];exact e)] at hy
     rw [if_neg e]
     exact ih h.2 hy
 refine ⟨fun q x hx=>?_,fun q n hq=>key hdom.symm hq,fun q q' n h h'=>?_,fun q n ls h _=>by simpa using List.all_eq_true.1 htg _ (JBP h),fun res obs hl=>?_⟩
 ·obtain ⟨n,hn⟩:=key hdom hx
  exact ⟨n,_,hn,hob _ (JBP hx) n hn,QI.refl _,(List.all_eq_true.1 hin) _ (JBP hx)⟩
 ·have h1:=JBP h
  have h2:=JBP h'
  obtain ⟨i,hi⟩:=List.getElem?_of_mem h1
  obtain ⟨j,hj⟩:=List.getElem?_of_mem h2
  have hi':(lend.map Prod.snd)[i]? = some n:=by rw [List.getElem?_map,hi];rfl
  have hj':(lend.map Prod.snd)[j]? = some n:=by rw [List.getElem?_map,hj];rfl
  obtain ⟨a,ha⟩:=List.getElem?_eq_some_iff.1 hi'
  obtain ⟨b,hb⟩:=List.getElem?_eq_some_iff.1 hj'
  have:=(List.getElem_inj hinj).1 (ha.trans hb.symm)
  subst this
  rw [hi] at hj
  cases hj
  rfl
 ·obtain ⟨t,_,rfl⟩:=JO2 hl
  refine ⟨fun q x hx=>⟨x,hx,JEB x⟩,fun q x' hx hn=>?_⟩
  obtain ⟨n,hn'⟩:=key hdom hx
  rw [hn] at hn';cases hn'
section
variable {P:Program} {ops:Array Oper} {A A':JE} {Φ:JE→Prop} {r:List Oper}
end
end Go.Mw
namespace Go.Mw
section
variable {P:Program} {ops:Array Oper} {A A':JE} {acc:List Fp} {K:List Fp→JE→Prop} {r:List (Oper × Nat)}
theorem JF.lendO {i d:Nat}{f:Operand}{g:FuncId}{ds:List D}{as:List Operand}{tys:Array TypeId}{ty:TypeId}{pos:String}{af:Array Edge}{gd:Option (Nat × Bool)}{args:List AV}{res:AV}{vs:List AV}{rs wl:List Loc}(q n:Nat){x:AO}(hfl:x.flat=true)
  (hwt:J5 ops gd A=some true) (hc:Qq P g args [(q,x)] (.ret res [(q,x)])) (hcan:JO P g=true) (hf:A.ev f=.leaf (.d (.fn g ds))) (hv:as.map A.ev=vs) (hob:A.obj n=some x)
  (hwk:JS (Jj (rn [(q,n)] (1000*(d+1))) [q]) (vs++ds.map fun x=>.leaf (.d x)) args)
  (hp:A.put [.obj n x,.slot d (res.ren (rn [(q,n)] (1000*(d+1))))]=A')
  (hr:Qt ops ⟨some d,.call { callee:=.value f,args:=as.toArray,argTypes:=tys },ty,pos,af,gd⟩++(Q1 (f::as)++[.obj n])=rs) (hw:YO [.obj n x,.slot d (res.ren (rn [(q,n)] (1000*(d+1))))]=wl)
  (h':JF P ops r A' (⟨rs,wl⟩::acc) K):JF P ops ((⟨some d,.call { callee:=.value f,args:=as.toArray,argTypes:=tys },ty,pos,af,gd⟩,i)::r) A acc K:=
 .cons (fun ho _ _ hrun=>⟨_,_,ho,by
  have:=YV.lend (ops:=ops) (o:=⟨some d,.call { callee:=.value f,args:=as.toArray,argTypes:=tys },ty,pos,af,gd⟩) _ _ hwt ⟨d,f,as,g,ds,args,res,q,n,x,rfl,by simp [Yy],hf,hcan,by rw [hv];exact hwk,hc,⟨hob,hfl⟩,rfl,rfl⟩
  rw [hr] at this
  exact this,hw.symm,hp▸hrun⟩) h'
theorem JF.lend {i d:Nat}{f:Operand}{g:FuncId}{ds:List D}{as:List Operand}{tys:Array TypeId}{ty:TypeId}{pos:String}{af:Array Edge}{gd:Option (Nat × Bool)}{args:List AV}{res:AV}{vs:List AV}{rs wl:List Loc}(q n:Nat){e:TypeId}{k:Nat}{es:List (List D)}
  (hwt:J5 ops gd A=some true) (hc:Qq P g args [(q,.arr e k es)] (.ret res [(q,.arr e k es)])) (hcan:JO P g=true) (hf:A.ev f=.leaf (.d (.fn g ds))) (hv:as.map A.ev=vs) (hob:A.obj n=some (.arr e k es))
  (hwk:JS (Jj (rn [(q,n)] (1000*(d+1))) [q]) (vs++ds.map fun x=>.leaf (.d x)) args)
  (hp:A.put [.obj n (.arr e k es),.slot d (res.ren (rn [(q,n)] (1000*(d+1))))]=A')
  (hr:Qt ops ⟨some d,.call { callee:=.value f,args:=as.toArray,argTypes:=tys },ty,pos,af,gd⟩++(Q1 (f::as)++[.obj n])=rs) (hw:YO [.obj n (.arr e k es),.slot d (res.ren (rn [(q,n)] (1000*(d+1))))]=wl)
  (h':JF P ops r A' (⟨rs,wl⟩::acc) K):JF P ops ((⟨some d,.call { callee:=.value f,args:=as.toArray,argTypes:=tys },ty,pos,af,gd⟩,i)::r) A acc K:=
 JF.lendO q n rfl hwt hc hcan hf hv hob hwk hp hr hw h'
end
end Go.Mw
namespace Go.Mw
open Go.RowKit
section next
variable {P:Program} {o:Oper} {A:JE} {d:Nat}
end next
section steps
variable {P:Program} {ops:Array Oper} {Φ:JE→Prop} {r:List Oper} {A A':JE}
end steps
def AL.fl:AL→Option FL
 |.d x=>some (.d x)
 |.own o i n t=>some (.own o i n t)
 |.obj o=>some (.obj o)
 |.dead=>some .dead
 |.ptr _ _=>none
 |.eptr _ _ _ _=>none
 |.fpt _=>none
 |.csl _ _ _=>none
def JCE:List AL→Option (List FL)
 |[]=>some []
 |l::r=>match l.fl,JCE r with
  |some f,some fs=>some (f::fs)
  |_,_=>none
theorem JRl {l:AL}{f:FL}(h:l.fl=some f):f.al=l:=by cases l<;>simp only [AL.fl,Option.some.injEq,reduceCtorEq] at h<;>subst h<;>rfl
theorem JME:∀ {ls:List AL} {fs:List FL},JCE ls=some fs→ls=fs.map FL.al
 |[],fs,h=>by simp only [JCE,Option.some.injEq] at h;subst h;rfl
 |l::ls,fs,h=>by
  unfold JCE at h
  cases hl:l.fl with
  |none=>simp [hl] at h
  |some f=>
   cases hr:JCE ls with
   |none=>simp [hl,hr] at h
   |some gs=>
    simp only [hl,hr,Option.some.injEq] at h
    subst h
    rw [List.map_cons,JRl hl,←JME hr]
def AL.frp (o:Nat)(fs:List FL):AL→AL
 |.ptr q i=>if q=o then .fpt (fs.drop i) else .ptr q i
 |.csl q i n=>if q=o then .dead else .csl q i n
 |l=>l
def JE.frp (A:JE)(o:Nat):JE:=match A.obj o with
 |some (.cells ls)=>match JCE ls with
  |some fs=>A.settle o (AL.frp o fs)
  |none=>A
 |_=>A
theorem JN.frp (A:JE)(o:Nat):JN A (A.frp o):=by
 unfold JE.frp
 split
 ·rename_i ls ho
  split
  case h_2=>exact JN.refl A
  rename_i fs hp
  have hls:=JME hp
  refine JN.settle A o _ ho _ fs.length id (fun f=>by cases f<;>rfl) (fun fs=>by simp [AL.frp]) fun S S' ι w H' hok hS hT hH l v hne h=>?_
  obtain ⟨b,vs,el,hι,hheap,hall,_⟩:=hok
  have h1:=Jd.one S ι A.obj w h
  have hd:∀x v,RepD S w x v→RepD S' w x v:=fun x v h=>RepD.mono (S':=S') (w:=w) (w':=w) hS (fun _ _ _=>rfl) h
  have flat:∀(f:FL) u,ZQ S ι A.obj w f u→ZQ S' ι H' w f u:=by
   intro f u hf
   have h1:=ZQ.one S ι A.obj w hf
   cases f with
   |d x=>exact hd _ _ hf
   |own q i n t=>
    obtain ⟨_,e',k',es',hq,hv⟩:=hf
    have hqo:q≠o:=fun e=>by rw [e,ho] at hq;cases hq
    exact ⟨h1,e',k',es',hH q _ hq hqo,hv⟩
   |obj q=>
    obtain ⟨_,hv,x,hq,hx⟩:=hf
    have hqo:q≠o:=fun e=>by rw [e,ho] at hq;cases hq;cases hx
    exact ⟨h1,hv,_,hH q _ hq hqo,by cases x<;>first|rfl|simp [AO.whole] at hx⟩
   |dead=>exact hf
  cases l with
  |d x=>exact hd _ _ h
  |ptr q i=>
   simp only [AL.frp]
   split
   ·rename_i hqo
    have hqo:=hqo.symm
    subst hqo
    obtain ⟨ls0,b',hq,hι',rfl⟩:=h
    rw [hι] at hι'
    simp only [Value.pointer.injEq,Option.some.injEq,Addr.mk.injEq,and_true] at hι'
    subst hι'
    refine ⟨b,i,rfl,fun j f hj=>?_⟩
    rw [List.getElem?_drop] at hj
    refine ⟨hT b _ (by rw [hι];rfl) (List.getElem?_eq_some_iff.1 hj).1,?_⟩
    obtain ⟨u,hu,hr⟩:=hall.get' (i:=i+j) (a:=f.al) (by rw [hls,List.getElem?_map,hj];rfl)
    exact ⟨u,by rw [JEG (H:=A.obj) hheap];exact hu,flat f u ((JHo S ι A.obj w).2 hr)⟩
   ·rename_i hqo
    obtain ⟨ls0,b',hq,hι',hv⟩:=h
    exact ⟨_,b',hH q _ hq hqo,hι',hv⟩
  |eptr q i j t=>
   obtain ⟨_,e',k',es',hq,hv⟩:=h
   have hqo:q≠o:=fun e=>by rw [e,ho] at hq;cases hq
   exact ⟨h1,e',k',es',hH q _ hq hqo,hv⟩
  |own q i n t=>exact flat (.own q i n t) v h
  |obj q=>exact flat (.obj q) v h
  |fpt fs=>exact absurd rfl (hne fs)
  |csl q i n=>
   simp only [AL.frp]
   split
   ·exact h1
   ·rename_i hqo
    obtain ⟨ls0,b',c',hq,hι',hv⟩:=h
    exact ⟨_,b',c',hH q _ hq hqo,hι',hv⟩
  |dead=>exact h
 ·exact JN.refl A
def JIx (tm:List (Nat × AV))(ob:List (Nat × AO))(bh:Jh)(o:Nat):Option AO→JE
 |some (.cells ls)=>match JCE ls with
  |some fs=>⟨JBu (AL.frp o fs) tm,JA4 o (AL.frp o fs) ob,bh⟩
  |none=>⟨tm,ob,bh⟩
 |_=>⟨tm,ob,bh⟩
attribute [go_sem] JIx AL.fl JCE AL.frp
@[go_sem] theorem JXU (tm:List (Nat × AV))(ob:List (Nat × AO))(bh:Jh)(o:Nat):(JE.mk tm ob bh).frp o=JIx tm ob bh o (look ob o):=by
 unfold JE.frp
 simp only [JE.obj,JE.settle]
 cases h:look ob o with
 |none=>rfl
 |some x=>cases x<;>first|rfl|(rename_i ls;cases hp:JCE ls<;>simp [JIx,hp])
theorem JA.frp {P:Program}{ops:Array Oper}{Φ:JE→Prop}{A A':JE}{l:List Oper}(o:Nat)(hp:A.frp o=A')(h':JA P ops Φ l A'):JA P ops Φ l A:=.ghost (JN.frp A o) (hp▸h')
theorem JRr {S:Jc}{ι:Nat→Value}{H:Nat→Option AO}{w:World}{fs:List FL}{ds:List D}{v:Value}(hd:J6 ((fs.take ds.length).map FL.al)=some ds)(h:Jd S ι H w (.fpt fs) v):RepD S w (.pt ds) v:=by
 obtain ⟨b,off,rfl,hf⟩:=h
 have key:∀(ds:List D) (fs:List FL) (n:Nat),J6 ((fs.take n).map FL.al)=some ds→∀(j:Nat) (d:D),ds[j]? = some d→fs[j]? = some (FL.d d):=by
  intro ds
  induction ds with
  |nil=>intro fs n _ j d hj;simp at hj
  |cons x ds ih=>
   intro fs n hp j d hj
   cases n with
   |zero=>simp [J6] at hp
   |succ n=>
    cases fs with
    |nil=>simp [J6] at hp
    |cons f fs=>
     cases f with
     |d y=>
      simp only [List.take_succ_cons,List.map_cons,FL.al,J6] at hp
      cases hq:J6 ((fs.take n).map FL.al) with
      |none=>rw [hq] at hp;cases hp
      |some es=>
       rw [hq] at hp;simp only [Option.some.injEq,List.cons.injEq] at hp
       obtain ⟨rfl,rfl⟩:=hp
       cases j with
       |zero=>simpa using hj
       |succ j=>simpa using ih fs n hq j d (by simpa using hj)
     |_=>simp [FL.al,J6] at hp
 have hex:∀(j:Nat) (d:D),ds[j]? = some d→S b (off+j)∧∃u,w.cell? ⟨b,off+j,none⟩=some u∧RepD S w d u:=fun j d hj=>hf j (FL.d d) (key ds fs _ hd j d hj)
 refine RepD.pt ds b off (fun j=>(w.cell? ⟨b,off+j,none⟩).getD undef) (fun j d hj=>(hex j d hj).1) (fun j d hj=>?_) fun j d hj=>?_
 ·obtain ⟨_,u,h1,_⟩:=hex j d hj;rw [h1];rfl
 ·obtain ⟨_,u,h1,h2⟩:=hex j d hj;rw [h1];exact h2
theorem Jj.fpt {r:Nat→Nat}{ns:List Nat}{fs:List FL}{ds:List D}(hd:J6 ((fs.take ds.length).map FL.al)=some ds):Jj r ns (.leaf (.fpt fs)) (.leaf (.d (.pt ds))):=
 ⟨rfl,fun S ι H w v ⟨l,hl,hr⟩=>by simp at hl;subst hl;exact ⟨_,rfl,JRr hd hr⟩⟩
theorem JN.wkc {A:JE}{q:Nat}{ls:List AL}(ls':List AL)(ho:A.obj q=some (.cells ls))(h:∀(S:Jc) (ι:Nat→Value) (H:Nat→Option AO) (w:World) (vs:List Value),JS (Jd S ι H w) ls vs→JS (Jd S ι H w) ls' vs) :
  JN A (A.put [.obj q (.cells ls')]):=by
 have hm:∀(S:Jc) (ι:Nat→Value) (w:World),Mv S ι A.obj w S ι (A.put [.obj q (.cells ls')]).obj w:=fun S ι w=>{
  d:=fun _ _ h=>h
  c:=fun o l hl=>by
   by_cases e:o=q
   ·subst e;exact ⟨⟨_,ZW _ _ _⟩,rfl⟩
   ·exact ⟨⟨l,by rw [Zo _ _ e,hl]⟩,rfl⟩
  a:=fun o e k es hl=>by
   by_cases e1:o=q
   ·subst e1;rw [ho] at hl;cases hl
   ·exact ⟨es,by rw [Zo _ _ e1,hl],Nat.le_refl _,fun _=>rfl⟩
  s:=fun _ _ h=>⟨h,rfl⟩
  w:=fun o x hl hx=>by
   by_cases e1:o=q
   ·subst e1;rw [ho] at hl;cases hl;cases hx
   ·exact ⟨⟨x,by rw [Zo _ _ e1,hl],hx⟩,rfl⟩ }
 refine JCF (fun S ι w s v hr=>(hm S ι w).v hr) fun S ι w o x' hx'=>?_
 by_cases e:o=q
 ·subst e
  rw [ZW] at hx'
  cases hx'
  refine ⟨_,ho,fun ⟨b,vs,el,h1,h2,h3,h5⟩=>⟨b,vs,el,h1,h2,(h S ι A.obj w vs h3).mono fun _ _=>(hm S ι w).l,h5⟩,fun h=>(by cases h),fun _ _ _ h=>h⟩
 ·rw [Zo _ _ e] at hx'
  exact ⟨x',hx',fun h=>h.other (hm S ι w) rfl (fun _ _=>rfl) fun _ _ _ h=>h,fun h=>h,fun _ _ _ h=>h⟩
theorem JN.nilc (A:JE)(q j o:Nat)(e:TypeId)(k:Nat){ls:List AL}(hq:A.obj q=some (.cells ls))(hj:ls[j]? = some (.d (.raw (.slice none 0 0))))(ho:A.obj o=none)(hk:0<k)(hN:1000≤o) :
  JN A (A.put [.obj o (.arr e k []),.obj q (.cells (ls.set j (.own o 0 0 0)))]):=by
 intro P C a w ⟨S,M,ι,hR⟩
 have hqo:q≠o:=fun h=>by rw [h,ho] at hq;cases hq
 have hon:Qu ι A o w w:=⟨rfl,rfl,rfl,Nat.le_refl _,fun _ _ _=>rfl⟩
 have ht:Qx ι A o (.arr e k []) (.slice none 0 0):=JAi ho _ _
 have hpin:C.pin o=none:=by
  cases hp:C.pin o with
  |none=>rfl
  |some q=>have:=hR.pinN o (by rw [hp];simp);omega
 have h1:=hR.chg hon ht ⟨[],by rw [upd_same];exact World.ownsRow_nil w 0 e k,by trivial,by simp,hk,fun b hb=>by rw [upd_same] at hb;simp [blk] at hb⟩ (fun b hb=>by simp [blk] at hb) (by simp) fun _=>hpin
 have hq1:(A.put [.obj o (.arr e k [])]).obj q=some (.cells ls):=(Zo _ _ hqo).trans hq
 obtain ⟨b,vs,el,g1,g2,g3,g5⟩:=h1.objs q _ hq1
 have hon2:Qu (upd ι o (.slice none 0 0)) (A.put [.obj o (.arr e k [])]) q w w:=⟨rfl,rfl,rfl,Nat.le_refl _,fun _ _ _=>rfl⟩
 have ht2:Qx (upd ι o (.slice none 0 0)) (A.put [.obj o (.arr e k [])]) q (.cells (ls.set j (.own o 0 0 0))) ((upd ι o (.slice none 0 0)) q):=by unfold Qx;rw [hq1];exact ⟨⟨_,rfl⟩,rfl⟩
 have hm2:=hon2.mv h1 ht2
 have hown:Jd S (upd ι o (.slice none 0 0)) (A.put [.obj o (.arr e k [])]).obj w (.own o 0 0 0) (.slice none 0 0):=
  ⟨rfl,e,k,[],ZW _ _ _,Nat.le_refl _,fun _=>⟨Nat.le_refl _,by rw [upd_same];exact JAj.tip (World.ownsRow_nil w 0 e k)⟩⟩
 have hset:JS (Jd S (upd ι o (.slice none 0 0)) (A.put [.obj o (.arr e k [])]).obj w) (ls.set j (.own o 0 0 0)) vs:=by
  refine JS.ofGet (by simpa using g3.length) fun i l v hl hv=>?_
  by_cases hij:j=i
  ·subst hij
   rw [List.getElem?_set_self (List.getElem?_eq_some_iff.1 hj).1] at hl
   cases hl
   have:=g3.get hj hv
   cases this
   exact hown
  ·rw [List.getElem?_set_ne hij] at hl
   exact g3.get hl hv
 have h2:=h1.chg hon2 ht2 ⟨b,vs,el,by rw [upd_same];exact g1,g2,hset.mono fun _ _=>hm2.l,g5⟩ (fun b1 hb1=>.inr ⟨_,hq1,hb1⟩) (by simp) (fun hnone=>by rw [hq1] at hnone;cases hnone)
 exact ⟨S,_,_,h2⟩
end Go.Mw
namespace Go.Mw
open Go.RowKit
def Zn (w:World):Jc:=fun b _=>b<w.heap.size
def Env.quiet (P:Program)(l:Nat)(w0:World):Env P where
 l:=l
 J b S M w:=(∃res obs,b=.ret res obs)∧w0.heap.size≤w.heap.size∧(∀k,k<w0.heap.size→w.heap[k]? = w0.heap[k]?)∧(∀k,M k→w0.heap.size≤k)∧w.os=w0.os∧w.tape=w0.tape∧w.output=w0.output∧Zk P S w
 glob:=fun h=>h.2.2.2.2.2.2.2
 step:=fun ⟨h1,h2,h3,h4,h5,h6,h7,h8⟩ hf hM hN hS hT=>
  ⟨h1,Nat.le_trans h2 hf.size,fun k hk=>(hf.block k (by omega) fun hm=>by have:=h4 k hm;omega).trans (h3 k hk),fun k hk=>by
   rcases hN k hk with h|⟨h,_⟩
   ·exact h4 k h
   ·omega,hf.os.trans h5,hf.tape.trans h6,hf.output.trans h7,h8.step hS hf.cell⟩
 yld:=fun ⟨⟨res,obs,h⟩,_⟩ _=>by cases h
def JBv:AL→Bool
 |.d (.raw _)=>true
 |.d _=>false
 |.own _ _ _ _=>true
 |.csl _ _ _=>true
 |.ptr _ _=>true
 |.eptr _ _ _ _=>true
 |.obj _=>true
 |.fpt _=>false
 |.dead=>true
def JFu:D→Bool
 |.raw _=>true
 |_=>false
def JFv:AO→Bool
 |.arr _ _ es=>es.flatten.all JFu
 |.cells ls=>ls.all JBv
 |_=>false
def JEe:AV→Bool
 |.val _ ls=>ls.all JBv
 |.tup cs=>cs.all fun c=>c.2.all JBv
 |.cnd _ _=>false
 |.dead=>true
section raw
variable {S S':Jc} {ι:Nat→Value} {H:Nat→Option AO} {w:World}
theorem JNU {x:D}{v:Value}(h:JFu x=true)(hr:RepD S w x v):RepD S' w x v:=by
 cases hr<;>simp only [JFu,Bool.false_eq_true] at h
 exact RepD.raw _ (by assumption)
theorem JNW {l:AL}{v:Value}(h:JBv l=true)(hr:Jd S ι H w l v):Jd S' ι H w l v:=by
 cases l with
 |d x=>
  cases x<;>simp only [JBv,Bool.false_eq_true] at h
  exact JNU (x:=.raw _) rfl hr
 |fpt fs=>simp [JBv] at h
 |_=>exact hr
theorem JJs:∀ {ls:List AL} {vs:List Value},ls.all JBv=true→JS (Jd S ι H w) ls vs→JS (Jd S' ι H w) ls vs
 |[],[],_,_=>trivial
 |l::ls,v::vs,h,hr=>by
  simp only [List.all_cons,Bool.and_eq_true] at h
  exact ⟨JNW h.1 hr.1,JJs h.2 hr.2⟩
 |[],_::_,_,hr=>hr.elim
 |_::_,[],_,hr=>hr.elim
theorem JNV:∀ {ls:List D} {vs:List Value},ls.all JFu=true→JS (RepD S w) ls vs→JS (RepD S' w) ls vs
 |[],[],_,_=>trivial
 |l::ls,v::vs,h,hr=>by
  simp only [List.all_cons,Bool.and_eq_true] at h
  exact ⟨JNU h.1 hr.1,JNV h.2 hr.2⟩
 |[],_::_,_,hr=>hr.elim
 |_::_,[],_,hr=>hr.elim
theorem JNT {ag:Bool}{ls:List AL}{v:Value}(h:ls.all JBv=true)(hr:Qv S ι H w ag ls v):Qv S' ι H w ag ls v:=by
 cases ag with
 |true=>obtain ⟨vs,hv,ha⟩:=hr;exact ⟨vs,hv,JJs h ha⟩
 |false=>obtain ⟨l,rfl,ha⟩:=hr;exact ⟨l,rfl,JNW (by simpa using h) ha⟩
theorem JNX:∀ {cs:List (Bool × List AL)} {vs:List Value},cs.all (fun c=>c.2.all JBv)=true→JS (fun c u=>Qv S ι H w c.1 c.2 u) cs vs→JS (fun c u=>Qv S' ι H w c.1 c.2 u) cs vs
 |[],[],_,_=>trivial
 |c::cs,v::vs,h,hr=>by
  simp only [List.all_cons,Bool.and_eq_true] at h
  exact ⟨JNT h.1 hr.1,JNX h.2 hr.2⟩
 |[],_::_,_,hr=>hr.elim
 |_::_,[],_,hr=>hr.elim
theorem JTn {x:AV}{v:Value}(h:JEe x=true)(hr:Jk S ι H w x v):Jk S' ι H w x v:=by
 cases x with
 |val ag ls=>exact JNT h hr
 |tup cs=>obtain ⟨vs,hv,ha⟩:=hr;exact ⟨vs,hv,JNX h ha⟩
 |cnd b x=>simp [JEe] at h
 |dead=>trivial
theorem JTm {o:Nat}{x:AO}(h:JFv x=true)(hS:∀b off,S' b off→S b off)(hr:Yw S ι H w o x):Yw S' ι H w o x:=by
 cases x with
 |cells ls=>obtain ⟨b,vs,el,h1,h2,h3,h5⟩:=hr;exact ⟨b,vs,el,h1,h2,JJs h h3,fun off hs=>h5.1 off (hS _ _ hs),h5.2⟩
 |arr e k es=>obtain ⟨xs,h1,h2,h3,h4,h5⟩:=hr;exact ⟨xs,h1,JNV h h2,h3,h4,fun b hb off hs=>h5 b hb off (hS _ _ hs)⟩
 |_=>simp [JFv] at h
end raw
section callT
variable {P:Program} {C:Ctx P} {S:Jc} {M:J7} {ι:Nat→Value} {A:JE} {a:Act} {w:World} {o:Oper} {d:Nat}
theorem JKE (hR:Jg C S M ι A a w)(hd:∀d,o.dst=some d→C.can d){g:FuncId}{args:List AV}{us:List Value}{res:AV}{obs:List (Nat × AO)}
  (hdst:o.dst=some d) (hexec:(execOp a.eval o).run P w=.ok (.enter g us.toArray) w) (h3:JS (Jk (Zn w) Yc (look []) w) args us)
  (hcon:Jb P g args res obs) (hraw:JEe res=true) (hrawo:obs.all (fun p=>JFv p.2)=true) (hfr:∀q x,look obs q=some x→A.obj (1000*(d+1)+q)=none) (Q:Exit→Act→World→Prop) :
  o.wpIn (Qb C) 0 P a w (fun a' w'=>J9 C (after A d (rn [] (1000*(d+1))) res obs A.bh) a' w') Q:=by
 refine JBZ hexec JBE ?_
 rw [Oper.uponIn_enter]
 refine ⟨JDP C,JEF C ?_⟩
 have hcall:=hcon (Env.quiet P C.E.l w) (Zn w) (fun _=>False) Yc w us (fun b _ h=>h) (fun _ h=>h.elim) (by intro o x h;cases h) (by intro o o' x x' b h;cases h) (by intro o x b h;cases h) (by intro o h;cases h) h3
  ⟨⟨res,obs,rfl⟩,Nat.le_refl _,fun _ _=>rfl,fun _ h=>h.elim,rfl,rfl,rfl,(C.E.glob hR.env).step (fun b o h=>hR.inn b o h) fun _ _ _=>rfl⟩
 refine hcall.mono fun e w' ⟨v,res',obs',S',M',ι',he,hl,⟨_,hsz,hheap,hMnew,hos,htape,hout,_⟩,hp⟩=>?_
 obtain ⟨rfl,rfl⟩:=Jh.Leaf.inv hl
 subst he
 rw [hdst]
 have hcell:∀b o,b<w.heap.size→w'.cell? ⟨b,o,none⟩=w.cell? ⟨b,o,none⟩:=fun b o h=>World.cell?_of_block (hheap b h)
 let S2:Jc:=fun b o=>S b o∨(S' b o∧w.heap.size≤b)
 have hS2:∀b o,S2 b o→S' b o:=fun b o h=>h.elim (fun h=>hp.sub b o (hR.inn b o h)) (·.1)
 have hp2:JBb S [] (fun q=>ι (rn [] (1000*(d+1)) q)) C.E.l res' obs' v S2 M' ι' w':={
  sub:=fun _ _ h=>.inl h
  new:=fun b o h=>by
   rcases h with h|⟨h,hb⟩
   ·exact .inl h
   ·rcases hp.new b o h with h'|h'
    ·have:b<w.heap.size:=h'
     omega
    ·exact .inr h'
  inn:=fun b o h=>hp.inn b o (hS2 b o h)
  minn:=hp.minn
  res:=JTn hraw hp.res
  objs:=fun o x h=>JTm (List.all_eq_true.1 hrawo _ (JBP h)) hS2 (hp.objs o x h)
  dis:=hp.dis
  own:=hp.own
  tok:=hp.tok
  same:=fun o x x' h=>by cases h }
 have hE:C.E.J A.bh S2 (fun k=>M k∨M' k) w':=C.E.step hR.env ⟨hos,htape,hout,hsz,fun b hb _=>hheap b hb,fun b o h=>hcell b o (hR.inn b o h)⟩ (fun _ h=>.inl h) (fun k hk=>hk.imp id fun h=>⟨hMnew k h,hp.minn k h⟩) (fun _ _ h=>.inl h) fun b o h=>by
  rcases hp2.new b o h with h|h
  ·exact .inl h
  ·exact .inr (.inr h)
 have hok:Z0 A (1000*(d+1)) [] [] (.ret res' obs'):=⟨fun q x h=>(by cases h),fun q n h=>(by cases h),fun q q' n h=>(by cases h),fun q n ls h=>(by cases h),fun res obs hl=>by
  obtain ⟨rfl,rfl⟩:=Jh.Leaf.inv hl
  exact ⟨fun q x h=>(by cases h),fun q x h _=>hfr q x h⟩⟩
 exact hR.called hok (.ret _ _) (hd d hdst) hp2 hE (fun k hk _=>hheap k (hR.minn k hk)) (fun k hk=>.inr (hMnew k hk)) hsz fun b o h=>⟨.inl h,hcell b o (hR.inn b o h)⟩
theorem JJc (hR:Jg C S M ι A a w){q i n t e k:Nat}{es:List (List D)}{v:Value}(hq:A.obj q=some (.arr e k es))(ht:es.length=t)(h:Jd S ι A.obj w (.own q i n t) v):RepD (Zn w) w (.sl k ((es.drop i).take n)) v:=by
 obtain ⟨xs,hown,hall,hk,hk0,_⟩:=hR.objs q _ hq
 have hge:=fun b hb=>(hR.objs q _ hq).blk_ge (b:=b) hb
 have hd:∀x v,RepD S w x v→RepD (Zn w) w x v:=fun x v h=>RepD.mono (S':=Zn w) (w:=w) (w':=w) (fun b o h=>hR.inn b o h) (fun _ _ _=>rfl) h
 obtain ⟨_,e',k',es',hq',htl,hv⟩:=h
 rw [hq] at hq';simp only [Option.some.injEq,AO.arr.injEq] at hq'
 obtain ⟨rfl,rfl,rfl⟩:=hq'
 obtain ⟨hin,_,p,c,rfl,hnc,hp⟩:=hv ht
 have hlen:((es.drop i).take n).length=n:=by simp;omega
 by_cases hn:n=0
 ·subst hn
  simp only [List.take_zero]
  exact RepD.nil k _ _
 ·obtain ⟨b,c0,hτ,rfl,_⟩:=hp (by omega)
  have hown':=hown
  rw [hτ,ht] at hown'
  have key:∀(j:Nat) (y:List D),((es.drop i).take n)[j]? = some y→es[i+j]? = some y∧j<n:=fun j y hy=>by
   rw [List.getElem?_take] at hy
   split at hy
   ·rename_i hj;rw [List.getElem?_drop] at hy;exact ⟨hy,hj⟩
   ·cases hy
  have hb:blk (ι q)=some b:=by rw [hτ];rfl
  have hlt:∀(j q:Nat) (y:List D),((es.drop i).take n)[j]? = some y→q<y.length→(i+j)*k+q<t*k:=fun j q y hy hq=>by
   obtain ⟨h1,h2⟩:=key j y hy
   have:y.length=k:=hk y (List.mem_of_getElem? h1)
   calc (i+j)*k+q<(i+j)*k+k:=by omega
    _=(i+j+1)*k:=by simp [Nat.add_mul]
    _≤t*k:=Nat.mul_le_mul_right _ (by omega)
  have hadd:∀j q,i*k+j*k+q=(i+j)*k+q:=fun j q=>by rw [Nat.add_mul]
  have:=RepD.sl (S:=Zn w) (w:=w) k ((es.drop i).take n) b (i*k) c (fun j q=>xs.getD ((i+j)*k+q) undef) (by rw [hlen];exact hnc)
   (fun j y hy=>hk y (List.mem_of_getElem? (key j y hy).1))
   (fun j y q d hy hq=>(hge b hb).1)
   (fun j y q d hy hq=>by
    have h1:=hlt j q y hy (List.getElem?_eq_some_iff.1 hq).1
    rw [hadd,hown'.cellAt _ h1]
    have:(i+j)*k+q<xs.length:=by rw [hown'.1];exact h1
    simp [List.getD,List.getElem?_eq_getElem this])
   (fun j y q d hy hq=>by
    obtain ⟨v,hv,hr⟩:=hall.get' (flat_get hk (key j y hy).1 hq)
    have e:xs.getD ((i+j)*k+q) undef=v:=by simp [List.getD,hv]
    rw [e];exact hd _ _ hr)
  rw [hlen] at this
  exact this
def deep (H:Nat→Option AO):Nat→AL→Option D
 |0,_=>none
 |_+1,.d x=>some x
 |_+1,.own o i n t=>match H o with
  |some (.arr _ k es)=>if es.length=t then some (.sl k ((es.drop i).take n)) else none
  |_=>none
 |n+1,.csl o i len=>match H o with
  |some (.cells ls)=>match ls.mapM (deep H n) with
   |some ds=>if i=0∧0<len∧ds.length=len*(ds.length / len) then some (.sl (ds.length / len) ((List.range len).map fun j=>(ds.drop (j*(ds.length / len))).take (ds.length / len))) else none
   |none=>none
  |_=>none
 |_+1,_=>none
theorem JJR {α β:Type}{f:α→Option β}:∀ {l:List α} {m:List β},l.mapM f=some m→l.length=m.length∧∀(i:Nat) (a:α) (b:β),l[i]? = some a→m[i]? = some b→f a=some b
 |[],m,h=>by
  simp at h;subst h
  exact ⟨rfl,fun i a b h=>by simp at h⟩
 |x::l,m,h=>by
  rw [List.mapM_cons] at h
  cases hx:f x with
  |none=>simp [hx] at h
  |some y=>
   cases hl:l.mapM f with
   |none=>simp [hx,hl] at h
   |some m'=>
    simp [hx,hl] at h
    subst h
    obtain ⟨h1,h2⟩:=JJR hl
    refine ⟨by simp [h1],fun i a b ha hb=>?_⟩
    cases i with
    |zero=>simp at ha hb;subst ha hb;exact hx
    |succ i=>exact h2 i a b (by simpa using ha) (by simpa using hb)
theorem JIo (hR:Jg C S M ι A a w):∀(n:Nat) (l:AL) (d:D) (v:Value),deep A.obj n l=some d→Jd S ι A.obj w l v→RepD (Zn w) w d v
 |0,_,_,_,h,_=>by simp [deep] at h
 |n+1,l,x,v,h,hr=>by
  cases l with
  |d y=>
   simp only [deep,Option.some.injEq] at h
   subst h
   exact RepD.mono (S':=Zn w) (w:=w) (w':=w) (fun b o h=>hR.inn b o h) (fun _ _ _=>rfl) hr
  |own q i m t=>
   simp only [deep] at h
   split at h
   case h_2=>cases h
   rename_i e k es hq
   split at h
   case isFalse=>cases h
   rename_i ht
   simp only [Option.some.injEq] at h
   subst h
   exact JJc hR hq ht hr
  |csl q i len=>
   simp only [deep] at h
   split at h
   case h_2=>cases h
   rename_i ls hq
   split at h
   case h_2=>cases h
   rename_i ds hm
   split at h
   case isFalse=>cases h
   rename_i hc
   obtain ⟨rfl,hl0,hlen⟩:=hc
   simp only [Option.some.injEq] at h
   subst h
   generalize ds.length / len=k at hlen ⊢
   obtain ⟨ls0,b,c,hq',hι,rfl,hlc⟩:=hr
   have hlc:=Nat.le_of_eq hlc
   obtain ⟨b',vs,el,hι',hheap,hall,_⟩:=hR.objs q _ hq
   rw [hι] at hι'
   simp only [Value.pointer.injEq,Option.some.injEq,Addr.mk.injEq,and_true] at hι'
   subst hι'
   have hge:=((hR.objs q _ hq).blk_ge (b:=b) (by rw [hι];rfl)).1
   obtain ⟨hml,hmg⟩:=JJR hm
   have hds:∀(j:Nat) (y:D),ds[j]? = some y→∃u,vs[j]? = some u∧RepD (Zn w) w y u:=fun j y hy=>by
    have hj:j<ls.length:=by rw [hml];exact (List.getElem?_eq_some_iff.1 hy).1
    obtain ⟨u,hu,hru⟩:=hall.get' (List.getElem?_eq_getElem hj)
    exact ⟨u,hu,JIo hR n _ _ _ (hmg j _ _ (List.getElem?_eq_getElem hj) hy) hru⟩
   have hrow:∀(i:Nat) (e:List D),((List.range len).map fun j=>(ds.drop (j*k)).take k)[i]? = some e→i<len∧e=(ds.drop (i*k)).take k:=fun i e he=>by
    have hi:i<len:=by have:=(List.getElem?_eq_some_iff.1 he).1;simpa using this
    rw [List.getElem?_map,List.getElem?_range hi] at he
    simp at he
    exact ⟨hi,he.symm⟩
   have hel:∀(i:Nat) (e:List D) (j:Nat) (y:D),((List.range len).map fun j=>(ds.drop (j*k)).take k)[i]? = some e→e[j]? = some y→ds[i*k+j]? = some y:=fun i e j y he hy=>by
    obtain ⟨_,rfl⟩:=hrow i e he
    rw [List.getElem?_take] at hy
    split at hy
    ·rwa [List.getElem?_drop] at hy
    ·cases hy
   have:=RepD.sl (S:=Zn w) (w:=w) k ((List.range len).map fun j=>(ds.drop (j*k)).take k) b 0 c (fun i j=>vs.getD (i*k+j) undef) (by simpa using hlc)
    (fun i e he=>by
     obtain ⟨hi,rfl⟩:=hrow i e he
     rw [List.length_take,List.length_drop,hlen]
     have:(i+1)*k≤len*k:=Nat.mul_le_mul_right _ hi
     rw [Nat.add_mul,Nat.one_mul] at this
     omega)
    (fun i e j y he hy=>hge)
    (fun i e j y he hy=>by
     obtain ⟨u,hu,_⟩:=hds _ _ (hel i e j y he hy)
     rw [Nat.zero_add,JEG (H:=A.obj) hheap,hu]
     simp [List.getD,hu])
    (fun i e j y he hy=>by
     obtain ⟨u,hu,hr⟩:=hds _ _ (hel i e j y he hy)
     have e1:vs.getD (i*k+j) undef=u:=by simp [List.getD,hu]
     rw [e1];exact hr)
   simpa using this
  |_=>simp [deep] at h
def JCB (A:JE):AV→Option AV
 |.val ag ls=>match ls.mapM (deep A.obj 4) with
  |some ds=>some (.val ag (ds.map .d))
  |none=>none
 |_=>none
theorem JRO (hR:Jg C S M ι A a w){x y:AV}{v:Value}(h:JCB A x=some y)(hr:Jk S ι A.obj w x v):Jk (Zn w) Yc (look []) w y v:=by
 unfold JCB at h
 split at h
 case h_2=>cases h
 rename_i ag ls
 split at h
 case h_2=>cases h
 rename_i ds hm
 simp only [Option.some.injEq] at h
 subst h
 obtain ⟨hml,hmg⟩:=JJR hm
 cases ag with
 |true=>
  obtain ⟨vs,hv,ha⟩:=hr
  refine ⟨vs,hv,JS.ofGet (by rw [List.length_map,←hml];exact ha.length) fun i l u hl hu=>?_⟩
  rw [List.getElem?_map] at hl
  cases hd:ds[i]? with
  |none=>simp [hd] at hl
  |some y=>
   simp only [hd,Option.map_some,Option.some.injEq] at hl
   subst hl
   obtain ⟨l0,hl0,hr0⟩:=ha.get2 hu
   exact JIo hR 4 l0 y u (hmg i _ _ hl0 hd) hr0
 |false=>
  obtain ⟨l,rfl,ha⟩:=hr
  match ds,hml with
  |[y],_=>exact ⟨_,rfl,JIo hR 4 l y v (hmg 0 _ _ rfl rfl) ha⟩
theorem JIn (hR:Jg C S M ι A a w):∀ {xs ys:List AV} {vs:List Value},xs.map (JCB A)=ys.map some→JS (Jk S ι A.obj w) xs vs→JS (Jk (Zn w) Yc (look []) w) ys vs
 |[],[],[],_,_=>trivial
 |[],[],_::_,_,h=>h.elim
 |[],_::_,_,h,_=>by simp at h
 |_::_,[],_,h,_=>by simp at h
 |_::_,_::_,[],_,h=>h.elim
 |x::xs,y::ys,v::vs,h,hr=>by
  simp only [List.map_cons,List.cons.injEq] at h
  exact ⟨JRO hR h.1 hr.1,JIn hR h.2 hr.2⟩
variable {ops:Array Oper} {Φ:JE→Prop} {r:List Oper} {A':JE}
theorem JA.calT {g:FuncId}{as:List Operand}{tys:Array TypeId}{ty:TypeId}{pos:String}{af:Array Edge}{gd:Option (Nat × Bool)}{args:List AV}{res:AV}{obs:List (Nat × AO)}(hw:J5 ops gd A=some true)
  (hcon:Jb P g args res obs) (hcan:JO P g=true) (hv:(as.map A.ev).map (JCB A)=args.map some) (hraw:JEe res=true) (hrawo:obs.all (fun p=>JFv p.2)=true) (hfr:∀q x,look obs q=some x→A.obj (1000*(d+1)+q)=none)
  (hp:after A d (rn [] (1000*(d+1))) res obs A.bh=A') (h':JA P ops Φ r A') :
  JA P ops Φ (⟨some d,.call { callee:=.value (.func g),args:=as.toArray,argTypes:=tys },ty,pos,af,gd⟩::r) A:=by
 refine .sem (K:=fun B=>B=A') hw ?_ fun B e=>e▸h'
 intro C a w Q hd ⟨S,M,ι,hR⟩
 have hargs:=JIn hR hv (JBT hR as)
 refine Oper.wpIn_mono (fun a' w' h=>⟨_,hp.symm▸rfl,h⟩) (JKE (o:=⟨some d,.call { callee:=.value (.func g),args:=as.toArray,argTypes:=tys },ty,pos,af,gd⟩) hR hd rfl ?_ hargs hcon hraw hrawo hfr Q)
 have hfv:a.eval (.func g)=.func (.func g) #[] #[]:=rfl
 simp [execOp,resolve,hfv,Deferred.ofValue,invoke,JCN hcan]
end callT
attribute [go_sem] deep JCB JBv JFu JFv JEe
end Go.Mw

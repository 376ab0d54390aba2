/- What a function's results read as; no condition but those in each. -/
import Derived.Test.YtkpacnlinpbinaaD1
import Derived.Test.YtkpacnlinpbinaaB3
set_option linter.unusedSimpArgs false
set_option linter.unusedVariables false
set_option linter.unusedSectionVars false
set_option linter.deprecated false
namespace Go.Mw
open Go.RowKit
def resV (P:Program)(A:ASt):ResultVar→Option AV
 |.tmp t=>some (A.get t)
 |.cell p t=>match A.get p with
  |.val false [.ptr o off]=>match A.obj o,tySize P t,tyAg P t with
   |some (.cells ls),some n,some ag=>if (ag=true∨n=1)∧off+n≤ls.length then some (.val ag ((ls.drop off).take n)) else none
   |_,_,_=>none
  |_=>none
def resVs (P:Program)(A:ASt):List ResultVar→Option (List AV)
 |[]=>some []
 |r::rs=>match resV P A r,resVs P A rs with
  |some v,some vs=>some (v::vs)
  |_,_=>none
def comps:List AV→Option (List (Bool × List AL))
 |[]=>some []
 |.val ag ls::r=>match comps r with
  |some cs=>some ((ag,ls)::cs)
  |none=>none
 |_::_=>none
def resAll (P:Program)(A:ASt)(rs:List ResultVar):Option AV:=match resVs P A rs with
 |some [v]=>some v
 |some vs=>match comps vs with
  |some cs=>some (.tup cs)
  |none=>none
 |none=>none
def resSem (tmps:Array Value):ResultVar→Sem Value
 |.tmp t=>pure (tmps.getD t undef)
 |.cell p t=>do loadVar t (←asAddr (tmps.getD p undef))
theorem results_eq (fn:Func)(tmps:Array Value):results fn tmps=(do
  let vs ←fn.results.mapM (resSem tmps)
  pure (if h:vs.size=1 then vs[0] else .tuple vs)):=by
 unfold results
 congr 1
section res
variable {P:Program} {C:Ctx P} {S:Settled} {M:Blocks} {ι:Nat→Value} {A:ASt} {a:Act} {w:World}
theorem run_resV (hR:RelC C S M ι A a w){r:ResultVar}{v:AV}(h:resV P A r=some v) :
  ∃u,(resSem a.tmps r).run P w=.ok u w∧RepV S ι A.obj w v u:=by
 cases r with
 |tmp t=>
  simp only [resV,Option.some.injEq] at h
  subst h
  exact ⟨_,by simp [resSem],hR.tms t⟩
 |cell p t=>
  simp only [resV] at h
  have hp:=hR.tms p
  split at h
  ·rename_i o off e
   rw [e] at hp
   obtain ⟨ls0,b,hob,hι,hv⟩:=rep_leaf hp
   split at h
   ·rename_i ls n ag e1 e2 e3
    rw [hob] at e1;simp only [Option.some.injEq,AO.cells.injEq] at e1;subst e1
    split at h
    case isFalse=>cases h
    rename_i hc
    simp only [Option.some.injEq] at h
    subst h
    obtain ⟨b',vs,el,hι',hheap,hall,_⟩:=hR.objs o _ hob
    rw [hι] at hι';simp only [Value.pointer.injEq,Option.some.injEq,Addr.mk.injEq,and_true] at hι';subst hι'
    have hlen:=hall.length
    have hrun:=run_loadVar' (P:=P) (t:=t) w e3 e2 hc.1 b off (fun j=>vs.getD (off+j) undef)
     (fun j hj=>by rw [cells_at (H:=A.obj) hheap];simp [List.getElem?_eq_getElem (show off+j<vs.length by omega),List.getD])
    refine ⟨_,by simp only [resSem];rw [hv];simpa [asAddr] using hrun,?_⟩
    have hn':n=((ls0.drop off).take n).length:=by simp;omega
    have:=rep_loaded (S:=S) (ι:=ι) (w:=w) (H:=A.obj) (ag:=ag) (ls:=(ls0.drop off).take n) (f:=fun j=>vs.getD (off+j) undef) (by rw [←hn'];exact hc.1) (fun j l hl=>?_)
    ·rw [←hn'] at this;exact this
    ·rw [List.getElem?_take] at hl
     split at hl
     ·rw [List.getElem?_drop] at hl
      obtain ⟨v,hv,hr⟩:=hall.get' hl
      simpa [List.getD,hv] using hr
     ·cases hl
   ·cases h
  ·cases h
theorem run_resVs (hR:RelC C S M ι A a w):∀ {rs:List ResultVar} {vs:List AV},resVs P A rs=some vs →
  ∃us,(rs.mapM (resSem a.tmps)).run P w=.ok us w∧All2 (RepV S ι A.obj w) vs us
 |[],vs,h=>by simp [resVs] at h;subst h;exact ⟨[],by simp,trivial⟩
 |r::rs,vs,h=>by
  simp only [resVs] at h
  cases h1:resV P A r with
  |none=>simp [h1] at h
  |some v=>
  cases h2:resVs P A rs with
  |none=>simp [h1,h2] at h
  |some vs'=>
  simp only [h1,h2,Option.some.injEq] at h
  subst h
  obtain ⟨u,hu,hr⟩:=run_resV hR h1
  obtain ⟨us,hus,hrs⟩:=run_resVs hR h2
  refine ⟨u::us,?_,hr,hrs⟩
  rw [List.mapM_cons]
  simp only [Sem.run_bind,hu,Result.andThen_ok,hus,Sem.run_pure]
theorem comps_rep:∀ {vs:List AV} {cs:List (Bool × List AL)} {us:List Value},comps vs=some cs→All2 (RepV S ι A.obj w) vs us→All2 (fun c u=>RepC S ι A.obj w c.1 c.2 u) cs us
 |[],cs,us,h,hr=>by
  simp [comps] at h;subst h
  cases us with
  |nil=>trivial
  |cons _ _=>exact hr.elim
 |.val ag ls::r,cs,us,h,hr=>by
  simp only [comps] at h
  cases hc:comps r with
  |none=>simp [hc] at h
  |some cs'=>
  simp only [hc,Option.some.injEq] at h
  subst h
  cases us with
  |nil=>exact hr.elim
  |cons u us=>exact ⟨hr.1,comps_rep hc hr.2⟩
 |.tup _::_,_,_,h,_=>by simp [comps] at h
 |.cnd _ _::_,_,_,h,_=>by simp [comps] at h
 |.dead::_,_,_,h,_=>by simp [comps] at h
theorem run_results (hR:RelC C S M ι A a w){fn:Func}{v:AV}(h:resAll P A fn.results.toList=some v):∃u,(results fn a.tmps).run P w=.ok u w∧RepV S ι A.obj w v u:=by
 unfold resAll at h
 cases hv:resVs P A fn.results.toList with
 |none=>simp [hv] at h
 |some vs=>
 obtain ⟨us,hus,hrs⟩:=run_resVs hR hv
 have hrun:(results fn a.tmps).run P w=.ok (if h:us.toArray.size=1 then us.toArray[0] else .tuple us.toArray) w:=by
  rw [results_eq,←Array.toArray_toList (xs:=fn.results),List.mapM_toArray]
  simp only [Sem.run_bind,Sem.run_map,hus,Result.andThen_ok,Sem.run_pure,map_eq_pure_bind]
 refine ⟨_,hrun,?_⟩
 rw [hv] at h
 split at h
 ·rename_i v' e
  simp only [Option.some.injEq] at e h
  subst e h
  match us,hrs with
  |[u],hrs=>simpa using hrs.1
 ·rename_i vs' hne e
  simp only [Option.some.injEq] at e
  subst e
  cases hc:comps vs with
  |none=>simp [hc] at h
  |some cs=>
  simp only [hc,Option.some.injEq] at h
  subst h
  have hl:us.length≠1:=by
   rw [←hrs.length]
   intro h1
   match vs,h1 with
   |[x],_=>exact hne x rfl
  refine ⟨us,?_,comps_rep hc hrs⟩
  rw [dif_neg V211]
 ·rename_i e;simp at e
end res
end Go.Mw
namespace Go.Mw
open Go.RowKit
theorem Ghost.refl (A:ASt):Ghost A A:=fun _ _ _ _ h=>h
theorem Ghost.trans {A B D:ASt}(h:Ghost A B)(h':Ghost B D):Ghost A D:=fun P C a w hR=>h' P C a w (h P C a w hR)
section keep
variable (A:ASt) (ss os:List Nat)
theorem look_map_slots (f:Nat→AV)(s:Nat):∀ss:List Nat,look (ss.map fun t=>(t,f t)) s=if s∈ss then some (f s) else none
 |[]=>by simp [look]
 |t::ss=>by
  simp only [List.map_cons,look,look_map_slots f s ss]
  by_cases h:s=t
  ·subst h;simp
  ·simp [h]
theorem look_keepObs (os:List Nat)(o:Nat):∀r:List Nat,look (keepObs A os r) o=if o∈r then (A.obj o).map (·.keep os) else none
 |[]=>by simp [keepObs,look]
 |q::r=>by
  unfold keepObs
  cases hq:A.obj q with
  |none=>
   simp only [look_keepObs os o r]
   by_cases h:o=q
   ·subst h;simp [hq]
   ·simp [h]
  |some x=>
   simp only [look,look_keepObs os o r]
   by_cases h:o=q
   ·subst h;simp [hq]
   ·simp [h]
theorem keep_obj (o:Nat):(A.keep ss os).obj o=if o∈os then (A.obj o).map (·.keep os) else none:=look_keepObs A os o os
theorem keep_get (s:Nat):(A.keep ss os).get s=if s∈ss then (A.get s).keep os else .dead:=by
 show (look (ss.map fun t=>(t,(A.get t).keep os)) s).getD .dead=_
 rw [look_map_slots (fun t=>(A.get t).keep os)]
 split<;>rfl
theorem keep_f {S:Settled}{ι:Nat→Value}{w:World}{l:FL}{v:Value}(h:RepF S ι A.obj w l v):RepF S ι (A.keep ss os).obj w (l.keep os) v:=by
 have h1:=RepF.one S ι A.obj w h
 cases l with
 |d x=>exact h
 |own o i j t=>
  simp only [FL.keep]
  split
  ·rename_i hc
   obtain ⟨_,e,k,es,ho,hv⟩:=h
   exact ⟨h1,e,k,es,by rw [keep_obj,if_pos (by simpa using hc),ho];rfl,hv⟩
  ·exact h1
 |obj o=>
  simp only [FL.keep]
  split
  ·rename_i hc
   obtain ⟨_,hv,x,ho,hx⟩:=h
   exact ⟨h1,hv,_,by rw [keep_obj,if_pos (by simpa using hc),ho];rfl,by cases x<;>first|rfl|simp [AO.whole] at hx⟩
  ·exact h1
 |dead=>exact h
theorem keep_l {S:Settled}{ι:Nat→Value}{w:World}{l:AL}{v:Value}(h:RepL S ι A.obj w l v):RepL S ι (A.keep ss os).obj w (l.keep os) v:=by
 have h1:=RepL.one S ι A.obj w h
 cases l with
 |d x=>exact h
 |ptr o i=>
  simp only [AL.keep]
  split
  ·rename_i hc
   obtain ⟨ls,b,ho,hι,hv⟩:=h
   exact ⟨_,b,by rw [keep_obj,if_pos (by simpa using hc),ho];rfl,hι,hv⟩
  ·exact h1
 |eptr o i j t=>
  simp only [AL.keep]
  split
  ·rename_i hc
   obtain ⟨_,e,k,es,ho,hv⟩:=h
   exact ⟨h1,e,k,es,by rw [keep_obj,if_pos (by simpa using hc),ho];rfl,hv⟩
  ·exact h1
 |own o i j t=>
  simp only [AL.keep]
  split
  ·rename_i hc
   obtain ⟨_,e,k,es,ho,hv⟩:=h
   exact ⟨h1,e,k,es,by rw [keep_obj,if_pos (by simpa using hc),ho];rfl,hv⟩
  ·exact h1
 |obj o=>
  simp only [AL.keep]
  split
  ·rename_i hc
   obtain ⟨_,hv,x,ho,hx⟩:=h
   exact ⟨h1,hv,_,by rw [keep_obj,if_pos (by simpa using hc),ho];rfl,by cases x<;>first|rfl|simp [AO.whole] at hx⟩
  ·exact h1
 |fpt fs=>
  obtain ⟨b,off,hv,hf⟩:=h
  exact ⟨b,off,hv,fls_map hf fun j f ⟨h1,u,h2,h3⟩=>⟨h1,u,h2,keep_f A ss os h3⟩⟩
 |csl o i j=>
  simp only [AL.keep]
  split
  ·rename_i hc
   obtain ⟨ls,b,c,ho,hι,hv⟩:=h
   exact ⟨_,b,c,by rw [keep_obj,if_pos (by simpa using hc),ho];rfl,hι,hv⟩
  ·exact h1
 |dead=>exact h
theorem keep_c {S:Settled}{ι:Nat→Value}{w:World}{ag:Bool}{ls:List AL}{v:Value}(h:RepC S ι A.obj w ag ls v):RepC S ι (A.keep ss os).obj w ag (ls.map (·.keep os)) v:=by
 cases ag with
 |true=>obtain ⟨vs,hv,ha⟩:=h;exact ⟨vs,hv,all2_map (R:=RepL S ι A.obj w) (R':=RepL S ι (A.keep ss os).obj w) (·.keep os) (fun _ _ h=>keep_l A ss os h) ha⟩
 |false=>obtain ⟨l,rfl,ha⟩:=h;exact ⟨_,rfl,keep_l A ss os ha⟩
theorem keep_v {S:Settled}{ι:Nat→Value}{w:World}:∀ {av:AV} {v:Value},RepV S ι A.obj w av v→RepV S ι (A.keep ss os).obj w (av.keep os) v
 |.val ag ls,_,h=>keep_c A ss os h
 |.tup cs,_,⟨vs,hv,ha⟩=>⟨vs,hv,all2_map (R:=fun (c:Bool × List AL) u=>RepC S ι A.obj w c.1 c.2 u) (R':=fun (c:Bool × List AL) u=>RepC S ι (A.keep ss os).obj w c.1 c.2 u) (fun c=>(c.1,c.2.map (·.keep os))) (fun _ _ h=>keep_c A ss os h) ha⟩
 |.cnd _ x,_,h=>⟨fun hb=>keep_v (av:=x) (h.1 hb),h.2⟩
 |.dead,_,_=>trivial
theorem keep_ok (S:Settled)(ι:Nat→Value)(w:World)(o:Nat)(x':AO)(h:(A.keep ss os).obj o=some x') :
  ∃x,A.obj o=some x∧x'=x.keep os∧(ObjOK S ι A.obj w o x→ObjOK S ι (A.keep ss os).obj w o x')∧(x'=.yl→x=.yl)∧∀u v n,x.pinned u v n→x'.pinned u v n:=by
 rw [keep_obj] at h
 split at h
 case isFalse=>cases h
 cases hx:A.obj o with
 |none=>simp [hx] at h
 |some x=>
  simp only [hx,Option.map_some,Option.some.injEq] at h
  subst h
  refine ⟨x,rfl,rfl,fun hok=>?_,fun h=>(by cases x<;>first|rfl|cases h),fun u v n hp=>(by cases x<;>exact hp)⟩
  cases x with
  |cells ls=>
   obtain ⟨b,vs,el,h1,h2,h3,h5⟩:=hok
   exact ⟨b,vs,el,h1,h2,all2_map (R:=RepL S ι A.obj w) (R':=RepL S ι (A.keep ss os).obj w) (·.keep os) (fun _ _ h=>keep_l A ss os h) h3,h5⟩
  |arr e k es=>exact hok
  |clo f ls=>
   obtain ⟨vs,h1,h3⟩:=hok
   exact ⟨vs,h1,all2_map (R:=RepL S ι A.obj w) (R':=RepL S ι (A.keep ss os).obj w) (·.keep os) (fun _ _ h=>keep_l A ss os h) h3⟩
  |yl=>exact hok
  |map es=>
   obtain ⟨b,qs,ck,h1,h2,h3,h5⟩:=hok
   exact ⟨b,qs,ck,h1,h2,all2_map (R:=RepE S ι A.obj w) (R':=RepE S ι (A.keep ss os).obj w) (fun p=>(p.1,p.2.1,p.2.2.map (·.keep os))) (fun _ _ h=>⟨h.1,keep_c A ss os h.2⟩) h3,h5⟩
  |pin v l=>exact ⟨hok.1,keep_l A ss os hok.2⟩
  |mth f ls=>
   obtain ⟨vs,h1,h3⟩:=hok
   exact ⟨vs,h1,all2_map (R:=RepL S ι A.obj w) (R':=RepL S ι (A.keep ss os).obj w) (·.keep os) (fun _ _ h=>keep_l A ss os h) h3⟩
  |iter ls n sn c=>
   obtain ⟨b,m,h1,h2,h3,h5⟩:=hok
   exact ⟨b,m,h1,h2,all2_map (R:=RepL S ι A.obj w) (R':=RepL S ι (A.keep ss os).obj w) (·.keep os) (fun _ _ h=>keep_l A ss os h) h3,h5⟩
  |sit s p=>exact hok
  |byt b c l=>exact hok
theorem Ghost.keep:Ghost A (A.keep ss os):=by
 refine ghost_of (fun S ι w s v h=>?_) fun S ι w o x' h=>?_
 ·rw [keep_get]
  split
  ·exact keep_v A ss os h
  ·trivial
 ·obtain ⟨x,h1,_,h2⟩:=keep_ok A ss os S ι w o x' h
  exact ⟨x,h1,h2⟩
end keep
def AV.mapL (φ:AL→AL):AV→AV
 |.val ag ls=>.val ag (ls.map φ)
 |.tup cs=>.tup (cs.map fun c=>(c.1,c.2.map φ))
 |.cnd b v=>.cnd b (v.mapL φ)
 |.dead=>.dead
def AO.mapL (φ:AL→AL):AO→AO
 |.cells ls=>.cells (ls.map φ)
 |.arr e k es=>.arr e k es
 |.clo f ls=>.clo f (ls.map φ)
 |.yl=>.yl
 |.map es=>.map (es.map fun p=>(p.1,p.2.1,p.2.2.map φ))
 |.mth f ls=>.mth f (ls.map φ)
 |.pin v l=>.pin v (φ l)
 |.iter ls n s c=>.iter (ls.map φ) n s c
 |.sit s p=>.sit s p
 |.byt b c l=>.byt b c l
def mapTm (φ:AL→AL):List (Nat × AV)→List (Nat × AV)
 |[]=>[]
 |(s,v)::r=>(s,v.mapL φ)::mapTm φ r
def mapOb (o:Nat)(φ:AL→AL):List (Nat × AO)→List (Nat × AO)
 |[]=>[]
 |(q,x)::r=>if q=o then mapOb o φ r else (q,x.mapL φ)::mapOb o φ r
theorem look_mapTm (φ:AL→AL)(s:Nat):∀l:List (Nat × AV),(look (mapTm φ l) s).getD .dead=((look l s).getD .dead).mapL φ
 |[]=>rfl
 |(t,v)::r=>by
  simp only [mapTm,look]
  split
  ·rfl
  ·exact look_mapTm φ s r
theorem look_mapOb (o:Nat)(φ:AL→AL)(q:Nat):∀l:List (Nat × AO),look (mapOb o φ l) q=if q=o then none else (look l q).map (·.mapL φ)
 |[]=>by simp [mapOb,look]
 |(p,x)::r=>by
  simp only [mapOb]
  have ih:=look_mapOb o φ q r
  by_cases hp:p=o
  ·rw [if_pos hp,ih]
   split
   ·rfl
   ·rename_i hq
    simp [look,hp,hq]
  ·rw [if_neg hp]
   simp only [look,ih]
   by_cases hq:q=p
   ·subst hq;simp [hp]
   ·simp [hq]
def ASt.settle (A:ASt)(o:Nat)(φ:AL→AL):ASt:=⟨mapTm φ A.tm,mapOb o φ A.ob,A.bh⟩
theorem fpt_of {S S':Settled}{ι ι':Nat→Value}{H H':Nat→Option AO}{w w':World}{φ:AL→AL}{ψ:FL→FL}(hψ:∀f:FL,φ f.al=(ψ f).al)(hp:∀fs,φ (.fpt fs)=.fpt (fs.map ψ))(hS:∀b q,S b q→S' b q∧w'.cell? ⟨b,q,none⟩=w.cell? ⟨b,q,none⟩)
  (h:∀l v,(∀fs,l≠.fpt fs)→RepL S ι H w l v→RepL S' ι' H' w' (φ l) v):∀l v,RepL S ι H w l v→RepL S' ι' H' w' (φ l) v:=by
 intro l v hr
 by_cases hl:∃fs,l=.fpt fs
 ·obtain ⟨fs,rfl⟩:=hl
  obtain ⟨b,off,hv,hf⟩:=hr
  rw [hp]
  exact ⟨b,off,hv,fls_map hf fun j f ⟨h1,u,h2,h3⟩=>⟨(hS _ _ h1).1,u,(hS _ _ h1).2.trans h2,(repF_al S' ι' H' w').2 (hψ f▸h f.al u (fun fs e=>by cases f<;>cases e) ((repF_al S ι H w).1 h3))⟩⟩
 ·exact h l v (fun fs e=>hl ⟨fs,e⟩) hr
theorem Ghost.settle (A:ASt)(o:Nat)(x0:AO)(ho:A.obj o=some x0)(φ:AL→AL)(n:Nat)(ψ:FL→FL)(hψ:∀f:FL,φ f.al=(ψ f).al)(hψp:∀fs,φ (.fpt fs)=.fpt (fs.map ψ))
  (hφ:∀(S S':Settled) (ι:Nat→Value) (w:World) (H':Nat→Option AO),ObjOK S ι A.obj w o x0→(∀b q,S b q→S' b q)→(∀b q,blk (ι o)=some b→q<n→S' b q) →
   (∀q x,A.obj q=some x→q≠o→H' q=some (x.mapL φ))→∀l v,(∀fs,l≠.fpt fs)→RepL S ι A.obj w l v→RepL S' ι H' w (φ l) v):Ghost A (A.settle o φ):=by
 intro P C a w ⟨S,M,ι,hR⟩
 have hok0:=hR.objs o _ ho
 have hobj:∀q,(A.settle o φ).obj q=if q=o then none else (A.obj q).map (·.mapL φ):=fun q=>look_mapOb o φ q A.ob
 have hget:∀s,(A.settle o φ).get s=(A.get s).mapL φ:=fun s=>look_mapTm φ s A.tm
 have hbh:(A.settle o φ).bh=A.bh:=rfl
 generalize A.settle o φ=A' at hobj hget hbh
 let S':Settled:=fun b q=>S b q∨(blk (ι o)=some b∧q<n)
 have hd:∀x v,RepD S w x v→RepD S' w x v:=fun x v h=>RepD.mono (S':=S') (w:=w) (w':=w) (fun _ _ h=>.inl h) (fun _ _ _=>rfl) h
 have hobj':∀q x,A.obj q=some x→q≠o→A'.obj q=some (x.mapL φ):=fun q x h hq=>by rw [hobj,if_neg hq,h];rfl
 have hl:∀l v,RepL S ι A.obj w l v→RepL S' ι A'.obj w (φ l) v:=fpt_of hψ hψp (fun _ _ h=>⟨.inl h,rfl⟩) (hφ S S' ι w A'.obj hok0 (fun _ _ h=>.inl h) (fun _ _ h1 h2=>.inr ⟨h1,h2⟩) hobj')
 have hc:∀ag ls v,RepC S ι A.obj w ag ls v→RepC S' ι A'.obj w ag (ls.map φ) v:=by
  intro ag ls v h
  cases ag with
  |true=>obtain ⟨vs,hv,ha⟩:=h;exact ⟨vs,hv,all2_map (R:=RepL S ι A.obj w) (R':=RepL S' ι A'.obj w) φ hl ha⟩
  |false=>obtain ⟨l,rfl,ha⟩:=h;exact ⟨_,rfl,hl _ _ ha⟩
 have hv:∀av v,RepV S ι A.obj w av v→RepV S' ι A'.obj w (av.mapL φ) v:=by
  intro av
  induction av with
  |val ag ls=>exact fun v h=>hc _ _ _ h
  |tup cs=>
   intro v h
   obtain ⟨vs,hv,ha⟩:=h
   exact ⟨vs,hv,all2_map (R:=fun (c:Bool × List AL) u=>RepC S ι A.obj w c.1 c.2 u) (R':=fun (c:Bool × List AL) u=>RepC S' ι A'.obj w c.1 c.2 u) (fun c=>(c.1,c.2.map φ)) (fun c u h=>hc c.1 c.2 u h) ha⟩
  |cnd b x ih=>exact fun v h=>⟨fun hb=>ih v (h.1 hb),h.2⟩
  |dead=>exact fun _ _=>trivial
 have hge:=fun b hb=>hok0.blk_ge (b:=b) hb
 have hinv:∀q x',A'.obj q=some x' → ∃x,A.obj q=some x∧q≠o∧x'=x.mapL φ:=fun q x' h=>by
  rw [hobj] at h
  split at h
  ·cases h
  ·rename_i hqo
   cases hx:A.obj q with
   |none=>simp [hx] at h
   |some x=>simp only [hx,Option.map_some,Option.some.injEq] at h;exact ⟨x,rfl,hqo,h.symm⟩
 refine ⟨S',M,ι,{
  sub:=fun b q h=>.inl (hR.sub b q h)
  new:=fun b q h=>?_
  inn:=fun b q h=>?_
  minn:=hR.minn
  sz:=hR.sz
  tms:=fun s=>by rw [hget];exact hv _ _ (hR.tms s)
  objs:=fun q x' h=>?_
  dis:=fun q q' x x' b h h'=>by
   obtain ⟨y,hy,_⟩:=hinv q x h
   obtain ⟨y',hy',_⟩:=hinv q' x' h'
   exact hR.dis q q' y y' b hy hy'
  own:=fun q x b h hb=>by obtain ⟨y,hy,_⟩:=hinv q x h;exact hR.own q y b hy hb
  env:=by
   rw [hbh]
   refine C.E.step hR.env ⟨rfl,rfl,rfl,Nat.le_refl _,fun _ _ _=>rfl,fun _ _ _=>rfl⟩ (fun _ h=>h) (fun _ h=>.inl h) (fun _ _ h=>.inl h) fun b q h=>?_
   rcases h with h|⟨h,_⟩
   ·exact .inl h
   ·exact .inr (hR.own o _ b ho h)
  tok:=fun q h=>by
   obtain ⟨y,hy,_,he⟩:=hinv q _ h
   cases y<;>first|exact hR.tok q hy|cases he
  fixed:=hR.fixed
  marks:=hR.marks
  rdok:=hR.rdok
  pinned:=fun q u m x h1 h2=>by
   obtain ⟨y,hy,_,rfl⟩:=hinv q _ h2
   have:=hR.pinned q u m y h1 hy
   cases y<;>exact this
  pinN:=hR.pinN }⟩
 ·rcases h with h|⟨h,_⟩
  ·exact hR.new b q h
  ·exact .inr (hR.own o _ b ho h)
 ·rcases h with h|⟨h,_⟩
  ·exact hR.inn b q h
  ·exact (hge b h).1
 ·obtain ⟨x,hx,hqo,rfl⟩:=hinv q x' h
  have hok:=hR.objs q x hx
  have hno:∀b,blk (ι q)=some b→∀off,¬S' b off:=fun b hb off hs=>by
   rcases hs with hs|⟨hs,_⟩
   ·exact (hok.blk_ge hb).2.1 off hs
   ·exact hR.dis q o x _ b hx ho hqo hb hs
  cases x with
  |cells ls=>
   obtain ⟨b,vs,el,h1,h2,h3,h5⟩:=hok
   exact ⟨b,vs,el,h1,h2,all2_map (R:=RepL S ι A.obj w) (R':=RepL S' ι A'.obj w) φ hl h3,hno b V213,h5.2⟩
  |arr e' k' es'=>
   obtain ⟨ys,h1,h2,h3,h4,h5⟩:=hok
   exact ⟨ys,h1,h2.mono fun _ _=>hd _ _,h3,h4,hno⟩
  |clo f ls=>
   obtain ⟨vs,h1,h3⟩:=hok
   exact ⟨vs,h1,all2_map (R:=RepL S ι A.obj w) (R':=RepL S' ι A'.obj w) φ hl h3⟩
  |yl=>exact hok
  |map es=>
   obtain ⟨b,qs,ck,h1,h2,h3,h4,h5⟩:=hok
   exact ⟨b,qs,ck,h1,h2,all2_map (R:=RepE S ι A.obj w) (R':=RepE S' ι A'.obj w) (fun p=>(p.1,p.2.1,p.2.2.map φ)) (fun _ _ h=>⟨h.1,hc _ _ _ h.2⟩) h3,h4,hno b V213⟩
  |pin v l=>exact ⟨hok.1,hl _ _ hok.2⟩
  |mth f ls=>
   obtain ⟨vs,h1,h3⟩:=hok
   exact ⟨vs,h1,all2_map (R:=RepL S ι A.obj w) (R':=RepL S' ι A'.obj w) φ hl h3⟩
  |iter ls n sn c=>
   obtain ⟨b,m,h1,h2,h3,h5⟩:=hok
   exact ⟨b,m,h1,h2,all2_map (R:=RepL S ι A.obj w) (R':=RepL S' ι A'.obj w) φ hl h3,hno b V213⟩
  |sit s p=>
   obtain ⟨b,h1,h2,h5⟩:=hok
   exact ⟨b,h1,h2,hno b V213⟩
  |byt b c l=>exact ⟨hok.1,hok.2.1,hno b (by rw [hok.1];rfl)⟩
def FL.frz (o k:Nat)(es:List (List D)):FL→FL
 |.d x=>.d x
 |.own q i n t=>if q=o then (if es.length=t then .d (.sl k ((es.drop i).take n)) else .dead) else .own q i n t
 |.obj q=>.obj q
 |.dead=>.dead
def FL.frzf (o:Nat)(d:D):FL→FL
 |.obj q=>if q=o then .d d else .obj q
 |l=>l
def AL.frz (o k:Nat)(es:List (List D)):AL→AL
 |.d x=>.d x
 |.ptr q i=>.ptr q i
 |.eptr q i j t=>if q=o then .dead else .eptr q i j t
 |.own q i n t=>if q=o then (if es.length=t then .d (.sl k ((es.drop i).take n)) else .dead) else .own q i n t
 |.obj q=>.obj q
 |.fpt fs=>.fpt (fs.map (FL.frz o k es))
 |.csl q i n=>.csl q i n
 |.dead=>.dead
def AL.frzc (o:Nat)(ds:List D):AL→AL
 |.d x=>.d x
 |.ptr q i=>if q=o then .d (.pt (ds.drop i)) else .ptr q i
 |.eptr q i j t=>.eptr q i j t
 |.own q i n t=>.own q i n t
 |.obj q=>.obj q
 |.fpt fs=>.fpt fs
 |.csl q i n=>if q=o then .dead else .csl q i n
 |.dead=>.dead
def AL.frzf (o:Nat)(d:D):AL→AL
 |.obj q=>if q=o then .d d else .obj q
 |.fpt fs=>.fpt (fs.map (FL.frzf o d))
 |l=>l
def ASt.frz (A:ASt)(o:Nat):ASt:=match A.obj o with
 |some (.arr _ k es)=>A.settle o (AL.frz o k es)
 |some (.cells ls)=>match pures ls with
  |some ds=>A.settle o (AL.frzc o ds)
  |none=>A
 |some (.clo f ls)=>match pures ls with
  |some ds=>A.settle o (AL.frzf o (.fn f ds))
  |none=>A
 |_=>A
theorem frz_al (o k:Nat)(es:List (List D))(f:FL):AL.frz o k es f.al=(f.frz o k es).al:=by
 cases f with
 |own q i n t=>by_cases hq:q=o<;>by_cases ht:es.length=t<;>simp [FL.al,AL.frz,FL.frz,hq,ht]
 |_=>rfl
theorem frzf_al (o:Nat)(d:D)(f:FL):AL.frzf o d f.al=(f.frzf o d).al:=by
 cases f with
 |obj q=>by_cases hq:q=o<;>simp [FL.al,AL.frzf,FL.frzf,hq]
 |_=>rfl
theorem Ghost.frz (A:ASt)(o:Nat):Ghost A (A.frz o):=by
 unfold ASt.frz
 split
 ·rename_i e k es ho
  refine Ghost.settle A o _ ho _ (es.length*k) (FL.frz o k es) (frz_al o k es) (fun _=>rfl) fun S S' ι w H' hok hS hT hH l v hne h=>?_
  obtain ⟨xs,hown,hall,hk,hk0,_⟩:=hok
  have h1:=RepL.one S ι A.obj w h
  have hd:∀x v,RepD S w x v→RepD S' w x v:=fun x v h=>RepD.mono (S':=S') (w:=w) (w':=w) hS (fun _ _ _=>rfl) h
  cases l with
  |d x=>exact hd _ _ h
  |ptr q i=>
   obtain ⟨ls,b,hq,hι,hv⟩:=h
   have hqo:q≠o:=fun e=>by rw [e,ho] at hq;cases hq
   exact ⟨_,b,hH q _ hq hqo,hι,hv⟩
  |eptr q i j t=>
   simp only [AL.frz]
   split
   ·exact h1
   ·rename_i hqo
    obtain ⟨_,e',k',es',hq,hv⟩:=h
    exact ⟨h1,e',k',es',hH q _ hq hqo,hv⟩
  |own q i n t=>
   simp only [AL.frz]
   split
   ·rename_i hqo
    have hqo:=hqo.symm
    subst hqo
    obtain ⟨_,e',k',es',hq,htl,hv⟩:=h
    rw [ho] at hq;simp only [Option.some.injEq,AO.arr.injEq] at hq
    obtain ⟨rfl,rfl,rfl⟩:=hq
    split
    ·rename_i htot
     obtain ⟨hin,_,p,c,rfl,hnc,hp⟩:=hv htot
     have hlen:((es.drop i).take n).length=n:=by simp;omega
     by_cases hn:n=0
     ·subst hn
      simp only [List.take_zero]
      exact RepD.nil k _ _
     ·obtain ⟨b,c0,hτ,rfl,_⟩:=hp (by omega)
      have hown':=hown
      rw [hτ,htot] at hown'
      have key:∀(j:Nat) (y:List D),((es.drop i).take n)[j]? = some y→es[i+j]? = some y∧j<n:=fun j y hy=>by
       rw [List.getElem?_take] at hy
       split at hy
       ·rename_i hj;rw [List.getElem?_drop] at hy;exact ⟨hy,hj⟩
       ·cases hy
      have hb:blk (ι o)=some b:=by rw [hτ];rfl
      have hlt:∀(j q:Nat) (y:List D),((es.drop i).take n)[j]? = some y→q<y.length→(i+j)*k+q<t*k:=fun j q y hy hq=>by
       obtain ⟨h1,h2⟩:=key j y hy
       have:y.length=k:=hk y (List.mem_of_getElem? h1)
       calc (i+j)*k+q<(i+j)*k+k:=by omega
        _=(i+j+1)*k:=by simp [Nat.add_mul]
        _≤t*k:=Nat.mul_le_mul_right _ (by omega)
      have hadd:∀j q,i*k+j*k+q=(i+j)*k+q:=fun j q=>by rw [Nat.add_mul]
      have:=RepD.sl (S:=S') (w:=w) k ((es.drop i).take n) b (i*k) c (fun j q=>xs.getD ((i+j)*k+q) undef) (by rw [hlen];exact hnc)
       (fun j y hy=>hk y (List.mem_of_getElem? (key j y hy).1))
       (fun j y q d hy hq=>hT b _ hb (by rw [hadd,htot];exact hlt j q y hy (List.getElem?_eq_some_iff.1 hq).1))
       (fun j y q d hy hq=>by
        have h1:=hlt j q y hy (List.getElem?_eq_some_iff.1 hq).1
        rw [hadd,hown'.cellAt _ h1]
        have:(i+j)*k+q<xs.length:=by rw [hown'.1];exact h1
        simp [List.getD,List.getElem?_eq_getElem this])
       (fun j y q d hy hq=>by
        obtain ⟨v,hv,hr⟩:=hall.get' (flat_get hk (key j y hy).1 hq)
        have e:xs.getD ((i+j)*k+q) undef=v:=by simp [List.getD,hv]
        rw [e];exact hd _ _ hr)
      rw [hlen] at this
      exact this
    ·exact h1
   ·rename_i hqo
    obtain ⟨_,e',k',es',hq,hv⟩:=h
    exact ⟨h1,e',k',es',hH q _ hq hqo,hv⟩
  |obj q=>
   obtain ⟨_,hv,x,hq,hx⟩:=h
   have hqo:q≠o:=fun e=>by rw [e,ho] at hq;cases hq;cases hx
   exact ⟨h1,hv,_,hH q _ hq hqo,by cases x<;>first|rfl|simp [AO.whole] at hx⟩
  |fpt fs=>exact absurd rfl (hne fs)
  |csl q i n=>
   obtain ⟨ls0,b',c',hq,hι',hv⟩:=h
   have hqo:q≠o:=fun e=>by rw [e,ho] at hq;cases hq
   exact ⟨_,b',c',hH q _ hq hqo,hι',hv⟩
  |dead=>exact h
 ·rename_i ls ho
  split
  case h_2=>exact Ghost.refl A
  rename_i ds hp
  refine Ghost.settle A o _ ho _ ds.length id (fun f=>by cases f<;>rfl) (fun fs=>by simp [AL.frzc]) fun S S' ι w H' hok hS hT hH l v hne h=>?_
  obtain ⟨b,vs,el,hι,hheap,hall,_⟩:=hok
  have h1:=RepL.one S ι A.obj w h
  have hd:∀x v,RepD S w x v→RepD S' w x v:=fun x v h=>RepD.mono (S':=S') (w:=w) (w':=w) hS (fun _ _ _=>rfl) h
  have hds:=pures_rep hp hall
  cases l with
  |d x=>exact hd _ _ h
  |ptr q i=>
   simp only [AL.frzc]
   split
   ·rename_i hqo
    have hqo:=hqo.symm
    subst hqo
    obtain ⟨ls0,b',hq,hι',rfl⟩:=h
    rw [hι] at hι'
    simp only [Value.pointer.injEq,Option.some.injEq,Addr.mk.injEq,and_true] at hι'
    subst hι'
    refine RepD.pt _ b i (fun j=>vs.getD (i+j) undef) (fun j d hj=>?_) (fun j d hj=>?_) (fun j d hj=>?_)
    ·rw [List.getElem?_drop] at hj
     exact hT b _ (by rw [hι];rfl) (List.getElem?_eq_some_iff.1 hj).1
    ·rw [List.getElem?_drop] at hj
     obtain ⟨v,hv,_⟩:=hds.get' hj
     rw [cells_at (H:=A.obj) hheap]
     simp [List.getD,hv]
    ·rw [List.getElem?_drop] at hj
     obtain ⟨v,hv,hr⟩:=hds.get' hj
     have e:vs.getD (i+j) undef=v:=by simp [List.getD,hv]
     rw [e];exact hd _ _ hr
   ·rename_i hqo
    obtain ⟨ls0,b',hq,hι',hv⟩:=h
    exact ⟨_,b',hH q _ hq hqo,hι',hv⟩
  |eptr q i j t=>
   obtain ⟨_,e',k',es',hq,hv⟩:=h
   have hqo:q≠o:=fun e=>by rw [e,ho] at hq;cases hq
   exact ⟨h1,e',k',es',hH q _ hq hqo,hv⟩
  |own q i n t=>
   obtain ⟨_,e',k',es',hq,hv⟩:=h
   have hqo:q≠o:=fun e=>by rw [e,ho] at hq;cases hq
   exact ⟨h1,e',k',es',hH q _ hq hqo,hv⟩
  |obj q=>
   obtain ⟨_,hv,x,hq,hx⟩:=h
   have hqo:q≠o:=fun e=>by rw [e,ho] at hq;cases hq;cases hx
   exact ⟨h1,hv,_,hH q _ hq hqo,by cases x<;>first|rfl|simp [AO.whole] at hx⟩
  |fpt fs=>exact absurd rfl (hne fs)
  |csl q i n=>
   simp only [AL.frzc]
   split
   ·exact h1
   ·rename_i hqo
    obtain ⟨ls0,b',c',hq,hι',hv⟩:=h
    exact ⟨_,b',c',hH q _ hq hqo,hι',hv⟩
  |dead=>exact h
 ·rename_i f ls ho
  split
  case h_2=>exact Ghost.refl A
  rename_i ds hp
  refine Ghost.settle A o _ ho _ 0 (FL.frzf o (.fn f ds)) (frzf_al o _) (fun _=>rfl) fun S S' ι w H' hok hS hT hH l v hne h=>?_
  obtain ⟨vs,hι,hall⟩:=hok
  have h1:=RepL.one S ι A.obj w h
  have hd:∀x v,RepD S w x v→RepD S' w x v:=fun x v h=>RepD.mono (S':=S') (w:=w) (w':=w) hS (fun _ _ _=>rfl) h
  have hds:=pures_rep hp hall
  cases l with
  |d x=>exact hd _ _ h
  |ptr q i=>
   obtain ⟨ls0,b',hq,hι',hv⟩:=h
   have hqo:q≠o:=fun e=>by rw [e,ho] at hq;cases hq
   exact ⟨_,b',hH q _ hq hqo,hι',hv⟩
  |eptr q i j t=>
   obtain ⟨_,e',k',es',hq,hv⟩:=h
   have hqo:q≠o:=fun e=>by rw [e,ho] at hq;cases hq
   exact ⟨h1,e',k',es',hH q _ hq hqo,hv⟩
  |own q i n t=>
   obtain ⟨_,e',k',es',hq,hv⟩:=h
   have hqo:q≠o:=fun e=>by rw [e,ho] at hq;cases hq
   exact ⟨h1,e',k',es',hH q _ hq hqo,hv⟩
  |obj q=>
   obtain ⟨_,hv,x,hq,hx⟩:=h
   simp only [AL.frzf]
   split
   ·rename_i hqo
    subst hqo
    rw [hv,hι]
    exact RepD.fn f ds vs hds.length.symm fun j d v h1 h2=>hd _ _ (hds.get h1 h2)
   ·rename_i hqo
    exact ⟨h1,hv,_,hH q _ hq hqo,by cases x<;>first|rfl|simp [AO.whole] at hx⟩
  |fpt fs=>exact absurd rfl (hne fs)
  |csl q i n=>
   obtain ⟨ls0,b',c',hq,hι',hv⟩:=h
   have hqo:q≠o:=fun e=>by rw [e,ho] at hq;cases hq
   exact ⟨_,b',c',hH q _ hq hqo,hι',hv⟩
  |dead=>exact h
 ·exact Ghost.refl A
end Go.Mw
namespace Go.Mw
open Go.RowKit
theorem Ghost.nil (A:ASt)(s o:Nat)(e:TypeId)(k:Nat)(hs:A.get s=.raw (.slice none 0 0))(ho:A.obj o=none)(hk:0<k)(hN:1000≤o) :
  Ghost A (A.put [.slot s (.leaf (.own o 0 0 0)),.obj o (.arr e k [])]):=by
 intro P C a w ⟨S,M,ι,hR⟩
 have hv:=hR.tms s
 rw [hs] at hv
 have hv:=raw_eq (rep_leaf hv)
 have hon:Only ι A o w w:=⟨rfl,rfl,rfl,Nat.le_refl _,fun _ _ _=>rfl⟩
 have ht:Turns ι A o (.arr e k []) (.slice none 0 0):=turns_new ho _ _
 have hpin:C.pin o=none:=by
  cases hp:C.pin o with
  |none=>rfl
  |some q=>have:=hR.pinN o (by rw [hp];simp);omega
 have h1:=hR.chg hon ht ⟨[],by rw [upd_same];exact World.ownsRow_nil w 0 e k,by trivial,by simp,hk,fun b hb=>by rw [upd_same] at hb;simp [blk] at hb⟩ (fun b hb=>by simp [blk] at hb) (by simp) fun _=>hpin
 refine ⟨S,_,_,{ h1 with tms:=fun t=>?_ }⟩
 by_cases hts:t=s
 ·subst hts
  show RepV S (upd ι o (.slice none 0 0)) (A.put [.obj o (.arr e k [])]).obj w ((look ((t,AV.leaf (.own o 0 0 0))::A.tm) t).getD .dead) _
  simp only [look,if_true,Option.getD_some]
  rw [hv]
  exact leaf_rep ⟨rfl,e,k,[],obj_same _ _ _,Nat.le_refl _,fun _=>⟨Nat.le_refl _,by rw [upd_same];exact OwnVal.tip (World.ownsRow_nil w 0 e k)⟩⟩
 ·have:=h1.tms t
  show RepV S (upd ι o (.slice none 0 0)) (A.put [.obj o (.arr e k [])]).obj w ((look ((s,AV.leaf (.own o 0 0 0))::A.tm) t).getD .dead) _
  simp only [look,if_neg hts]
  exact this
theorem pures_all2 {S:Settled}{ι ι':Nat→Value}{H H':Nat→Option AO}{w:World}:∀ {ls:List AL} {vs:List Value},(pures ls).isSome=true→All2 (RepL S ι H w) ls vs→All2 (RepL S ι' H' w) ls vs
 |[],[],_,_=>trivial
 |[],_::_,_,h=>h.elim
 |_::_,[],_,h=>h.elim
 |.d x::ls,v::vs,hp,h=>by
  refine ⟨h.1,pures_all2 ?_ h.2⟩
  simp only [pures] at hp
  cases hq:pures ls<;>simp_all
 |.ptr _ _::_,_::_,hp,_=>by simp [pures] at hp
 |.eptr _ _ _ _::_,_::_,hp,_=>by simp [pures] at hp
 |.own _ _ _ _::_,_::_,hp,_=>by simp [pures] at hp
 |.obj _::_,_::_,hp,_=>by simp [pures] at hp
 |.fpt _::_,_::_,hp,_=>by simp [pures] at hp
 |.csl _ _ _::_,_::_,hp,_=>by simp [pures] at hp
 |.dead::_,_::_,hp,_=>by simp [pures] at hp
theorem WkP.refl {ag:Bool}{ls:List AL}(h:(pures ls).isSome=true):WkP (.val ag ls) (.val ag ls):=by
 intro S ι H w v hr
 cases ag with
 |true=>obtain ⟨vs,hv,ha⟩:=hr;exact ⟨vs,hv,pures_all2 h ha⟩
 |false=>
  obtain ⟨l,rfl,ha⟩:=hr
  exact ⟨l,rfl,(pures_all2 (ls:=[l]) (vs:=[v]) (ι:=ι) (H:=H) h ⟨ha,trivial⟩).1⟩
theorem WkP.nil (k:Nat):WkP (.raw (.slice none 0 0)) (.leaf (.d (.sl k []))):=by
 intro S ι H w v hr
 have:=raw_eq (rep_leaf hr)
 subst this
 exact ⟨_,rfl,RepD.nil k none 0⟩
theorem ren_inn {ns:List Nat}{r:Nat→Nat}:∀ {ls:List AL},(pures ls).isSome=true→ls.map (AL.ren r)=ls∧ls.all (AL.inn ns)=true
 |[],_=>⟨rfl,rfl⟩
 |.d x::ls,hp=>by
  have hq:(pures ls).isSome=true:=by
   simp only [pures] at hp
   cases hq:pures ls<;>simp_all
  obtain ⟨h1,h2⟩:=ren_inn (ns:=ns) (r:=r) hq
  refine ⟨by simp [AL.ren,h1],?_⟩
  rw [List.all_cons,h2];rfl
 |.ptr _ _::_,hp=>by simp [pures] at hp
 |.eptr _ _ _ _::_,hp=>by simp [pures] at hp
 |.own _ _ _ _::_,hp=>by simp [pures] at hp
 |.obj _::_,hp=>by simp [pures] at hp
 |.fpt _::_,hp=>by simp [pures] at hp
 |.csl _ _ _::_,hp=>by simp [pures] at hp
 |.dead::_,hp=>by simp [pures] at hp
theorem WkR.pure {r:Nat→Nat}{ns:List Nat}{ag:Bool}{ls:List AL}(h:(pures ls).isSome=true):WkR r ns (.val ag ls) (.val ag ls):=by
 obtain ⟨h1,h2⟩:=ren_inn (ns:=ns) (r:=r) h
 refine ⟨h2,fun S ι H w v hr=>?_⟩
 show RepC S ι H w ag (ls.map (AL.ren r)) v
 rw [h1];exact hr
theorem WkR.of {r:Nat→Nat}{ns:List Nat}{x y:AV}(h:y.inn ns=true)(e:y.ren r=x):WkR r ns x y:=⟨h,fun S ι H w v hr=>by rw [e];exact hr⟩
theorem WkR.nil {r:Nat→Nat}{ns:List Nat}(k:Nat):WkR r ns (.raw (.slice none 0 0)) (.leaf (.d (.sl k []))):=by
 refine ⟨rfl,fun S ι H w v hr=>?_⟩
 have:=raw_eq (rep_leaf hr)
 subst this
 exact ⟨_,rfl,RepD.nil k none 0⟩
theorem WkR.dead {r:Nat→Nat}{ns:List Nat}(x:AV):WkR r ns x .dead:=⟨rfl,fun _ _ _ _ _ _=>trivial⟩
attribute [go_sem] FL.keep FL.ren FL.frz FL.frzf AL.keep AV.keep AO.keep keepObs AL.frz AL.frzc AL.frzf AV.mapL AO.mapL mapTm mapOb AL.ren AV.ren AO.ren ASt.settle
@[go_sem] theorem keep_mk (tm:List (Nat × AV))(ob:List (Nat × AO))(bh:Beh)(ss os:List Nat):(ASt.mk tm ob bh).keep ss os=⟨ss.map fun s=>(s,((look tm s).getD .dead).keep os),keepObs (ASt.mk tm ob bh) os os,bh⟩:=rfl
@[go_sem] theorem lim_mk (tm:List (Nat × AV))(ob:List (Nat × AO))(bh:Beh)(ss:List Nat):(ASt.mk tm ob bh).lim ss=⟨ss.map fun s=>(s,(look tm s).getD .dead),ob,bh⟩:=rfl
def argSt:Nat→List AV→List (Nat × AV)
 |_,[]=>[]
 |n,x::r=>(n,x)::argSt (n+1) r
theorem look_argSt:∀ {xs:List AV} {n s:Nat},look (argSt n xs) s=if n≤s then xs[s-n]? else none
 |[],n,s=>by simp [argSt,look]
 |x::xs,n,s=>by
  simp only [argSt,look,look_argSt (xs:=xs)]
  by_cases h:s=n
  ·subst h;simp
  ·rw [if_neg h]
   by_cases h1:n≤s
   ·rw [if_pos (by omega),if_pos h1,show s-n=(s-(n+1))+1 by omega,List.getElem?_cons_succ]
   ·rw [if_neg (by omega),if_neg h1]
def Ends (P:Program)(fn:Func):Exit→ASt→Prop:=fun e A=>
 (e=.normal∨e=.ret)∧∃(os:List Nat) (res0:AV),resAll P A fn.results.toList=some res0∧A.bh=.ret (res0.keep os) (keepObs A os os)
section leave
variable {P:Program} {C:Ctx P} {S:Settled} {M:Blocks} {ι:Nat→Value} {A:ASt} {a:Act} {w:World}
theorem leaves_ok {fn:Func}{R:Ending→World→Prop}(hrd:C.rd=none):∀(rs:List Nat) (a:Act) (w:World),RelC C S M ι A a w→a.defers=rs.map mark →
  (∀a' w',RelC C S M ι A a' w' → a'.tmps=a.tmps→∃v,(results fn a.tmps).run P w'=.ok v w' ∧ R (.returned v) w')→LeavesInM Fence.wide 0 P fn a.tmps R a.defers .returning w
 |[],a,w,hR,hd,h=>by
  rw [hd]
  obtain ⟨v,h1,h2⟩:=h a w hR rfl
  exact ⟨v,h1,h2⟩
 |r::rs,a,w,hR,hd,h=>by
  obtain ⟨rs',h1,h2,h3⟩:=hR.marks
  have e:rs'=r::rs:=mark_inj (h1.symm.trans hd)
  subst e
  obtain ⟨hM,hheap⟩:=h3 r (by simp)
  have hlt:=(Array.getElem?_eq_some_iff.1 hheap).1
  have hcell:∀p:Addr,(w.putObj r (.deferred none)).cell? p=w.cell? p:=fun p=>by
   by_cases e:p.block=r
   ·unfold World.cell?
    rw [e,World.putObj_heap_same hlt,hheap]
   ·exact World.cell?_of_block (World.putObj_heap_other e)
  have hm:Mv S ι A.obj w S ι A.obj (w.putObj r (.deferred none)):=⟨fun _ _ h=>h.mono (fun _ _ h=>h) fun b o _=>hcell _,fun o ls h=>⟨⟨ls,h⟩,rfl⟩,fun o e k es h=>⟨es,h,Nat.le_refl _,fun _=>rfl⟩,fun b o hs=>⟨hs,hcell _⟩,fun o x h hx=>⟨⟨x,h,hx⟩,rfl⟩⟩
  have hnd:=List.nodup_cons.1 h2
  have hR':RelC C S M ι A { a with defers:=rs.map mark } (w.putObj r (.deferred none)):={
   sub:=hR.sub
   new:=hR.new
   inn:=fun b o h=>by simpa using hR.inn b o h
   minn:=fun k h=>by simpa using hR.minn k h
   sz:=hR.sz
   tms:=fun s=>hm.v (hR.tms s)
   objs:=fun o x h=>(hR.objs o x h).other hm rfl (fun k hk=>World.putObj_heap_other fun e=>by
    obtain ⟨_,_,z,hz,hd⟩:=(hR.objs o x h).blk_ge hk
    rw [e,hheap] at hz;cases hz;cases hd) fun _ _ _ h=>h
   dis:=hR.dis
   own:=hR.own
   env:=C.E.step hR.env ⟨rfl,rfl,rfl,by simp,fun b _ hb=>World.putObj_heap_other fun e=>hb (e▸hM),fun b o _=>hcell _⟩ (fun _ h=>h) (fun _ h=>.inl h) (fun _ _ h=>h) fun _ _ h=>.inl h
   tok:=hR.tok
   fixed:=hR.fixed
   marks:=⟨rs,rfl,hnd.2,fun q hq=>⟨(h3 q (by simp [hq])).1,(World.putObj_heap_other fun e=>hnd.1 (by rw [←e];exact hq)).trans (h3 q (by simp [hq])).2⟩⟩
   rdok:=fun l r h=>by rw [hrd] at h;cases h
   pinned:=hR.pinned
   pinN:=hR.pinN }
  have ih:=leaves_ok hrd rs _ _ hR' rfl h
  rw [hd]
  exact ⟨by simp,.inl ⟨r,_,rfl,run_takeDeferred hheap,ih⟩⟩
end leave
def preOK (n:Nat)(pre:List (Nat × AO)):Bool:=pre.all fun p=>n≤p.1&&p.1<1000
theorem con_of0 {P:Program}(hm:P.follows .mixedOrders=true){f:FuncId}{fn:Func}{c:Code}{args:List AV}{pre:List (Nat × AO)}{b:Beh}(hf:P.funcs[f]? = some fn)(hb:fn.body=some c)
  (hn:args.length≤fn.ntmps∧fn.ntmps≤950) (hd:dstOK (fun d=>d<fn.ntmps) c=true) (hpre:preOK fn.ntmps pre=true) (h:Exec P c (Ends P fn) ⟨argSt 0 args,pre,b⟩):∀(E:Env P) (S:Settled) (M:Blocks) (ι:Nat→Value) (w:World) (vs:List Value),(∀b o,S b o→b<w.heap.size)→(∀k,M k→k<w.heap.size) →
  (∀o x,look pre o=some x→ObjOK S ι (look pre) w o x) →
  (∀o o' x x' b,look pre o=some x→look pre o'=some x' → o≠o' → blk (ι o)=some b→blk (ι o')≠some b) →
  (∀o x b,look pre o=some x→blk (ι o)=some b→M b) →
  (∀o,look pre o=some .yl→ι o=.func (.yield E.l) #[] #[]) →
  All2 (RepV S ι (look pre) w) args vs→E.J b S M w →
  CallsIn Fence.wide 0 P f vs.toArray w fun e w'=>∃v res obs S' M' ι',e=.returned v∧E.J (.ret res obs) S' M' w' ∧ Post S pre ι E.l res obs v S' M' ι' w':=by
 intro E S M ι w vs hin hmin hobj hdis hown htok hargs hJ
 have hl:=hargs.length
 have hnl:=hn.1
 refine callsIn_of_wp_marks hf hb trivial ?_ rfl
 have hpin:∀q x,look pre q=some x→fn.ntmps≤q∧q<1000:=fun q x hx=>by
  obtain ⟨y,hy⟩:=mem_look hx
  have:=List.all_eq_true.1 hpre _ hy
  simpa using this
 let C:Ctx P:={ E:=E,S0:=S,N:=fn.ntmps,fix:=fun _=>none,rd:=none,lim:=hn.2,pin:=fun q=>match look pre q with
  |some (.arr _ _ es)=>some (ι q,es.length)
  |some _=>some (ι q,0)
  |none=>none }
 have hpinN:∀q,C.pin q≠none→∃x,look pre q=some x:=fun q hq=>by
  cases hx:look pre q with
  |none=>exact absurd (by simp [C,hx]) hq
  |some x=>exact ⟨x,rfl⟩
 have hR:RelC C S M ι ⟨argSt 0 args,pre,b⟩ { tmps:=vs.toArray++Array.replicate (fn.ntmps-vs.toArray.size) undef,defers:=[] } w:={
  sub:=fun _ _ h=>h
  new:=fun _ _ h=>.inl h
  inn:=hin
  minn:=hmin
  sz:=by simp [C];omega
  tms:=by
   intro s
   show RepV S ι (look pre) w ((look (argSt 0 args) s).getD .dead) _
   rw [look_argSt,if_pos (Nat.zero_le _),Nat.sub_zero]
   cases ha:args[s]? with
   |none=>trivial
   |some x=>
    obtain ⟨v,hv,hr⟩:=hargs.get' ha
    have hs:s<vs.length:=(List.getElem?_eq_some_iff.1 hv).1
    have:(vs.toArray++Array.replicate (fn.ntmps-vs.toArray.size) undef).getD s undef=v:=by
     rw [Array.getD_eq_getD_getElem?,Array.getElem?_append_left (by simpa using hs)]
     simp [hv]
    rw [this]
    exact hr
  objs:=hobj
  dis:=hdis
  own:=hown
  env:=hJ
  tok:=htok
  fixed:=by intro s v h;cases h
  marks:=⟨[],rfl,List.nodup_nil,by simp⟩
  rdok:=by intro l r h;cases h
  pinned:=by
   intro q u n x hq hx
   have hx':look pre q=some x:=hx
   simp only [C,hx'] at hq
   cases x<;>simp only [Option.some.injEq,Prod.mk.injEq] at hq<;>obtain ⟨rfl,rfl⟩:=hq<;>first|exact ⟨Nat.le_refl _,fun _=>rfl⟩|exact rfl
  pinN:=fun q hq=>by obtain ⟨x,hx⟩:=hpinN q hq;exact hpin q x hx }
 have hcan:∀d,decide (d<fn.ntmps)=true→C.can d:=fun d hd=>by
  have hd:d<fn.ntmps:=by simpa using hd
  refine ⟨hd,rfl,?_⟩
  cases hp:C.pin d with
  |none=>rfl
  |some y=>
   obtain ⟨x,hx⟩:=hpinN d (by rw [hp];simp)
   have:=(hpin d x hx).1
   omega
 refine exec_sound hm c (fun d=>d<fn.ntmps) hd C _ _ _ w hcan h ⟨S,M,ι,hR⟩ _ fun e A' a' w' hE hR'=>?_
 obtain ⟨he,os,res0,hres,hbh⟩:=hE
 obtain ⟨S',M',ι',hR'⟩:=hR'
 have hend:LeavesInM Fence.wide 0 P fn a'.tmps (fun e w'=>∃v res obs S' M' ι',e=.returned v∧E.J (.ret res obs) S' M' w' ∧ Post S pre ι E.l res obs v S' M' ι' w') a'.defers .returning w':=by
  obtain ⟨rs,hrs,_⟩:=hR'.marks
  refine leaves_ok rfl rs a' w' hR' hrs fun a3 w3 hR3 htm=>?_
  obtain ⟨u,hu,hr⟩:=run_results hR3 hres
  rw [htm] at hu
  have hr:=keep_v A' [] os hr
  have hH:(A'.keep [] os).obj=look (keepObs A' os os):=rfl
  have hob:∀o x,look (keepObs A' os os) o=some x→∃y,A'.obj o=some y∧x=y.keep os∧ObjOK S' ι' (look (keepObs A' os os)) w3 o x∧(x=.yl→y=.yl)∧∀u v n,y.pinned u v n→x.pinned u v n:=fun o x h=>by
   obtain ⟨y,hy,hk,hok,h1,h2⟩:=keep_ok A' [] os S' ι' w3 o x h
   exact ⟨y,hy,hk,hok (hR3.objs o y hy),h1,h2⟩
  refine ⟨u,hu,u,_,_,S',M',ι',rfl,hbh▸hR3.env,?_⟩
  exact {
   sub:=hR3.sub,new:=hR3.new,inn:=hR3.inn,minn:=hR3.minn,res:=hH▸hr
   objs:=fun o x h=>by obtain ⟨_,_,_,h,_⟩:=hob o x h;exact h
   dis:=fun o o' x x' b h h'=>by
    obtain ⟨y,hy,_⟩:=hob o x h
    obtain ⟨y',hy',_⟩:=hob o' x' h'
    exact hR3.dis o o' y y' b hy hy'
   own:=fun o x b h hb=>by obtain ⟨y,hy,_⟩:=hob o x h;exact hR3.own o y b hy hb
   tok:=fun o h=>by obtain ⟨y,hy,_,_,h1,_⟩:=hob o _ h;exact hR3.tok o (h1 rfl▸hy)
   same:=fun o x x' hx hx'=>by
    obtain ⟨y,hy,_,_,_,hp⟩:=hob o x' hx'
    cases x with
    |arr e k es=>
     have:=hp _ _ _ (hR3.pinned o (ι o) es.length y (by simp [C,hx]) hy)
     cases x' <;> first|exact this|trivial
    |_=>
     have:=hp _ _ _ (hR3.pinned o (ι o) 0 y (by simp [C,hx]) hy)
     cases x' <;> first|exact this|trivial }
 rcases he with rfl|rfl
 ·exact hend
 ·exact hend
def Env.desc {P:Program}(E:Env P)(b0:Beh):Env P where
 l:=E.l
 J b S M w:=E.J b S M w∧∀res obs,b.Leaf res obs→b0.Leaf res obs
 glob:=fun h=>E.glob h.1
 step:=fun h hf hM hN hS hT=>⟨E.step h.1 hf hM hN hS hT,h.2⟩
 yld:=fun {args k S M w vs} h hv=>by
  obtain ⟨fn,tmps,assign,body,hy,hR⟩:=E.yld h.1 hv
  exact ⟨fn,tmps,assign,body,hy,hR.mono fun e w' ⟨r,he,hk,hJ⟩=>⟨r,he,hk,hJ,fun res obs hl=>h.2 res obs (.yld r hl)⟩⟩
theorem con_of {P:Program}(hm:P.follows .mixedOrders=true){f:FuncId}{fn:Func}{c:Code}{args:List AV}{pre:List (Nat × AO)}{b:Beh}(hf:P.funcs[f]? = some fn)(hb:fn.body=some c)
  (hn:args.length≤fn.ntmps∧fn.ntmps≤950) (hd:dstOK (fun d=>d<fn.ntmps) c=true) (hpre:preOK fn.ntmps pre=true) (h:Exec P c (Ends P fn) ⟨argSt 0 args,pre,b⟩):Con P f args pre b:=by
 intro E S M ι w vs hin hmin hobj hdis hown htok hargs hJ
 refine (con_of0 hm hf hb hn hd hpre h (E.desc b) S M ι w vs hin hmin hobj hdis hown htok hargs ⟨hJ,fun _ _ h=>h⟩).mono fun e w' h=>?_
 obtain ⟨v,res,obs,S',M',ι',he,⟨hJ',hl⟩,hp⟩:=h
 exact ⟨v,res,obs,S',M',ι',he,hl res obs (.ret res obs),hJ',hp⟩
end Go.Mw
namespace Go.Mw
theorem Ghost.wk {A:ASt}{s:Nat}(v:AV)(h:Wk (A.get s) v):Ghost A (A.put [.slot s v]):=by
 refine ghost_of (fun S ι w q u hr=>?_) fun S ι w o x' h=>⟨x',h,fun h=>h,fun h=>h,fun _ _ _ h=>h⟩
 by_cases hq:q=s
 ·subst hq
  have:(A.put [.slot q v]).get q=v:=by simp [ASt.put,ASt.put1,ASt.get,look]
  rw [this]
  exact h _ _ _ _ _ hr
 ·have:(A.put [.slot s v]).get q=A.get q:=by simp [ASt.put,ASt.put1,ASt.get,look,hq]
  rw [this];exact hr
theorem Wk.nil (k:Nat):Wk (.raw (.slice none 0 0)) (.leaf (.d (.sl k []))):=by
 intro S ι H w v h
 obtain ⟨l,hl,hr⟩:=h
 simp at hl;subst hl
 cases hr
 exact ⟨_,rfl,RepD.nil k none 0⟩
def frzX (tm:List (Nat × AV))(ob:List (Nat × AO))(bh:Beh)(o:Nat):Option AO→ASt
 |some (.arr _ k es)=>⟨mapTm (AL.frz o k es) tm,mapOb o (AL.frz o k es) ob,bh⟩
 |some (.cells ls)=>match pures ls with
  |some ds=>⟨mapTm (AL.frzc o ds) tm,mapOb o (AL.frzc o ds) ob,bh⟩
  |none=>⟨tm,ob,bh⟩
 |some (.clo f ls)=>match pures ls with
  |some ds=>⟨mapTm (AL.frzf o (.fn f ds)) tm,mapOb o (AL.frzf o (.fn f ds)) ob,bh⟩
  |none=>⟨tm,ob,bh⟩
 |_=>⟨tm,ob,bh⟩
attribute [go_sem] frzX
@[go_sem] theorem frz_mk (tm:List (Nat × AV))(ob:List (Nat × AO))(bh:Beh)(o:Nat):(ASt.mk tm ob bh).frz o=frzX tm ob bh o (look ob o):=by
 unfold ASt.frz
 simp only [ASt.obj,ASt.settle]
 cases h:look ob o with
 |none=>rfl
 |some x=>cases x<;>first|rfl|(rename_i ls;cases hp:pures ls<;>simp [frzX,hp])|(rename_i f ls;cases hp:pures ls<;>simp [frzX,hp])
section steps
variable {P:Program} {ops:Array Oper} {Φ:ASt→Prop} {r:List Oper} {A A' B:ASt}
theorem Run.op {o:Oper}{rs:List Loc}{ws:List Wr}(h:stepOp P ops o A=some (rs,ws))(hp:A.put ws=A')(h':Run P ops Φ r A'):Run P ops Φ (o::r) A:=.eff rs ws h (hp▸h')
theorem Run.gop {dst:Nat}{op:Op}{ty:TypeId}{pos:String}{af:Array Edge}{g:Nat × Bool}{b:Bool}{rs:List Loc}{v:AV}(hw:wantedA ops (some g) A=some b)
  (h:(effOp P op (some dst)).runS b A (guardLoc ops ⟨some dst,op,ty,pos,af,some g⟩)=some (rs,[.slot dst v])) (hp:A.put [.slot dst (.cnd b v)]=A') (h':Run P ops Φ r A') :
  Run P ops Φ (⟨some dst,op,ty,pos,af,some g⟩::r) A:=.geff b rs dst v rfl hw h (hp▸h')
theorem Run.skp {dst:Nat}{op:Op}{ty:TypeId}{pos:String}{af:Array Edge}{g:Nat × Bool}(hw:wantedA ops (some g) A=some false)(hp:A.put [.slot dst (.tup [])]=A')(h':Run P ops Φ r A') :
  Run P ops Φ (⟨some dst,op,ty,pos,af,some g⟩::r) A:=
 .eff (guardLoc ops ⟨some dst,op,ty,pos,af,some g⟩) [.slot dst (.tup [])] (by unfold stepOp;rw [show wantedA ops (Oper.mk (some dst) op ty pos af (some g)).guard A=some false from hw];rfl) (hp▸h')
theorem Run.yes {dst:Option Nat}{op:Op}{ty:TypeId}{pos:String}{af:Array Edge}{g:Nat × Bool}{rs:List Loc}{ws:List Wr}(hw:wantedA ops (some g) A=some true)
  (h:(effOp P op dst).run A (guardLoc ops ⟨dst,op,ty,pos,af,some g⟩)=some (rs,ws)) (hp:A.put ws=A') (h':Run P ops Φ r A') :
  Run P ops Φ (⟨dst,op,ty,pos,af,some g⟩::r) A:=
 .eff rs ws (by unfold stepOp;rw [show wantedA ops (Oper.mk dst op ty pos af (some g)).guard A=some true from hw];exact h) (hp▸h')
theorem Run.cal {d:Nat}{g:FuncId}{as:List Operand}{tys:Array TypeId}{ty:TypeId}{pos:String}{af:Array Edge}{args:List AV}{res:AV}{obs:List (Nat × AO)}{vs:List AV}
  (hc:Contract P g args res obs) (hcan:canCall P g=true) (hv:as.map A.ev=vs) (hwk:All2 (WkR (rn [] (1000*(d+1))) []) vs args) (hfr:∀q x,look obs q=some x→A.obj (1000*(d+1)+q)=none)
  (hp:A.put (obs.reverse.map (fun p=>.obj (1000*(d+1)+p.1) (p.2.ren (1000*(d+1) + ·)))++[.slot d (res.ren (1000*(d+1) + ·))])=A') (h':Run P ops Φ r A') :
  Run P ops Φ (⟨some d,.call { callee:=.value (.func g),args:=as.toArray,argTypes:=tys },ty,pos,af,none⟩::r) A:=
 .call _ rfl ⟨d,.func g,as,g,[],args,res,obs,rfl,by simp [opCall],rfl,hcan,by simpa [hv] using hwk,hc,hfr,rfl⟩ (hp▸h')
theorem Run.gcal {d:Nat}{g:FuncId}{as:List Operand}{tys:Array TypeId}{ty:TypeId}{pos:String}{af:Array Edge}{gd:Nat × Bool}{b:Bool}{args:List AV}{res:AV}{vs:List AV}
  (hw:wantedA ops (some gd) A=some b) (hc:Contract P g args res []) (hcan:canCall P g=true) (hv:as.map (A.strip b).ev=vs) (hwk:All2 (WkR (rn [] (1000*(d+1))) []) vs args)
  (hp:A.put [.slot d (.cnd b (res.ren (1000*(d+1) + ·)))]=A') (h':Run P ops Φ r A') :
  Run P ops Φ (⟨some d,.call { callee:=.value (.func g),args:=as.toArray,argTypes:=tys },ty,pos,af,some gd⟩::r) A:=
 .gcall b d _ rfl hw ⟨d,.func g,as,g,[],args,res,[],rfl,by simp [opCall],rfl,hcan,by simpa [hv] using hwk,hc,by simp [look],rfl⟩ (hp▸h')
theorem Run.calg {d:Nat}{f:Operand}{as:List Operand}{tys:Array TypeId}{ty:TypeId}{pos:String}{af:Array Edge}{g:FuncId}{caps:List AL}{args:List AV}{pre:List (Nat × AO)}{b:Beh}{vs:List AV}(lend:List (Nat × Nat))(κ:AV→List (Nat × AO)→Beh)
  (hcon:Con P g args pre b) (hcan:canCall P g=true) (hf:FnOf A (A.ev f) g caps) (hv:as.map A.ev=vs) (hwk:All2 (WkR (rn lend (1000*(d+1))) (nms pre)) (vs++caps.map .leaf) args) (hok:CallOK A (1000*(d+1)) lend pre b) (hbh:A.bh=b.bind κ)
  (h':∀res obs,b.Leaf res obs→Run P ops Φ r (after A d (rn lend (1000*(d+1))) res obs (κ res obs))) :
  Run P ops Φ (⟨some d,.call { callee:=.value f,args:=as.toArray,argTypes:=tys },ty,pos,af,none⟩::r) A:=
 .cally (f:=f) (as:=as) rfl rfl (by simp [opCall]) hf hcan (by rw [hv];exact hwk) hcon hok hbh h'
theorem Run.yld {d c:Nat}{f:Operand}{as:List Operand}{tys:Array TypeId}{ty:TypeId}{pos:String}{af:Array Edge}{args vs:List AV}{k:Bool→Beh}
  (hf:A.ev f=.leaf (.obj c)) (hc:A.obj c=some .yl) (hv:as.map A.ev=vs) (hwk:All2 WkP vs args) (hbh:A.bh=.yld args k)
  (h':∀t,Run P ops Φ r ⟨(d,.bool t)::A.tm,A.ob,k t⟩):Run P ops Φ (⟨some d,.call { callee:=.value f,args:=as.toArray,argTypes:=tys },ty,pos,af,none⟩::r) A:=
 .yl (f:=f) (as:=as) rfl rfl (by simp [opCall]) hf hc (by rw [hv];exact hwk) hbh h'
theorem Run.keep {l:List Oper}(ss os:List Nat)(hp:A.keep ss os=A')(h':Run P ops Φ l A'):Run P ops Φ l A:=.ghost (Ghost.keep A ss os) (hp▸h')
theorem Run.frz {l:List Oper}(o:Nat)(hp:A.frz o=A')(h':Run P ops Φ l A'):Run P ops Φ l A:=.ghost (Ghost.frz A o) (hp▸h')
theorem Run.nilo {l:List Oper}(s o:Nat)(e:TypeId)(k:Nat)(hs:A.get s=.raw (.slice none 0 0))(ho:A.obj o=none)(hk:0<k)(hN:1000≤o)(hp:A.put [.slot s (.leaf (.own o 0 0 0)),.obj o (.arr e k [])]=A')(h':Run P ops Φ l A'):Run P ops Φ l A:=
 .ghost (Ghost.nil A s o e k hs ho hk hN) (hp▸h')
end steps
section code
variable {P:Program} {Φ:Exit→ASt→Prop} {A:ASt}
theorem Exec.reg1 {id:Nat}{ops:Array Oper}(h:Run P ops (Φ .normal) ops.toList A):Exec P (.region id ops false) Φ A:=.inl h
theorem Run.mono {ops:Array Oper}{Φ Ψ:ASt→Prop}(hm:∀A,Φ A→Ψ A){l:List Oper}{A:ASt}(h:Run P ops Φ l A):Run P ops Ψ l A:=by
 induction h with
 |nil h=>exact .nil (hm _ h)
 |eff rs ws h _ ih=>exact .eff rs ws h ih
 |call ws hw h _ ih=>exact .call ws hw h ih
 |geff b rs d v ho hw h _ ih=>exact .geff b rs d v ho hw h ih
 |gcall b d v ho hw h _ ih=>exact .gcall b d v ho hw h ih
 |cally hdst hw hop hf hcan hwk hcon hok hbh _ ih=>exact .cally hdst hw hop hf hcan hwk hcon hok hbh ih
 |inv hdst hw hop hf hmeth hcan hwk hcon hok hbh _ ih=>exact .inv hdst hw hop hf hmeth hcan hwk hcon hok hbh ih
 |yl hdst hw hop hf hc hwk hbh _ ih=>exact .yl hdst hw hop hf hc hwk hbh ih
 |ghost h _ ih=>exact .ghost h ih
 |sem hw h _ ih=>exact .sem hw h ih
theorem Exec.reg {id:Nat}{ops:Array Oper}{y:Code}(h:Run P ops (fun B=>Exec P y Φ B) ops.toList A):Exec P (.seq (.region id ops false) y) Φ A:=.inl (Run.mono (fun A h=>⟨A,Ghost.refl A,h⟩) h)
theorem RunP.mono {ops:Array Oper}{Φ Ψ:Value→ASt→Prop}(hm:∀v A,Φ v A→Ψ v A){A:ASt}:RunP P ops Φ A→RunP P ops Ψ A:=fun ⟨pv,l1,o,l2,e,h⟩=>⟨pv,l1,o,l2,e,Run.mono (fun _ h=>⟨h.1,hm _ _ h.2⟩) h⟩
theorem OpenP.mono {ops:Array Oper}{Φ Ψ:Value→ASt→Prop}(hm:∀v A,Φ v A→Ψ v A){A:ASt}:OpenP P ops Φ A→OpenP P ops Ψ A:=fun ⟨pv,n,p,o,fs,B,rs,h1,h2,h3,h4,h5,h6,h7,h8⟩=>⟨pv,n,p,o,fs,B,rs,h1,h2,h3,h4,h5,h6,h7,hm _ _ h8⟩
theorem Exec.mono {P:Program}:∀(c:Code) {Φ Ψ:Exit→ASt→Prop} {A:ASt},(∀e A,Φ e A→Ψ e A)→Exec P c Φ A→Exec P c Ψ A
 |.skip,_,_,_,hm,h=>hm _ _ h
 |.region _ _ false,_,_,_,hm,h=>h.imp (Run.mono (hm _)) (RunP.mono fun _=>hm _)
 |.region _ _ true,_,_,_,hm,.inl ⟨A',hg,.inl ⟨n,fs,B,h1,h2,h3,h4,B',hg',h5⟩⟩=>.inl ⟨A',hg,.inl ⟨n,fs,B,h1,h2,h3,h4,B',hg',hm _ _ h5⟩⟩
 |.region _ _ true,_,_,_,hm,.inl ⟨A',hg,.inr ⟨n,p,fs,B,h1,h2,h3,h4,h5,h6,h7⟩⟩=>.inl ⟨A',hg,.inr ⟨n,p,fs,B,h1,h2,h3,h4,h5,h6,Run.mono (fun _ ⟨B2,hg2,hh⟩=>⟨B2,hg2,hm _ _ hh⟩) h7⟩⟩
 |.region _ _ true,_,_,_,hm,.inr ⟨A',hg,h⟩=>.inr ⟨A',hg,h.mono fun _=>hm _⟩
 |.seq x y,_,_,_,hm,h=>Exec.mono x (fun e A h=>by cases e<;>first|(obtain ⟨B,hg,h⟩:=h;exact ⟨B,hg,Exec.mono y hm h⟩)|exact hm _ _ h) h
 |.cond _ x y,_,_,_,hm,⟨b,hb,h1,h2⟩=>⟨b,hb,fun e=>Exec.mono x hm (h1 e),fun e=>Exec.mono y hm (h2 e)⟩
 |.block i x,_,_,_,hm,h=>Exec.mono x (fun e A h=>by
   cases e with
   |exit j=>
    simp only at h ⊢
    split
    ·rename_i hj;rw [if_pos hj] at h;exact hm _ _ h
    ·rename_i hj;rw [if_neg hj] at h;exact hm _ _ h
   |_=>exact hm _ _ h) h
 |.loop x,_,_,_,hm,⟨I,h0,hr⟩=>⟨I,h0,fun n A1 h=>Exec.mono x (fun e A h=>by cases e<;>first|exact h|exact hm _ _ h) (hr n A1 h)⟩
 |.exit _,_,_,_,hm,h=>hm _ _ h
 |.ret,_,_,_,hm,h=>hm _ _ h
 |.rangeFunc g ps x y,_,_,_,hm,h=>by
  obtain ⟨gf,ds,args,T,b0,tm0,tm,ob,bh,X,pre,h1,h2,h3,h4,h5,h5a,h5b,h6,h7,h8,h9⟩:=h
  refine ⟨gf,ds,args,T,b0,tm0,tm,ob,bh,X,pre,h1,h2,h3,h4,h5,h5a,h5b,h6,h7,fun vals k hx=>⟨(h8 vals k hx).1,Exec.mono x (fun e A h=>⟨h.1,Exec.mono y (fun e A h=>?_) h.2⟩) (h8 vals k hx).2⟩,fun res obs hx=>⟨(h9 res obs hx).1,hm _ _ (h9 res obs hx).2⟩⟩
  cases e with
  |normal=>exact h
  |ret=>obtain ⟨r,o,e1,e2,e3⟩:=h;exact ⟨r,o,e1,e2,hm _ _ e3⟩
  |exit i=>obtain ⟨r,o,e1,e2,e3⟩:=h;exact ⟨r,o,e1,e2,hm _ _ e3⟩
  |_=>exact h
 |.label _,_,_,_,hm,h=>hm _ _ h
 |.scope x,_,_,_,hm,h=>Exec.mono x (fun e A h=>by cases e<;>first|exact h|exact hm _ _ h) h
 |.goto _,_,_,_,_,h=>h.elim
 |.refuse _,_,_,_,_,h=>h.elim
theorem Exec.assocS {x y z:Code}(h:Exec P (.seq x (.seq y z)) Φ A):Exec P (.seq (.seq x y) z) Φ A:=
 Exec.mono x (fun e A h=>by cases e<;>exact h) h
theorem Exec.cnd {c:Operand}{x y:Code}{b:Bool}(hb:asBool (A.ev c)=some b)(h1:b=true→Exec P x Φ A)(h2:b=false→Exec P y Φ A):Exec P (.cond c x y) Φ A:=⟨b,hb,h1,h2⟩
theorem Exec.cndS {c:Operand}{x y z:Code}{b:Bool}(hb:asBool (A.ev c)=some b)(h1:b=true→Exec P (.seq x z) Φ A)(h2:b=false→Exec P (.seq y z) Φ A):Exec P (.seq (.cond c x y) z) Φ A:=⟨b,hb,h1,h2⟩
theorem Exec.skipS {y:Code}(h:Exec P y Φ A):Exec P (.seq .skip y) Φ A:=⟨A,Ghost.refl A,h⟩
theorem Exec.lblS {y:Code}{l:Nat}(h:Exec P y Φ A):Exec P (.seq (.label l) y) Φ A:=⟨A,Ghost.refl A,h⟩
theorem Exec.scp {y:Code}(h:Exec P y (fun e A=>match e with |.goto _=>False|e=>Φ e A) A):Exec P (.scope y) Φ A:=h
theorem Exec.retS {y:Code}(h:Φ .ret A):Exec P (.seq .ret y) Φ A:=h
def Blk1K (id:Nat)(Φ:Exit→ASt→Prop):Exit→ASt→Prop:=fun e A=>match e with |.exit j=>if j=id then Φ .normal A else Φ (.exit j) A|e=>Φ e A
theorem Exec.blk1 {id:Nat}{x:Code}(h:Exec P x (Blk1K id Φ) A):Exec P (.block id x) Φ A:=h
theorem Blk1K.nrm {id:Nat}(h:Φ .normal A):Blk1K id Φ .normal A:=h
theorem Blk1K.ret {id:Nat}(h:Φ .ret A):Blk1K id Φ .ret A:=h
theorem Blk1K.hit {id:Nat}(h:Φ .normal A):Blk1K id Φ (.exit id) A:=by show (if id=id then _ else _);rw [if_pos rfl];exact h
theorem Blk1K.mis {id j:Nat}(hj:j≠id)(h:Φ (.exit j) A):Blk1K id Φ (.exit j) A:=by show (if j=id then _ else _);rw [if_neg hj];exact h
theorem Exec.exitS {y:Code}{i:Nat}(h:Φ (.exit i) A):Exec P (.seq (.exit i) y) Φ A:=h
end code
def BlkK (P:Program)(id:Nat)(y:Code)(Φ:Exit→ASt→Prop):Exit→ASt→Prop:=fun e A=>match e with
 |.normal=>Exec P y Φ A
 |.exit j=>if j=id then Exec P y Φ A else Φ (.exit j) A
 |e=>Φ e A
theorem Exec.blk {P:Program}{Φ:Exit→ASt→Prop}{A:ASt}{id:Nat}{x y:Code}(h:Exec P x (BlkK P id y Φ) A):Exec P (.seq (.block id x) y) Φ A:=by
 refine Exec.mono x (fun e A h=>?_) h
 cases e with
 |exit j=>
  simp only [BlkK] at h ⊢
  split
  ·rename_i hj;rw [if_pos hj] at h;exact ⟨A,Ghost.refl A,h⟩
  ·rename_i hj;rw [if_neg hj] at h;exact h
 |normal=>exact ⟨A,Ghost.refl A,h⟩
 |_=>exact h
def JoinK {σ:Type}(S:σ→ASt)(X:σ→Prop)(Φ:Exit→ASt→Prop):Exit→ASt→Prop:=fun e A=>match e with
 |.normal=>∃t,X t∧Ghost A (S t)
 |e=>Φ e A
theorem JoinK.nrm {σ:Type}{S:σ→ASt}{X:σ→Prop}{Φ:Exit→ASt→Prop}{A:ASt}(t:σ)(h1:X t)(h2:Ghost A (S t)):JoinK S X Φ .normal A:=⟨t,h1,h2⟩
theorem JoinK.ext {σ:Type}{S:σ→ASt}{X:σ→Prop}{Φ:Exit→ASt→Prop}{A:ASt}{j:Nat}(h:Φ (.exit j) A):JoinK S X Φ (.exit j) A:=h
theorem JoinK.ret {σ:Type}{S:σ→ASt}{X:σ→Prop}{Φ:Exit→ASt→Prop}{A:ASt}(h:Φ .ret A):JoinK S X Φ .ret A:=h
theorem BlkK.nrm {P:Program}{Φ:Exit→ASt→Prop}{A:ASt}{id:Nat}{y:Code}(h:Exec P y Φ A):BlkK P id y Φ .normal A:=h
theorem BlkK.hit {P:Program}{Φ:Exit→ASt→Prop}{A:ASt}{id:Nat}{y:Code}(h:Exec P y Φ A):BlkK P id y Φ (.exit id) A:=by
 show (if id=id then _ else _);rw [if_pos rfl];exact h
theorem BlkK.mis {P:Program}{Φ:Exit→ASt→Prop}{A:ASt}{id j:Nat}{y:Code}(hj:j≠id)(h:Φ (.exit j) A):BlkK P id y Φ (.exit j) A:=by
 show (if j=id then _ else _);rw [if_neg hj];exact h
theorem BlkK.ret {P:Program}{Φ:Exit→ASt→Prop}{A:ASt}{id:Nat}{y:Code}(h:Φ .ret A):BlkK P id y Φ .ret A:=h
def ForK (N:Nat)(St:Nat→ASt)(X:Nat→Prop)(k:Nat)(Φ:Exit→ASt→Prop):Exit→ASt→Prop:=fun e A=>match e with
 |.normal=>k<N∧Ghost A (St (k+1))∧X (k+1)
 |e=>Φ e A
theorem Exec.for {P:Program}{Φ:Exit→ASt→Prop}{A:ASt}{body:Code}(N:Nat)(St:Nat→ASt)(X:Nat→Prop)(hg:Ghost A (St 0))(h0:X 0)
  (hr:∀k,k≤N→X k→Exec P body (ForK N St X k Φ) (St k)):Exec P (.loop body) Φ A:=by
 refine ⟨fun n A1=>∃k,k≤N∧n=N-k∧A1=St k∧X k,⟨N,St 0,hg,0,Nat.zero_le _,rfl,rfl,h0⟩,fun n A1 ⟨k,hk,hn,hA,hX⟩=>?_⟩
 subst hA
 refine Exec.mono body (fun e A2 h=>?_) (hr k hk hX)
 cases e with
 |normal=>
  obtain ⟨hlt,hg,hX'⟩:=h
  exact ⟨N-(k+1),St (k+1),by omega,hg,k+1,by omega,rfl,rfl,hX'⟩
 |_=>exact h
theorem ForK.nxt {N:Nat}{St:Nat→ASt}{X:Nat→Prop}{k:Nat}{Φ:Exit→ASt→Prop}{A:ASt}(h1:k<N)(h2:Ghost A (St (k+1)))(h3:X (k+1)):ForK N St X k Φ .normal A:=⟨h1,h2,h3⟩
theorem ForK.ext {N:Nat}{St:Nat→ASt}{X:Nat→Prop}{k:Nat}{Φ:Exit→ASt→Prop}{A:ASt}{j:Nat}(h:Φ (.exit j) A):ForK N St X k Φ (.exit j) A:=h
theorem ForK.ret {N:Nat}{St:Nat→ASt}{X:Nat→Prop}{k:Nat}{Φ:Exit→ASt→Prop}{A:ASt}(h:Φ .ret A):ForK N St X k Φ .ret A:=h
theorem Exec.forA {P:Program}{Φ:Exit→ASt→Prop}{A:ASt}{body:Code}(ss os:List Nat)(N:Nat)(upd:Nat→List Wr)(X:Nat→Prop){St:Nat→ASt}(hst:∀k,(A.put (upd k)).keep ss os=St k)(hg:A.keep ss os=St 0)(h0:X 0)
  (hr:∀k,k≤N→X k→Exec P body (ForK N St X k Φ) (St k)):Exec P (.loop body) Φ A:=Exec.for N St X (hg▸Ghost.keep A ss os) h0 hr
theorem Ghost.kp {A B:ASt}(ss os:List Nat)(h:A.keep ss os=B):Ghost A B:=h▸Ghost.keep A ss os
theorem fr0 {A:ASt}{B:Nat}:∀q x,look ([]:List (Nat × AO)) q=some x→A.obj (B+q)=none:=by intro q x h;simp [look] at h
theorem fr1 {A:ASt}{B n:Nat}{y:AO}(h:A.obj (B+n)=none):∀q x,look [(n,y)] q=some x→A.obj (B+q)=none:=by
 intro q x hq
 by_cases e:q=n
 ·subst e;exact h
 ·simp [look,e] at hq
theorem Ends.fin {P:Program}{fn:Func}{A:ASt}(os:List Nat){rs:List ResultVar}{res0:AV}(hrs:fn.results=rs.toArray)(h:resAll P A rs=some res0)(h1:A.bh=.ret (res0.keep os) (keepObs A os os)) :
  Ends P fn .ret A:=⟨.inr rfl,os,res0,by rw [hrs];exact h,h1⟩
theorem Ends.fin0 {P:Program}{fn:Func}{A:ASt}(os:List Nat){rs:List ResultVar}{res0:AV}(hrs:fn.results=rs.toArray)(h:resAll P A rs=some res0)(h1:A.bh=.ret (res0.keep os) (keepObs A os os)) :
  Ends P fn .normal A:=⟨.inl rfl,os,res0,by rw [hrs];exact h,h1⟩
attribute [go_sem] resV resVs comps resAll argSt after rn nms Beh.bind rn_nil
attribute [go_sem] Ev.runS ASt.strip wantedA
attribute [go_sem] List.tail_cons List.length_set Bool.and_true Bool.and_false Bool.true_and Bool.false_and Nat.zero_add List.contains_cons List.contains_nil Nat.reduceBEq Bool.true_or Bool.false_or Bool.or_true Bool.or_false beq_self_eq_true Bool.false_eq_true if_true if_false
attribute [go_sem] Nat.reduceEqDiff Nat.reduceAdd Nat.reduceLeDiff Nat.reduceMul Nat.reduceSub
attribute [go_sem] Option.getD_some Option.getD_none Option.bind_some Option.map_some List.length_map List.length_cons List.length_nil List.drop_zero List.drop_succ_cons List.take_succ_cons List.take_zero List.map_cons List.map_nil or_true true_or and_self and_true true_and
 List.getElem?_toArray List.getElem?_cons_zero List.getElem?_cons_succ List.cons_append List.nil_append List.append_nil List.reverse_cons List.reverse_nil List.zip_cons_cons List.zip_nil_right List.zip_nil_left Int.toNat_natCast List.length_append
 Bool.cond_true Bool.cond_false Bool.not_true Bool.not_false List.getElem?_map List.all_cons List.all_nil reduceIte ite_true ite_false ASt.ev Bool.cond_false_right Bool.cond_true_left List.length_replicate List.take_length
end Go.Mw
namespace Go.Mw
section lists
variable {α:Type} {l:List α} {p:α→Bool} {k:Nat} {s:α}
theorem take_succ_of (hs:l[k]? = some s):l.take (k+1)=l.take k++[s]:=by rw [List.take_succ,hs];rfl
theorem any_step (h:(l.take k).any p=false)(hs:l[k]? = some s)(hp:p s=false):(l.take (k+1)).any p=false:=by
 rw [take_succ_of hs,List.any_append,h];simp [hp]
theorem find_at (h:(l.take k).any p=false)(hs:l[k]? = some s)(hp:p s=true):l.findIdx? p=some k:=by
 obtain ⟨hk,rfl⟩:=List.getElem?_eq_some_iff.1 hs
 rw [List.findIdx?_eq_some_iff_getElem]
 refine ⟨hk,hp,fun j hj=>?_⟩
 have:=List.any_eq_false.1 h (l[j]'(by omega)) (by rw [List.mem_take_iff_getElem];exact ⟨j,by omega,rfl⟩)
 simpa using this
theorem find_none (h:(l.take k).any p=false)(hk:l.length≤k):l.findIdx? p=none:=by
 rw [List.findIdx?_eq_none_iff]
 intro x hx
 rw [List.take_of_length_le hk] at h
 simpa using List.any_eq_false.1 h x hx
def idxI (o:Option Nat):Int:=match o with
 |none=>-1
 |some n=>n
theorem idxI_ge {o:Option Nat}:decide (idxI o≥0)=o.isSome:=by
 cases o with
 |none=>rfl
 |some n=>simp [idxI]
theorem find_any:(l.findIdx? p).isSome=l.any p:=by
 cases h:l.findIdx? p with
 |none=>
  rw [List.findIdx?_eq_none_iff] at h
  symm
  rw [Option.isSome_none,List.any_eq_false]
  exact fun x hx=>by simp [h x hx]
 |some i=>
  rw [List.findIdx?_eq_some_iff_getElem] at h
  obtain ⟨hi,hp,_⟩:=h
  symm
  rw [Option.isSome_some,List.any_eq_true]
  exact ⟨_,List.getElem_mem hi,hp⟩
theorem elem_of (h:decide ((k:Int)<(l.length:Int))=true):∃s,l[k]? = some s:=by
 have:k<l.length:=by simpa using h
 exact ⟨_,List.getElem?_eq_getElem this⟩
theorem lt_of_dec (h:decide ((k:Int)<(l.length:Int))=true):k<l.length:=by simpa using h
theorem ge_of_dec (h:decide ((k:Int)<(l.length:Int))=false):l.length≤k:=by simpa using h
end lists
theorem ite_run {c:Prop}[Decidable c](h:c){x y:Ev}{A:ASt}{acc:List Loc}{r:Option (List Loc × List Wr)}(h':x.run A acc=r):(if c then x else y).run A acc=r:=by rw [if_pos h];exact h'
section eqs
theorem st_eq {tm tm':List (Nat × AV)}{ob ob':List (Nat × AO)}{bh bh':Beh}(h1:tm=tm')(h2:ob=ob')(h3:bh=bh'):ASt.mk tm ob bh=ASt.mk tm' ob' bh':=by rw [h1,h2,h3]
theorem ret_eq {v v':AV}{obs:List (Nat × AO)}(h:v=v'):Beh.ret v obs=Beh.ret v' obs:=by rw [h]
theorem tup_eq {l m:List (Bool × List AL)}(h:l=m):AV.tup l=AV.tup m:=by rw [h]
theorem tm_eq {α β:Type}{s:β}{v v':α}{r r':List (β × α)}(h:v=v')(h':r=r'):(s,v)::r=(s,v')::r':=by rw [h,h']
theorem val_eq {b:Bool}{ls ms:List AL}(h:ls=ms):AV.val b ls=AV.val b ms:=by rw [h]
theorem ls_eq {x y:D}{ls ms:List AL}(h:x=y)(h':ls=ms):AL.d x::ls=AL.d y::ms:=by rw [h,h']
theorem sl_eq {k:Nat}{es es':List (List D)}(h:es=es'):D.sl k es=D.sl k es':=by rw [h]
theorem b_eq {a b:Bool}(h:a=b):D.raw (.bool a)=D.raw (.bool b):=by rw [h]
theorem i_eq {k:IntKind}{n m:Int}(h:n=m):D.raw (.int k n)=D.raw (.int k m):=by rw [h]
theorem own_eq {o n n':Nat}{ls ms:List AL}(h:n=n')(h':ls=ms):AL.own o 0 n n::ls=AL.own o 0 n' n'::ms:=by rw [h,h']
theorem arr_eq {e k:Nat}{es es':List (List D)}(h:es=es'):AO.arr e k es=AO.arr e k es':=by rw [h]
theorem cells_eq {ls ms:List AL}(h:ls=ms):AO.cells ls=AO.cells ms:=by rw [h]
end eqs
section al
variable {α β:Type} {k:Nat} {l m:List (List β)}
theorem al_nil:∀y∈([]:List (List β)),y.length=k:=by simp
theorem al_cons {x:List β}(h:x.length=k)(h':∀y∈l,y.length=k):∀y∈x::l,y.length=k:=by
 intro y hy
 rcases List.mem_cons.1 hy with rfl|hy
 ·exact h
 ·exact h' y hy
theorem al_app (h:∀y∈l,y.length=k)(h':∀y∈m,y.length=k):∀y∈l++m,y.length=k:=by
 intro y hy
 rcases List.mem_append.1 hy with hy|hy
 ·exact h y hy
 ·exact h' y hy
theorem al_drop {n:Nat}(h:∀y∈l,y.length=k):∀y∈l.drop n,y.length=k:=fun y hy=>h y (List.mem_of_mem_drop hy)
theorem al_take {n:Nat}(h:∀y∈l,y.length=k):∀y∈l.take n,y.length=k:=fun y hy=>h y (List.mem_of_mem_take hy)
theorem al_map {f:α→List β}{a:List α}(h:∀x,(f x).length=k):∀y∈a.map f,y.length=k:=by
 intro y hy
 obtain ⟨x,_,rfl⟩:=List.mem_map.1 hy
 exact h x
theorem al_rep {x:List β}{n:Nat}(h:x.length=k):∀y∈List.replicate n x,y.length=k:=fun y hy=>by rw [(List.mem_replicate.1 hy).2];exact h
end al
end Go.Mw
namespace Go.Mw
section opn
variable {P:Program} {Φ:Exit→ASt→Prop} {A A' B:ASt} {ops:Array Oper} {fs:List Fp} {r:List Nat}
theorem Exec.opn {id n:Nat}{y:Code}(h:RunF P ops (List.range ops.size) A fs B)(hl:(decide (fs.length=ops.size)&&down ops)=true)(ho:ordered ops n ((List.range ops.size).zip fs)=true)(h':Exec P y Φ B) :
  Exec P (.seq (.region id ops true) y) Φ A:=by
 simp only [Bool.and_eq_true,decide_eq_true_eq] at hl
 exact .inl ⟨A,Ghost.refl A,.inl ⟨n,fs,B,h,hl.1,hl.2,ho,B,Ghost.refl B,B,Ghost.refl B,h'⟩⟩
theorem RunF.op {i:Nat}{o:Oper}{rs:List Loc}{ws:List Wr}{wl:List Loc}(ho:ops[i]? = some o)(h:stepOp P ops o A=some (rs,ws))(hp:A.put ws=A')(hw:wLocs ws=wl)(h':RunF P ops r A' fs B) :
  RunF P ops (i::r) A (⟨rs,wl⟩::fs) B:=⟨o,ws,ho,stepOp_full h,hw.symm,hp▸h'⟩
theorem RunF.yes {i:Nat}{dst:Option Nat}{op:Op}{ty:TypeId}{pos:String}{af:Array Edge}{g:Nat × Bool}{rs:List Loc}{ws:List Wr}{wl:List Loc}(ho:ops[i]? = some ⟨dst,op,ty,pos,af,some g⟩)(hw:wantedA ops (some g) A=some true)
  (h:(effOp P op dst).run A (guardLoc ops ⟨dst,op,ty,pos,af,some g⟩)=some (rs,ws)) (hp:A.put ws=A') (hl:wLocs ws=wl) (h':RunF P ops r A' fs B):RunF P ops (i::r) A (⟨rs,wl⟩::fs) B:=
 ⟨_,ws,ho,.eff rs ws hw h,hl.symm,hp▸h'⟩
theorem RunF.skp {i dst:Nat}{op:Op}{ty:TypeId}{pos:String}{af:Array Edge}{g:Nat × Bool}{rs:List Loc}(ho:ops[i]? = some ⟨some dst,op,ty,pos,af,some g⟩)(hw:wantedA ops (some g) A=some false)
  (hr:guardLoc ops ⟨some dst,op,ty,pos,af,some g⟩=rs) (hp:A.put [.slot dst (.tup [])]=A') (h':RunF P ops r A' fs B):RunF P ops (i::r) A (⟨rs,[.slot dst]⟩::fs) B:=
 ⟨_,[.slot dst (.tup [])],ho,hr▸.skip hw,rfl,hp▸h'⟩
theorem RunF.gop {i dst:Nat}{op:Op}{ty:TypeId}{pos:String}{af:Array Edge}{g:Nat × Bool}{b:Bool}{rs:List Loc}{v:AV}(ho:ops[i]? = some ⟨some dst,op,ty,pos,af,some g⟩)(hw:wantedA ops (some g) A=some b)
  (h:(effOp P op (some dst)).runS b A (guardLoc ops ⟨some dst,op,ty,pos,af,some g⟩)=some (rs,[.slot dst v])) (hp:A.put [.slot dst (.cnd b v)]=A') (h':RunF P ops r A' fs B) :
  RunF P ops (i::r) A (⟨rs,[.slot dst]⟩::fs) B:=⟨_,[.slot dst (.cnd b v)],ho,.geff rs b dst v rfl hw (by rw [←Ev.runS_eq];exact h),rfl,hp▸h'⟩
theorem RunF.cal {i d:Nat}{g:FuncId}{as:List Operand}{tys:Array TypeId}{ty:TypeId}{pos:String}{af:Array Edge}{args:List AV}{res:AV}{obs:List (Nat × AO)}{vs:List AV}{rs wl:List Loc}
  (ho:ops[i]? = some ⟨some d,.call { callee:=.value (.func g),args:=as.toArray,argTypes:=tys },ty,pos,af,none⟩)
  (hc:Contract P g args res obs) (hcan:canCall P g=true) (hv:as.map A.ev=vs) (hwk:All2 (WkR (rn [] (1000*(d+1))) []) vs args) (hfr:∀q x,look obs q=some x→A.obj (1000*(d+1)+q)=none)
  (hp:A.put (obs.reverse.map (fun p=>.obj (1000*(d+1)+p.1) (p.2.ren (1000*(d+1) + ·)))++[.slot d (res.ren (1000*(d+1) + ·))])=A')
  (hr:opLocs (.func g::as)++obs.map (fun p=>.obj (1000*(d+1)+p.1))=rs) (hw:wLocs (obs.reverse.map (fun p=>.obj (1000*(d+1)+p.1) (p.2.ren (1000*(d+1) + ·)))++[.slot d (res.ren (1000*(d+1) + ·))])=wl)
  (h':RunF P ops r A' fs B):RunF P ops (i::r) A (⟨rs,wl⟩::fs) B:=
 ⟨_,_,ho,by
  have:=StpF.call (ops:=ops) (o:=⟨some d,.call { callee:=.value (.func g),args:=as.toArray,argTypes:=tys },ty,pos,af,none⟩) _ _ rfl ⟨d,.func g,as,g,[],args,res,obs,rfl,by simp [opCall],rfl,hcan,by simpa [hv] using hwk,hc,hfr,rfl,rfl⟩
  rw [hr] at this
  exact this,hw.symm,hp▸h'⟩
theorem RunF.gcal {i d:Nat}{g:FuncId}{as:List Operand}{tys:Array TypeId}{ty:TypeId}{pos:String}{af:Array Edge}{gd:Nat × Bool}{b:Bool}{args:List AV}{res:AV}{vs:List AV}{rs:List Loc}
  (ho:ops[i]? = some ⟨some d,.call { callee:=.value (.func g),args:=as.toArray,argTypes:=tys },ty,pos,af,some gd⟩)
  (hw:wantedA ops (some gd) A=some b) (hc:Contract P g args res []) (hcan:canCall P g=true) (hv:as.map (A.strip b).ev=vs) (hwk:All2 (WkR (rn [] (1000*(d+1))) []) vs args)
  (hp:A.put [.slot d (.cnd b (res.ren (1000*(d+1) + ·)))]=A') (hr:guardLoc ops ⟨some d,.call { callee:=.value (.func g),args:=as.toArray,argTypes:=tys },ty,pos,af,some gd⟩++opLocs (.func g::as)=rs) (h':RunF P ops r A' fs B) :
  RunF P ops (i::r) A (⟨rs,[.slot d]⟩::fs) B:=
 ⟨_,[.slot d (.cnd b (res.ren (1000*(d+1) + ·)))],ho,by
  have:=StpF.gcall (ops:=ops) (o:=⟨some d,.call { callee:=.value (.func g),args:=as.toArray,argTypes:=tys },ty,pos,af,some gd⟩) _ b d _ rfl hw ⟨d,.func g,as,g,[],args,res,[],rfl,by simp [opCall],rfl,hcan,by simpa [hv] using hwk,hc,by simp [look],rfl,rfl⟩
  simp only [List.map_nil,List.append_nil] at this
  rw [hr] at this
  exact this,rfl,hp▸h'⟩
def OpenK (P:Program)(ops:Array Oper)(l:List (Oper × Nat))(A:ASt)(acc:List Fp)(K:List Fp→ASt→Prop):Prop:=(∀p∈l,ops[p.2]? = some p.1)→∃fs B,RunF P ops (l.map Prod.snd) A fs B∧K (acc.reverse++fs) B
def OpenE (ops:Array Oper)(n:Nat)(K:ASt→Prop)(fs:List Fp)(B:ASt):Prop:=(decide (fs.length=ops.size)&&down ops)=true∧ordered ops n ((List.range ops.size).zip fs)=true∧K B
theorem opk_of {n:Nat}{K:ASt→Prop}(h:OpenK P ops ops.toList.zipIdx A [] (OpenE ops n K)):∃fs B,RunF P ops (List.range ops.size) A fs B∧(decide (fs.length=ops.size)&&down ops)=true∧ordered ops n ((List.range ops.size).zip fs)=true∧K B:=by
 obtain ⟨fs,B,h,hl,ho,h'⟩:=h fun p hp=>by
  have:=List.mem_zipIdx hp
  obtain ⟨_,h2,h3⟩:=this
  rw [h3]
  simp at h2 ⊢
 have e:ops.toList.zipIdx.map Prod.snd=List.range ops.size:=by
  apply List.ext_getElem?
  intro i
  by_cases hi:i<ops.size<;>simp [hi]
 rw [e] at h
 exact ⟨fs,B,h,hl,ho,h'⟩
theorem Exec.opk {id:Nat}{y:Code}(n:Nat)(h:OpenK P ops ops.toList.zipIdx A [] (OpenE ops n (fun B=>∃B',Ghost B B' ∧ Exec P y Φ B'))):Exec P (.seq (.region id ops true) y) Φ A:=by
 obtain ⟨fs,B,h,hl,ho,B',hg,h'⟩:=opk_of h
 simp only [Bool.and_eq_true,decide_eq_true_eq] at hl
 exact .inl ⟨A,Ghost.refl A,.inl ⟨n,fs,B,h,hl.1,hl.2,ho,B',hg,B',Ghost.refl B',h'⟩⟩
theorem Exec.opk1 {id:Nat}(n:Nat)(h:OpenK P ops ops.toList.zipIdx A [] (OpenE ops n (fun B=>∃B',Ghost B B' ∧ Φ .normal B'))):Exec P (.region id ops true) Φ A:=by
 obtain ⟨fs,B,h,hl,ho,B',hg,h'⟩:=opk_of h
 simp only [Bool.and_eq_true,decide_eq_true_eq] at hl
 exact .inl ⟨A,Ghost.refl A,.inl ⟨n,fs,B,h,hl.1,hl.2,ho,B',hg,h'⟩⟩
variable {acc:List Fp} {K:List Fp→ASt→Prop} {r:List (Oper × Nat)}
theorem OpenK.nil (h:K acc.reverse A):OpenK P ops [] A acc K:=fun _=>⟨[],A,Same.refl A,by rw [List.append_nil];exact h⟩
theorem OpenE.fin {n:Nat}{K:ASt→Prop}(hl:(decide (fs.length=ops.size)&&down ops)=true)(ho:ordered ops n ((List.range ops.size).zip fs)=true)(h:K B):OpenE ops n (fun B=>∃B',Ghost B B' ∧ K B') fs B:=⟨hl,ho,B,Ghost.refl B,h⟩
theorem OpenK.cons {o:Oper}{i:Nat}{f:Fp}(h:ops[i]? = some o→∀fs B,RunF P ops (r.map Prod.snd) A' fs B→RunF P ops (i::r.map Prod.snd) A (f::fs) B)(h':OpenK P ops r A' (f::acc) K):OpenK P ops ((o,i)::r) A acc K:=by
 intro hp
 obtain ⟨fs,B,h1,h2⟩:=h' fun p hq=>hp p (by simp [hq])
 exact ⟨f::fs,B,h (hp (o,i) (by simp)) fs B h1,by simpa using h2⟩
theorem OpenK.op {i:Nat}{o:Oper}{rs:List Loc}{ws:List Wr}{wl:List Loc}(h:stepOp P ops o A=some (rs,ws))(hp:A.put ws=A')(hw:wLocs ws=wl)(h':OpenK P ops r A' (⟨rs,wl⟩::acc) K) :
  OpenK P ops ((o,i)::r) A acc K:=.cons (fun ho _ _=>RunF.op ho h hp hw) h'
theorem OpenK.yes {i:Nat}{dst:Option Nat}{op:Op}{ty:TypeId}{pos:String}{af:Array Edge}{g:Nat × Bool}{rs:List Loc}{ws:List Wr}{wl:List Loc}(hw:wantedA ops (some g) A=some true)
  (h:(effOp P op dst).run A (guardLoc ops ⟨dst,op,ty,pos,af,some g⟩)=some (rs,ws)) (hp:A.put ws=A') (hl:wLocs ws=wl) (h':OpenK P ops r A' (⟨rs,wl⟩::acc) K):OpenK P ops ((⟨dst,op,ty,pos,af,some g⟩,i)::r) A acc K:=.cons (fun ho _ _=>RunF.yes ho hw h hp hl) h'
theorem OpenK.skp {i dst:Nat}{op:Op}{ty:TypeId}{pos:String}{af:Array Edge}{g:Nat × Bool}{rs:List Loc}(hw:wantedA ops (some g) A=some false)
  (hr:guardLoc ops ⟨some dst,op,ty,pos,af,some g⟩=rs) (hp:A.put [.slot dst (.tup [])]=A') (h':OpenK P ops r A' (⟨rs,[.slot dst]⟩::acc) K):OpenK P ops ((⟨some dst,op,ty,pos,af,some g⟩,i)::r) A acc K:=.cons (fun ho _ _=>RunF.skp ho hw hr hp) h'
theorem OpenK.gop {i dst:Nat}{op:Op}{ty:TypeId}{pos:String}{af:Array Edge}{g:Nat × Bool}{b:Bool}{rs:List Loc}{v:AV}(hw:wantedA ops (some g) A=some b)
  (h:(effOp P op (some dst)).runS b A (guardLoc ops ⟨some dst,op,ty,pos,af,some g⟩)=some (rs,[.slot dst v])) (hp:A.put [.slot dst (.cnd b v)]=A') (h':OpenK P ops r A' (⟨rs,[.slot dst]⟩::acc) K) :
  OpenK P ops ((⟨some dst,op,ty,pos,af,some g⟩,i)::r) A acc K:=.cons (fun ho _ _=>RunF.gop ho hw h hp) h'
theorem OpenK.cal {i d:Nat}{g:FuncId}{as:List Operand}{tys:Array TypeId}{ty:TypeId}{pos:String}{af:Array Edge}{args:List AV}{res:AV}{obs:List (Nat × AO)}{vs:List AV}{rs wl:List Loc}
  (hc:Contract P g args res obs) (hcan:canCall P g=true) (hv:as.map A.ev=vs) (hwk:All2 (WkR (rn [] (1000*(d+1))) []) vs args) (hfr:∀q x,look obs q=some x→A.obj (1000*(d+1)+q)=none)
  (hp:A.put (obs.reverse.map (fun p=>.obj (1000*(d+1)+p.1) (p.2.ren (1000*(d+1) + ·)))++[.slot d (res.ren (1000*(d+1) + ·))])=A')
  (hr:opLocs (.func g::as)++obs.map (fun p=>.obj (1000*(d+1)+p.1))=rs) (hw:wLocs (obs.reverse.map (fun p=>.obj (1000*(d+1)+p.1) (p.2.ren (1000*(d+1) + ·)))++[.slot d (res.ren (1000*(d+1) + ·))])=wl)
  (h':OpenK P ops r A' (⟨rs,wl⟩::acc) K):OpenK P ops ((⟨some d,.call { callee:=.value (.func g),args:=as.toArray,argTypes:=tys },ty,pos,af,none⟩,i)::r) A acc K:=.cons (fun ho _ _=>RunF.cal ho hc hcan hv hwk hfr hp hr hw) h'
theorem OpenK.gcal {i d:Nat}{g:FuncId}{as:List Operand}{tys:Array TypeId}{ty:TypeId}{pos:String}{af:Array Edge}{gd:Nat × Bool}{b:Bool}{args:List AV}{res:AV}{vs:List AV}{rs:List Loc}
  (hw:wantedA ops (some gd) A=some b) (hc:Contract P g args res []) (hcan:canCall P g=true) (hv:as.map (A.strip b).ev=vs) (hwk:All2 (WkR (rn [] (1000*(d+1))) []) vs args)
  (hp:A.put [.slot d (.cnd b (res.ren (1000*(d+1) + ·)))]=A') (hr:guardLoc ops ⟨some d,.call { callee:=.value (.func g),args:=as.toArray,argTypes:=tys },ty,pos,af,some gd⟩++opLocs (.func g::as)=rs) (h':OpenK P ops r A' (⟨rs,[.slot d]⟩::acc) K) :
  OpenK P ops ((⟨some d,.call { callee:=.value (.func g),args:=as.toArray,argTypes:=tys },ty,pos,af,some gd⟩,i)::r) A acc K:=.cons (fun ho _ _=>RunF.gcal ho hw hc hcan hv hwk hp hr) h'
theorem OpenK.calw {i d:Nat}{f:Operand}{g:FuncId}{ds:List D}{as:List Operand}{tys:Array TypeId}{ty:TypeId}{pos:String}{af:Array Edge}{gd:Option (Nat × Bool)}{args:List AV}{res:AV}{obs:List (Nat × AO)}{vs:List AV}{rs wl:List Loc}
  (hwt:wantedA ops gd A=some true) (hc:Contract P g args res obs) (hcan:canCall P g=true) (hf:A.ev f=.leaf (.d (.fn g ds))) (hv:as.map A.ev=vs) (hwk:All2 (WkR (rn [] (1000*(d+1))) []) (vs++ds.map fun x=>.leaf (.d x)) args)
  (hfr:∀q x,look obs q=some x→A.obj (1000*(d+1)+q)=none)
  (hp:A.put (obs.reverse.map (fun p=>.obj (1000*(d+1)+p.1) (p.2.ren (1000*(d+1) + ·)))++[.slot d (res.ren (1000*(d+1) + ·))])=A')
  (hr:guardLoc ops ⟨some d,.call { callee:=.value f,args:=as.toArray,argTypes:=tys },ty,pos,af,gd⟩++(opLocs (f::as)++obs.map (fun p=>.obj (1000*(d+1)+p.1)))=rs)
  (hw:wLocs (obs.reverse.map (fun p=>.obj (1000*(d+1)+p.1) (p.2.ren (1000*(d+1) + ·)))++[.slot d (res.ren (1000*(d+1) + ·))])=wl)
  (h':OpenK P ops r A' (⟨rs,wl⟩::acc) K):OpenK P ops ((⟨some d,.call { callee:=.value f,args:=as.toArray,argTypes:=tys },ty,pos,af,gd⟩,i)::r) A acc K:=
 .cons (fun ho _ _ hrun=>⟨_,_,ho,by
  have:=StpF.call (ops:=ops) (o:=⟨some d,.call { callee:=.value f,args:=as.toArray,argTypes:=tys },ty,pos,af,gd⟩) _ _ hwt ⟨d,f,as,g,ds,args,res,obs,rfl,by simp [opCall],hf,hcan,by rw [hv];exact hwk,hc,hfr,rfl,rfl⟩
  rw [hr] at this
  exact this,hw.symm,hp▸hrun⟩) h'
theorem Run.calw {Ψ:ASt→Prop}{l:List Oper}{d:Nat}{f:Operand}{g:FuncId}{ds:List D}{as:List Operand}{tys:Array TypeId}{ty:TypeId}{pos:String}{af:Array Edge}{gd:Option (Nat × Bool)}{args:List AV}{res:AV}{obs:List (Nat × AO)}{vs:List AV}
  (hwt:wantedA ops gd A=some true) (hc:Contract P g args res obs) (hcan:canCall P g=true) (hf:A.ev f=.leaf (.d (.fn g ds))) (hv:as.map A.ev=vs) (hwk:All2 (WkR (rn [] (1000*(d+1))) []) (vs++ds.map fun x=>.leaf (.d x)) args)
  (hfr:∀q x,look obs q=some x→A.obj (1000*(d+1)+q)=none)
  (hp:A.put (obs.reverse.map (fun p=>.obj (1000*(d+1)+p.1) (p.2.ren (1000*(d+1) + ·)))++[.slot d (res.ren (1000*(d+1) + ·))])=A')
  (h':Run P ops Ψ l A'):Run P ops Ψ (⟨some d,.call { callee:=.value f,args:=as.toArray,argTypes:=tys },ty,pos,af,gd⟩::l) A:=
 .call _ hwt ⟨d,f,as,g,ds,args,res,obs,rfl,by simp [opCall],hf,hcan,by rw [hv];exact hwk,hc,hfr,rfl⟩ (hp▸h')
theorem Run.lendA {Ψ:ASt→Prop}{l:List Oper}{d:Nat}{f:Operand}{g:FuncId}{ds:List D}{as:List Operand}{tys:Array TypeId}{ty:TypeId}{pos:String}{af:Array Edge}{args:List AV}{res:AV}{vs:List AV}(q n:Nat){e:TypeId}{k:Nat}{es es':List (List D)}
  (hc:Con P g args [(q,.arr e k es)] (.ret res [(q,.arr e k es')])) (hlen:es.length≤es'.length) (hcan:canCall P g=true) (hf:A.ev f=.leaf (.d (.fn g ds))) (hv:as.map A.ev=vs) (hob:A.obj n=some (.arr e k es))
  (hwk:All2 (WkR (rn [(q,n)] (1000*(d+1))) [q]) (vs++ds.map fun x=>.leaf (.d x)) args)
  (hp:(⟨(d,res.ren (rn [(q,n)] (1000*(d+1))))::A.tm,(n,.arr e k es')::A.ob,A.bh⟩:ASt)=A')
  (h':Run P ops Ψ l A'):Run P ops Ψ (⟨some d,.call { callee:=.value f,args:=as.toArray,argTypes:=tys },ty,pos,af,none⟩::l) A:=by
 have hl:∀p x,look [(q,AO.arr e k es)] p=some x→p=q∧x=.arr e k es:=fun p x h=>by
  by_cases e:p=q
  ·subst e;simp [look] at h;exact ⟨rfl,h.symm⟩
  ·simp [look,e] at h
 have hl2:∀p m,look [(q,n)] p=some m→p=q∧m=n:=fun p m h=>by
  by_cases e:p=q
  ·subst e;simp [look] at h;exact ⟨rfl,h.symm⟩
  ·simp [look,e] at h
 refine Run.calg [(q,n)] (fun _ _=>A.bh) hc hcan (caps:=ds.map .d) (.inl ⟨ds,hf,rfl⟩) hv (by rw [List.map_map];exact hwk) ⟨fun p x h=>?_,fun p m h=>?_,fun p p' m h h'=>(hl2 p m h).1.trans (hl2 p' m h').1.symm,fun p m ls h h'=>?_,fun res' obs' hlf=>?_⟩ rfl (fun res' obs' hlf=>?_)
 ·obtain ⟨rfl,rfl⟩:=hl p x h
  exact ⟨n,.arr e k es,by simp [look],hob,rfl,rfl⟩
 ·obtain ⟨rfl,rfl⟩:=hl2 p m h
  exact ⟨_,by simp [look];rfl⟩
 ·have h2:=(hl p _ h').2
  cases h2
 ·obtain ⟨rfl,rfl⟩:=hlf.inv
  refine ⟨fun p x h=>?_,fun p x h h2=>?_⟩
  ·obtain ⟨rfl,rfl⟩:=hl p x h
   exact ⟨.arr e k es',by simp [look],es',rfl,hlen⟩
  ·by_cases e:p=q
   ·subst e;simp [look] at h2
   ·simp [look,e] at h
 ·obtain ⟨h1,h2⟩:=hlf.inv
  subst h1 h2
  have hr:rn [(q,n)] (1000*(d+1)) q=n:=by simp [rn,look]
  have:after A d (rn [(q,n)] (1000*(d+1))) res' [(q,.arr e k es')] A.bh=A':=by
   rw [←hp];simp [after,hr,AO.ren]
  rw [this];exact h'
theorem WkR.int {r:Nat→Nat}{ns:List Nat}{a b:Int}(h:a=b):WkR r ns (.int a) (.int b):=h▸WkR.pure rfl
theorem wkr_caps (r:Nat→Nat)(ns:List Nat):∀ds:List D,All2 (WkR r ns) (ds.map fun x=>.leaf (.d x)) (ds.map fun x=>.leaf (.d x))
 |[]=>trivial
 |_::ds=>⟨WkR.pure rfl,wkr_caps r ns ds⟩
theorem Exec.forY {body:Code}{Φ:Exit→ASt→Prop}(ss os:List Nat)(N:Nat)(upd:Nat→List Wr)(bf:Nat→Beh)(X:Nat→Prop){St:Nat→ASt}(hst:∀k,(⟨((A.put (upd k)).keep ss os).tm,((A.put (upd k)).keep ss os).ob,bf k⟩:ASt)=St k)(hg:A.keep ss os=St 0)(h0:X 0)
  (hr:∀k,k≤N→X k→Exec P body (ForK N St X k Φ) (St k)):Exec P (.loop body) Φ A:=Exec.for N St X (hg▸Ghost.keep A ss os) h0 hr
end opn
attribute [go_sem] wLocs opLocs
end Go.Mw
namespace Go.Mw
theorem All2.set {α β:Type}{R:α→β→Prop}:∀ {l:List α} {m:List β} {i:Nat} {x:α},All2 R l m→(∀b,m[i]? = some b→R x b)→All2 R (l.set i x) m
 |[],[],_,_,_,_=>trivial
 |_::_,_::_,0,_,h,hx=>⟨hx _ rfl,h.2⟩
 |_::_,_::_,i+1,_,h,hx=>⟨h.1,All2.set (i:=i) h.2 fun b hb=>hx b (by simpa using hb)⟩
 |[],_::_,_,_,h,_=>h.elim
 |_::_,[],_,_,h,_=>h.elim
theorem Ghost.nilC (A:ASt)(c i o:Nat)(e:TypeId)(k:Nat){ls:List AL}(hc:A.obj c=some (.cells ls))(hi:ls[i]? = some (.d (.raw (.slice none 0 0))))(ho:A.obj o=none)(hk:0<k)(hN:1000≤o) :
  Ghost A (A.put [.obj o (.arr e k []),.obj c (.cells (ls.set i (.own o 0 0 0)))]):=by
 intro P C a w ⟨S,M,ι,hR⟩
 have hne:o≠c:=fun h=>by rw [h,hc] at ho;cases ho
 have hon:Only ι A o w w:=⟨rfl,rfl,rfl,Nat.le_refl _,fun _ _ _=>rfl⟩
 have ht:Turns ι A o (.arr e k []) (.slice none 0 0):=turns_new ho _ _
 have hpin:C.pin o=none:=by
  cases hp:C.pin o with
  |none=>rfl
  |some q=>have:=hR.pinN o (by rw [hp];simp);omega
 have h1:=hR.chg hon ht ⟨[],by rw [upd_same];exact World.ownsRow_nil w 0 e k,by trivial,by simp,hk,fun b hb=>by rw [upd_same] at hb;simp [blk] at hb⟩ (fun b hb=>by simp [blk] at hb) (by simp) fun _=>hpin
 have hc1:(A.put [.obj o (.arr e k [])]).obj c=some (.cells ls):=by rw [obj_other _ _ hne.symm];exact hc
 have hon2:Only (upd ι o (.slice none 0 0)) (A.put [.obj o (.arr e k [])]) c w w:=⟨rfl,rfl,rfl,Nat.le_refl _,fun _ _ _=>rfl⟩
 have ht2:Turns (upd ι o (.slice none 0 0)) (A.put [.obj o (.arr e k [])]) c (.cells (ls.set i (.own o 0 0 0))) (upd ι o (.slice none 0 0) c):=by unfold Turns;rw [hc1];exact ⟨⟨_,rfl⟩,rfl⟩
 have hm:=hon2.mv h1 ht2
 obtain ⟨b,vs,el,hι,hheap,hall,hS⟩:=h1.objs c _ hc1
 have h2:=h1.chg hon2 ht2 ⟨b,vs,el,by rw [upd_same];exact hι,hheap,(hall.mono fun _ _=>hm.l).set fun u hu=>?_,hS⟩ (fun b1 hb1=>.inr ⟨_,hc1,hb1⟩) (by simp) (fun hn=>by rw [hc1] at hn;cases hn)
 ·exact ⟨S,_,_,h2⟩
 ·have hv:=raw_eq (hall.get hi hu)
  rw [hv]
  refine ⟨rfl,e,k,[],by rw [obj_other _ _ hne];exact obj_same _ _ _,Nat.le_refl _,fun _=>⟨Nat.le_refl _,?_⟩⟩
  rw [upd_other _ _ hne,upd_same]
  exact OwnVal.tip (World.ownsRow_nil w 0 e k)
theorem Run.nilC {P:Program}{ops:Array Oper}{Ψ:ASt→Prop}{A A':ASt}{l:List Oper}(c i o:Nat)(e:TypeId)(k:Nat){ls:List AL}(hc:A.obj c=some (.cells ls))(hi:ls[i]? = some (.d (.raw (.slice none 0 0))))(ho:A.obj o=none)(hk:0<k)(hN:1000≤o)
  (hp:A.put [.obj o (.arr e k []),.obj c (.cells (ls.set i (.own o 0 0 0)))]=A') (h':Run P ops Ψ l A'):Run P ops Ψ l A:=.ghost (Ghost.nilC A c i o e k hc hi ho hk hN) (hp▸h')
def lB:List (List AV)→Beh
 |[]=>.ret (.tup []) []
 |v::r=>.yld v fun b=>bif b then lB r else .ret (.tup []) []
def Beh.cnt:Beh→Nat
 |.ret _ _=>0
 |.yld _ k=>(k true).cnt+1
theorem lB_cnt:∀l:List (List AV),(lB l).cnt=l.length
 |[]=>rfl
 |v::r=>by simp only [lB,Beh.cnt,cond_true,List.length_cons,lB_cnt r]
@[go_sem] theorem lB_nil:lB []=.ret (.tup []) []:=rfl
theorem lB_cons (v:List AV)(r:List (List AV)):lB (v::r)=.yld v fun b=>bif b then lB r else .ret (.tup []) []:=rfl
def RngK (ss:List Nat)(St:Nat→ASt)(X:Nat→Prop)(k:Nat)(Φ:Exit→ASt→Prop):Exit→ASt→Prop:=fun e A=>match e with
 |.normal=>Ghost (A.lim ss) (St (k+1))∧X (k+1)
 |.ret=>Φ .ret (A.lim ss)
 |.exit i=>Φ (.exit i) (A.lim ss)
 |_=>False
section rng
variable {P:Program} {Φ:Exit→ASt→Prop} {A A':ASt} {ss:List Nat} {St:Nat→ASt} {X:Nat→Prop} {k:Nat}
theorem RngK.nrm (h:Ghost (A.lim ss) (St (k+1)))(h':X (k+1)):RngK ss St X k Φ .normal A:=⟨h,h'⟩
theorem RngK.ret (hp:A.lim ss=A')(h:Φ .ret A'):RngK ss St X k Φ .ret A:=by show Φ .ret (A.lim ss);rw [hp];exact h
theorem RngK.ext {i:Nat}(hp:A.lim ss=A')(h:Φ (.exit i) A'):RngK ss St X k Φ (.exit i) A:=by show Φ (.exit i) (A.lim ss);rw [hp];exact h
theorem Ghost.kl {B:ASt}(os:List Nat)(h:(A.lim ss).keep ss os=B):Ghost (A.lim ss) B:=h▸Ghost.keep _ ss os
theorem Restr.refl (A:ASt):Restr A A:=⟨fun _ _ _ _ _ h=>h,fun _ _ _ _ x' h=>⟨x',h,fun h=>h,fun h=>h,fun _ _ _ h=>h⟩,rfl⟩
theorem lendOK_nil (T:Nat)(ob:List (Nat × AO)):lendOK T [] ob:=⟨rfl,fun q x h=>by cases h⟩
theorem backOK_nil (pre ob:List (Nat × AO)):backOK pre [] ob:=fun q x h=>by cases h
theorem Exec.rangeL {g:Operand}{ps:Array Tmp}{assign body:Code}(gf:FuncId)(ds:List D)(T:Nat)(vals:List (List AV))(ss os:List Nat)(upd:Nat→List Wr)(X:Nat→Prop){St:Nat→ASt}{tm0:List (Nat × AV)}{bh0:Beh}
  (hst:∀k,(A.put (upd k)).keep ss os=St k) (hg:A.keep ss os=St 0) (htm:∀k,(St k).tm=tm0) (hbh:∀k,(St k).bh=bh0) (hss:tm0.map Prod.fst=ss) (hev:(St 0).ev g=.leaf (.d (.fn gf ds))) (hcan:canCall P gf=true)
  (hcon:Con P gf (.leaf (.obj T)::ds.map fun x=>.leaf (.d x)) [(T,.yl)] (lB vals)) (hld:loopDst ss ps assign body=true) (h0:X 0)
  (hr:∀k v,vals[k]? = some v→X k→v.length=ps.size∧Exec P assign (fun e A1=>e=.normal∧Exec P body (RngK ss St X k Φ) A1) ⟨ps.toList.zip v++tm0,(St k).ob,bh0⟩)
  (hend:X vals.length→Φ .normal (St vals.length)):Exec P (.rangeFunc g ps assign body) Φ A:=by
 have hS:∀k,(⟨tm0,(St k).ob,bh0⟩:ASt)=St k:=fun k=>by rw [←htm k,←hbh k]
 have hk:∀k,k≤vals.length→vals.length-(lB (vals.drop k)).cnt=k:=fun k hk=>by rw [lB_cnt,List.length_drop];omega
 have e0:vals.length-(lB vals).cnt=0:=by have:=hk 0 (Nat.zero_le _);simpa using this
 refine ⟨gf,ds,ds.map (fun x=>.leaf (.d x)),T,lB vals,tm0,tm0,fun b=>(St (vals.length-b.cnt)).ob,fun _=>bh0,fun b=>∃k,k≤vals.length∧b=lB (vals.drop k)∧X k,[],?_,hcan,?_,hcon,?_,Restr.refl _,lendOK_nil _ _,⟨0,Nat.zero_le _,by simp,h0⟩,by rw [hss];exact hld,?_,?_⟩
 ·show (ASt.mk tm0 (St (vals.length-(lB vals).cnt)).ob bh0).ev g=_
  rw [e0,hS];exact hev
 ·have:∀l:List D,All2 WkP (l.map fun x=>AV.leaf (.d x)) (l.map fun x=>AV.leaf (.d x)):=fun l=>by
   induction l with
   |nil=>trivial
   |cons x l ih=>exact ⟨WkP.refl rfl,ih⟩
  exact this ds
 ·show Ghost A ⟨tm0,(St (vals.length-(lB vals).cnt)).ob,bh0⟩
  rw [e0,hS]
  exact hg▸Ghost.keep A ss os
 ·rintro v κ ⟨k,hkl,hb,hX⟩
  cases hd:vals.drop k with
  |nil=>rw [hd] at hb;cases hb
  |cons v' r=>
   have hlt:k<vals.length:=by
    have:(vals.drop k).length=r.length+1:=by rw [hd];rfl
    rw [List.length_drop] at this;omega
   have hv:vals[k]? = some v':=by
    have:(vals.drop k)[0]? = some v':=by rw [hd];rfl
    rwa [List.getElem?_drop,Nat.add_zero] at this
   have hr':vals.drop (k+1)=r:=by rw [←List.drop_drop,hd];rfl
   rw [hd,lB_cons] at hb
   injection hb with hb1 hb2
   subst hb1 hb2
   obtain ⟨h1,h2⟩:=hr k v hv hX
   refine ⟨h1,?_⟩
   have e1:vals.length-(Beh.yld v fun b=>bif b then lB r else .ret (.tup []) []).cnt=k:=by
    have:=hk k hkl
    rw [hd,lB_cons] at this
    exact this
   have e3:(St k).ob=(St (vals.length-(Beh.yld v fun b=>bif b then lB r else .ret (.tup []) []).cnt)).ob:=by rw [e1]
   rw [e3] at h2
   refine Exec.mono assign (fun e A1 h=>⟨h.1,Exec.mono body (fun e A2 h=>?_) h.2⟩) h2
   cases e with
   |normal=>
    obtain ⟨hg',hX'⟩:=h
    refine ⟨?_,k+1,hlt,by rw [hr'];rfl,hX'⟩
    have e2:vals.length-(lB r).cnt=k+1:=by rw [←hr'];exact hk (k+1) hlt
    show Ghost (A2.lim (tm0.map Prod.fst)) ⟨tm0,(St (vals.length-(lB r).cnt)).ob,bh0⟩
    rw [e2,hS,hss]
    exact hg'
   |ret=>exact ⟨_,_,rfl,backOK_nil _ _,by rw [hss];exact h⟩
   |exit i=>exact ⟨_,_,rfl,backOK_nil _ _,by rw [hss];exact h⟩
   |_=>exact h.elim
 ·rintro res obs ⟨k,hkl,hb,hX⟩
  cases hd:vals.drop k with
  |cons v' r=>rw [hd] at hb;cases hb
  |nil=>
   have hkk:k=vals.length:=by
    have:(vals.drop k).length=0:=by rw [hd];rfl
    rw [List.length_drop] at this;omega
   subst hkk
   have:vals.length-(Beh.ret res obs).cnt=vals.length:=by simp [Beh.cnt]
   have hb':Beh.ret res obs=.ret (.tup []) []:=by rw [hb,hd];rfl
   injection hb' with e1 e2
   subst e2
   refine ⟨backOK_nil _ _,?_⟩
   show Φ .normal ⟨tm0,(St (vals.length-(Beh.ret res []).cnt)).ob,bh0⟩
   rw [this,hS]
   exact hend hX
end rng
end Go.Mw
namespace Go.Mw
open Go.RowKit
def FL.kp (p:Nat→Bool):FL→FL
 |.d x=>.d x
 |.own o i j t=>if p o=true then .own o i j t else .dead
 |.obj o=>if p o=true then .obj o else .dead
 |.dead=>.dead
def AL.kp (p:Nat→Bool):AL→AL
 |.d x=>.d x
 |.ptr o i=>if p o=true then .ptr o i else .dead
 |.eptr o i j t=>if p o=true then .eptr o i j t else .dead
 |.own o i j t=>if p o=true then .own o i j t else .dead
 |.obj o=>if p o=true then .obj o else .dead
 |.fpt fs=>.fpt (fs.map (·.kp p))
 |.csl o i j=>if p o=true then .csl o i j else .dead
 |.dead=>.dead
def AV.kp (p:Nat→Bool):AV→AV
 |.val ag ls=>.val ag (ls.map (·.kp p))
 |.tup cs=>.tup (cs.map fun c=>(c.1,c.2.map (·.kp p)))
 |.cnd b v=>.cnd b (v.kp p)
 |.dead=>.dead
def AO.kp (p:Nat→Bool):AO→AO
 |.cells ls=>.cells (ls.map (·.kp p))
 |.arr e k es=>.arr e k es
 |.clo f ls=>.clo f (ls.map (·.kp p))
 |.yl=>.yl
 |.map es=>.map (es.map fun q=>(q.1,q.2.1,q.2.2.map (·.kp p)))
 |.mth f ls=>.mth f (ls.map (·.kp p))
 |.pin v l=>.pin v (l.kp p)
 |.iter ls n s c=>.iter (ls.map (·.kp p)) n s c
 |.sit s q=>.sit s q
 |.byt b c l=>.byt b c l
def kpObs (p:Nat→Bool):List (Nat × AO)→List (Nat × AO)
 |[]=>[]
 |(o,x)::r=>if p o=true then (o,x.kp p)::kpObs p r else kpObs p r
def ASt.kp (A:ASt)(ss:List Nat)(p:Nat→Bool):ASt:=⟨ss.map fun s=>(s,(A.get s).kp p),kpObs p A.ob,A.bh⟩
section kp
variable (A:ASt) (ss:List Nat) (p:Nat→Bool)
end kp
attribute [go_sem] FL.kp AV.kp AO.kp kpObs
section kps
variable (p:Nat→Bool)
@[go_sem] theorem kp_d (x:D):(AL.d x).kp p=.d x:=rfl
@[go_sem] theorem kp_ptr (o i:Nat):(AL.ptr o i).kp p=if p o=true then .ptr o i else .dead:=rfl
@[go_sem] theorem kp_eptr (o i j t:Nat):(AL.eptr o i j t).kp p=if p o=true then .eptr o i j t else .dead:=rfl
@[go_sem] theorem kp_own (o i j t:Nat):(AL.own o i j t).kp p=if p o=true then .own o i j t else .dead:=rfl
@[go_sem] theorem kp_obj' (o:Nat):(AL.obj o).kp p=if p o=true then .obj o else .dead:=rfl
@[go_sem] theorem kp_fpt (fs:List FL):(AL.fpt fs).kp p=.fpt (fs.map (·.kp p)):=rfl
@[go_sem] theorem kp_csl (o i j:Nat):(AL.csl o i j).kp p=if p o=true then .csl o i j else .dead:=rfl
@[go_sem] theorem kp_dead:(AL.dead).kp p=.dead:=rfl
end kps
@[go_sem] theorem kp_mk (tm:List (Nat × AV))(ob:List (Nat × AO))(bh:Beh)(ss:List Nat)(p:Nat→Bool):(ASt.mk tm ob bh).kp ss p=⟨ss.map fun s=>(s,((look tm s).getD .dead).kp p),kpObs p ob,bh⟩:=rfl
end Go.Mw
namespace Go.Mw
open Go.RowKit
def r1 (o n q:Nat):Nat:=if q=o then n else q
theorem Ghost.ob {tm:List (Nat × AV)}{ob ob':List (Nat × AO)}{bh:Beh}(h:∀o,look ob' o=look ob o):Ghost ⟨tm,ob,bh⟩ ⟨tm,ob',bh⟩:=by
 refine ghost_of (fun S ι w s v hr=>?_) fun S ι w o x' h'=>?_
 ·have e:(ASt.mk tm ob' bh).obj=(ASt.mk tm ob bh).obj:=funext h
  rw [e];exact hr
 ·have e:(ASt.mk tm ob' bh).obj=(ASt.mk tm ob bh).obj:=funext h
  rw [e] at h'
  exact ⟨x',h',fun hk=>by rw [e];exact hk,fun h=>h,fun _ _ _ h=>h⟩
theorem Run.yldw {P:Program}{ops:Array Oper}{Ψ:ASt→Prop}{A:ASt}{l:List Oper}{d c:Nat}{f:Operand}{as:List Operand}{tys:Array TypeId}{ty:TypeId}{pos:String}{af:Array Edge}{gd:Option (Nat × Bool)}{args vs:List AV}{k:Bool→Beh}
  (hwt:wantedA ops gd A=some true) (hf:A.ev f=.leaf (.obj c)) (hc:A.obj c=some .yl) (hv:as.map A.ev=vs) (hwk:All2 WkP vs args) (hbh:A.bh=.yld args k)
  (h':∀t,Run P ops Ψ l ⟨(d,.bool t)::A.tm,A.ob,k t⟩):Run P ops Ψ (⟨some d,.call { callee:=.value f,args:=as.toArray,argTypes:=tys },ty,pos,af,gd⟩::l) A:=
 .yl (f:=f) (as:=as) rfl hwt (by simp [opCall]) hf hc (by rw [hv];exact hwk) hbh h'
end Go.Mw
namespace Go.Mw
open Go.RowKit
section bfz
variable {P:Program} {ops:Array Oper} {A A':ASt} {r:List (Oper × Nat)} {acc:List Fp} {K:List Fp→ASt→Prop}
theorem frz_idF {S:Settled}{ι:Nat→Value}{H:Nat→Option AO}{w:World}{d k:Nat}{es:List (List D)}(hd:H d=none){l:FL}{v:Value}(h:RepF S ι H w l v):FL.frz d k es l=l:=by
 cases l with
 |own q i n t=>
  simp only [FL.frz]
  split
  ·rename_i e
   subst e
   obtain ⟨_,_,_,_,h1,_⟩:=h
   rw [hd] at h1;cases h1
  ·rfl
 |_=>rfl
theorem frz_idL {S:Settled}{ι:Nat→Value}{H:Nat→Option AO}{w:World}{d k:Nat}{es:List (List D)}(hd:H d=none){l:AL}{v:Value}(h:RepL S ι H w l v):AL.frz d k es l=l:=by
 cases l with
 |eptr q i j t=>
  simp only [AL.frz]
  split
  ·rename_i e
   subst e
   obtain ⟨_,_,_,_,h1,_⟩:=h
   rw [hd] at h1;cases h1
  ·rfl
 |own q i n t=>
  simp only [AL.frz]
  split
  ·rename_i e
   subst e
   obtain ⟨_,_,_,_,h1,_⟩:=h
   rw [hd] at h1;cases h1
  ·rfl
 |fpt fs=>
  obtain ⟨b,off,_,hf⟩:=h
  simp only [AL.frz,AL.fpt.injEq]
  refine List.ext_getElem? fun j=>?_
  rw [List.getElem?_map]
  cases hj:fs[j]? with
  |none=>rfl
  |some f=>
   obtain ⟨_,u,_,h3⟩:=hf j f hj
   rw [Option.map_some,frz_idF hd h3]
 |_=>rfl
theorem map_idL {β:Type}{R:AL→β→Prop}{φ:AL→AL}(hφ:∀l v,R l v→φ l=l):∀ {ls:List AL} {vs:List β},All2 R ls vs→ls.map φ=ls
 |[],[],_=>rfl
 |l::ls,v::vs,h=>by rw [List.map_cons,hφ l v h.1,map_idL hφ h.2]
 |[],_::_,h=>h.elim
 |_::_,[],h=>h.elim
theorem frz_idC {S:Settled}{ι:Nat→Value}{H:Nat→Option AO}{w:World}{d k:Nat}{es:List (List D)}(hd:H d=none){ag:Bool}{ls:List AL}{v:Value}(h:RepC S ι H w ag ls v):ls.map (AL.frz d k es)=ls:=by
 cases ag with
 |true=>obtain ⟨vs,_,ha⟩:=h;exact map_idL (fun _ _=>frz_idL hd) ha
 |false=>obtain ⟨l,rfl,ha⟩:=h;rw [List.map_cons,frz_idL hd ha];rfl
theorem frz_backV {S S':Settled}{ι ι':Nat→Value}{H H':Nat→Option AO}{w w':World}{d k:Nat}{es:List (List D)}(hd:H d=none):∀ {av:AV} {v v':Value},RepV S ι H w av v→RepV S' ι' H' w' (av.mapL (AL.frz d k es)) v' → RepV S' ι' H' w' av v'
 |.val ag ls,v,v',h,h'=>by
  have e:=frz_idC (k:=k) (es:=es) hd h
  simp only [AV.mapL,e] at h'
  exact h'
 |.tup cs,v,v',⟨vs,_,h⟩,h'=>by
  have e:∀ {cs:List (Bool × List AL)} {vs:List Value},All2 (fun c u=>RepC S ι H w c.1 c.2 u) cs vs→cs.map (fun c=>(c.1,c.2.map (AL.frz d k es)))=cs:=by
   intro cs
   induction cs with
   |nil=>intro vs _;rfl
   |cons c cs ih=>
    intro vs h
    cases vs with
    |nil=>exact h.elim
    |cons u vs=>rw [List.map_cons,ih h.2,frz_idC hd h.1]
  simp only [AV.mapL,e h] at h'
  exact h'
 |.cnd b x,v,v',h,h'=>by
  simp only [AV.mapL] at h'
  exact ⟨fun hb=>frz_backV hd (h.1 hb) (h'.1 hb),h'.2⟩
 |.dead,_,_,_,_=>trivial
theorem frz_idO {S:Settled}{ι:Nat→Value}{H:Nat→Option AO}{w:World}{d k:Nat}{es:List (List D)}(hd:H d=none){o:Nat}{x:AO}(h:ObjOK S ι H w o x):x.mapL (AL.frz d k es)=x:=by
 cases x with
 |cells ls=>obtain ⟨_,_,_,_,_,ha,_⟩:=h;simp only [AO.mapL];rw [map_idL (fun _ _=>frz_idL hd) ha]
 |clo f ls=>obtain ⟨_,_,ha⟩:=h;simp only [AO.mapL];rw [map_idL (fun _ _=>frz_idL hd) ha]
 |mth f ls=>obtain ⟨_,_,ha⟩:=h;simp only [AO.mapL];rw [map_idL (fun _ _=>frz_idL hd) ha]
 |pin v l=>simp only [AO.mapL];rw [frz_idL hd h.2]
 |iter ls n sn c=>obtain ⟨_,_,_,_,ha,_⟩:=h;simp only [AO.mapL];rw [map_idL (fun _ _=>frz_idL hd) ha]
 |sit s p=>rfl
 |byt b c l=>rfl
 |map es'=>
  obtain ⟨_,qs,_,_,_,ha,_⟩:=h
  have e:∀ {es':List (Value × Bool × List AL)} {qs:List MapEntry},All2 (RepE S ι H w) es' qs→es'.map (fun p=>(p.1,p.2.1,p.2.2.map (AL.frz d k es)))=es':=by
   intro es'
   induction es' with
   |nil=>intro vs _;rfl
   |cons c cs ih=>
    intro vs h
    cases vs with
    |nil=>exact h.elim
    |cons u vs=>rw [List.map_cons,ih h.2,frz_idC hd h.1.2]
  simp only [AO.mapL];rw [e ha]
 |_=>rfl
theorem settle_at {C:Ctx P}{d n e k:Nat}{es:List (List D)}{B:ASt}{a a':Act}{w w':World}(hl:es.length=n)(hd:B.obj d=none)(h0:Rel C B a w)(h1:Rel C (B.put [.slot d (.leaf (.own d 0 n n)),.obj d (.arr e k es)]) a' w') :
  Rel C (B.put [.slot d (.leaf (.d (.sl k es)))]) a' w':=by
 have h2:=Ghost.frz _ d P C a' w' h1
 obtain ⟨S,M,ι,hR⟩:=h0
 have ho1:(B.put [.slot d (.leaf (.own d 0 n n)),.obj d (.arr e k es)]).obj d=some (.arr e k es):=by simp [ASt.put,ASt.put1,ASt.obj,look]
 have hfz:(B.put [.slot d (.leaf (.own d 0 n n)),.obj d (.arr e k es)]).frz d=(B.put [.slot d (.leaf (.own d 0 n n)),.obj d (.arr e k es)]).settle d (AL.frz d k es):=by
  unfold ASt.frz;rw [ho1]
 rw [hfz] at h2
 have hobj:∀q,((B.put [.slot d (.leaf (.own d 0 n n)),.obj d (.arr e k es)]).settle d (AL.frz d k es)).obj q=(B.put [.slot d (.leaf (.d (.sl k es)))]).obj q:=by
  intro q
  have e1:((B.put [.slot d (.leaf (.own d 0 n n)),.obj d (.arr e k es)]).settle d (AL.frz d k es)).obj q=if q=d then none else ((B.put [.slot d (.leaf (.own d 0 n n)),.obj d (.arr e k es)]).obj q).map (·.mapL (AL.frz d k es)):=look_mapOb d _ q _
  have e2:(B.put [.slot d (.leaf (.d (.sl k es)))]).obj q=B.obj q:=rfl
  rw [e1,e2]
  by_cases hq:q=d
  ·subst hq;rw [if_pos rfl,hd]
  ·rw [if_neg hq]
   have e3:(B.put [.slot d (.leaf (.own d 0 n n)),.obj d (.arr e k es)]).obj q=B.obj q:=by simp [ASt.put,ASt.put1,ASt.obj,look,hq]
   rw [e3]
   cases hx:B.obj q with
   |none=>rfl
   |some x=>rw [Option.map_some,frz_idO hd (hR.objs q x hx)]
 have hfun:((B.put [.slot d (.leaf (.own d 0 n n)),.obj d (.arr e k es)]).settle d (AL.frz d k es)).obj=(B.put [.slot d (.leaf (.d (.sl k es)))]).obj:=funext hobj
 refine ghost_of (A:=(B.put [.slot d (.leaf (.own d 0 n n)),.obj d (.arr e k es)]).settle d (AL.frz d k es)) (A':=B.put [.slot d (.leaf (.d (.sl k es)))]) (fun S' ι' w2 s v h=>?_) (fun S' ι' w2 o x' h=>?_) rfl P C a' w' h2
 ·rw [←hfun]
  have e1:((B.put [.slot d (.leaf (.own d 0 n n)),.obj d (.arr e k es)]).settle d (AL.frz d k es)).get s=((B.put [.slot d (.leaf (.own d 0 n n)),.obj d (.arr e k es)]).get s).mapL (AL.frz d k es):=look_mapTm _ s _
  rw [e1] at h
  by_cases hs:s=d
  ·subst hs
   have e2:(B.put [.slot s (.leaf (.own s 0 n n)),.obj s (.arr e k es)]).get s=.leaf (.own s 0 n n):=by simp [ASt.put,ASt.put1,ASt.get,look]
   have e3:(B.put [.slot s (.leaf (.d (.sl k es)))]).get s=.leaf (.d (.sl k es)):=by simp [ASt.put,ASt.put1,ASt.get,look]
   rw [e2] at h
   rw [e3]
   have e4:(AV.leaf (.own s 0 n n)).mapL (AL.frz s k es)=.leaf (.d (.sl k es)):=by
    show AV.val false [AL.frz s k es (.own s 0 n n)]=_
    simp only [AL.frz,if_true,hl,List.drop_zero]
    rw [←hl,List.take_length]
   rw [e4] at h
   exact h
  ·have e2:(B.put [.slot d (.leaf (.own d 0 n n)),.obj d (.arr e k es)]).get s=B.get s:=by simp [ASt.put,ASt.put1,ASt.get,look,hs]
   have e3:(B.put [.slot d (.leaf (.d (.sl k es)))]).get s=B.get s:=by simp [ASt.put,ASt.put1,ASt.get,look,hs]
   rw [e2] at h
   rw [e3]
   exact frz_backV hd (hR.tms s) h
 ·rw [←hfun] at h ⊢
  exact ⟨x',h,fun h=>h,fun h=>h,fun _ _ _ h=>h⟩
theorem OpenK.bfz {i d n e k:Nat}{o:Oper}{rs:List Loc}{es:List (List D)}(hw:wantedA ops o.guard A=some true)(h:(effOp P o.op o.dst).run A (guardLoc ops o)=some (rs,[.slot d (.leaf (.own d 0 n n)),.obj d (.arr e k es)]))
  (hl:es.length=n) (hm:Loc.obj d∈rs) (hn:A.obj d=none) (hp:A.put [.slot d (.leaf (.d (.sl k es)))]=A') (h':OpenK P ops r A' (⟨rs,[.slot d]⟩::acc) K):OpenK P ops ((o,i)::r) A acc K:=by
 refine OpenK.cons (fun ho fs B hr=>⟨o,[.slot d (.leaf (.d (.sl k es)))],ho,.wk rs _ _ hw h fun B' hB' C a w a' w' h0 h1=>?_,rfl,hp▸hr⟩) h'
 have hd:B'.obj d=none:=(hB' _ hm).trans hn
 exact settle_at hl hd h0 h1
end bfz
def unionN (a b:List Nat):List Nat:=a.foldl (fun l x=>if l.contains x then l else x::l) b
def rowT (T:List (List Nat)):List Edge→List Nat
 |[]=>[]
 |e::r=>if Region.binds .any e then unionN (e.on::(T[e.on]?).getD []) (rowT T r) else rowT T r
def tabT (T:List (List Nat)):List Oper→List (List Nat)
 |[]=>T
 |o::r=>tabT (T++[rowT T o.after.toList]) r
def orderedT (T:List (List Nat)):List (Nat × Fp)→Bool
 |[]=>true
 |(i,f)::r=>(r.all fun p=>!f.clash p.2 || ((T[p.1]?).getD []).contains i)&&orderedT T r
theorem mem_unionN {x:Nat}:∀ {a b:List Nat},x∈unionN a b→x∈a∨x∈b
 |[],b,h=>.inr h
 |y::a,b,h=>by
  unfold unionN at h
  rw [List.foldl_cons] at h
  rcases mem_unionN (a:=a) h with h|h
  ·exact .inl (by simp [h])
  ·split at h
   ·exact .inr h
   ·rcases List.mem_cons.1 h with rfl|h
    ·exact .inl (by simp)
    ·exact .inr h
theorem mem_rowT {T:List (List Nat)}{x:Nat}:∀ {es:List Edge},x∈rowT T es→∃e∈es,Region.binds .any e=true∧(e.on=x∨x∈(T[e.on]?).getD [])
 |[],h=>by simp [rowT] at h
 |e::r,h=>by
  unfold rowT at h
  split at h
  ·rename_i hb
   rcases mem_unionN h with h|h
   ·rcases List.mem_cons.1 h with h|h
    ·exact ⟨e,by simp,hb,.inl h.symm⟩
    ·exact ⟨e,by simp,hb,.inr h⟩
   ·obtain ⟨e',h1,h2⟩:=mem_rowT h
    exact ⟨e',by simp [h1],h2⟩
  ·obtain ⟨e',h1,h2⟩:=mem_rowT h
   exact ⟨e',by simp [h1],h2⟩
theorem depOn_succ {ops:Array Oper}:∀ {n i j:Nat},depOn ops n i j=true→depOn ops (n+1) i j=true
 |0,_,_,h=>by simp [depOn] at h
 |n+1,i,j,h=>by
  unfold depOn at h ⊢
  cases ho:ops[i]? with
  |none=>rw [ho] at h;cases h
  |some o=>
   rw [ho] at h
   simp only [Array.any_eq_true,Bool.and_eq_true,Bool.or_eq_true] at h ⊢
   obtain ⟨k,hk,h1,h2⟩:=h
   exact ⟨k,hk,h1,h2.imp id fun h=>depOn_succ h⟩
theorem depOn_le {ops:Array Oper}{n m i j:Nat}(h:depOn ops n i j=true)(hnm:n≤m):depOn ops m i j=true:=by
 obtain ⟨k,rfl⟩:∃k,m=n+k:=⟨m-n,by omega⟩
 clear hnm
 induction k with
 |zero=>exact h
 |succ k ih=>exact depOn_succ ih
theorem tabT_ok {ops:Array Oper}:∀(r:List Oper) (T:List (List Nat)),(∀i j,j∈(T[i]?).getD []→depOn ops (i+1) i j=true)→(∀k o,r[k]? = some o→ops[T.length+k]? = some o) →
  ∀i j,j∈((tabT T r)[i]?).getD []→depOn ops (i+1) i j=true
 |[],_,hT,_=>hT
 |o::r,T,hT,ho=>by
  refine tabT_ok r _ (fun i j hj=>?_) fun k o' hk=>by
   have:=ho (k+1) o' (by simpa using hk)
   rw [List.length_append,List.length_singleton]
   rw [show T.length+1+k=T.length+(k+1) by omega];exact this
  by_cases hi:i<T.length
  ·rw [List.getElem?_append_left hi] at hj;exact hT i j hj
  ·rw [List.getElem?_append_right (by omega)] at hj
   by_cases he:i-T.length=0
   ·have hit:i=T.length:=by omega
    rw [he] at hj
    simp only [List.getElem?_cons_zero,Option.getD_some] at hj
    obtain ⟨e,h1,h2,h3⟩:=mem_rowT hj
    have ho':ops[i]? = some o:=by have:=ho 0 o rfl;rw [Nat.add_zero] at this;rw [hit];exact this
    unfold depOn
    rw [ho']
    simp only [Array.any_eq_true',Bool.and_eq_true,Bool.or_eq_true,beq_iff_eq]
    refine ⟨e,by simpa using h1,h2,h3.imp id fun h=>?_⟩
    have hlt:e.on<T.length:=by
     rcases Nat.lt_or_ge e.on T.length with h4|h4
     ·exact h4
     ·rw [List.getElem?_eq_none h4] at h;simp at h
    exact depOn_le (hT _ _ h) (by omega)
   ·obtain ⟨q,hq⟩:∃q,i-T.length=q+1:=⟨i-T.length-1,by omega⟩
    rw [hq] at hj
    simp at hj
theorem ordered_of {ops:Array Oper}{T:List (List Nat)}{n:Nat}(hT:∀i j,j∈(T[i]?).getD []→depOn ops n i j=true):∀ {l:List (Nat × Fp)},orderedT T l=true→ordered ops n l=true
 |[],_=>rfl
 |(i,f)::r,h=>by
  unfold orderedT at h
  unfold ordered
  rw [Bool.and_eq_true,List.all_eq_true] at h ⊢
  refine ⟨fun p hp=>?_,ordered_of hT h.2⟩
  have:=h.1 p hp
  rw [Bool.or_eq_true] at this ⊢
  refine this.imp id fun h=>hT _ _ ?_
  simpa using h
theorem orderedT_ok {ops:Array Oper}{n:Nat}{l:List (Nat × Fp)}(hn:ops.size≤n)(h:orderedT (tabT [] ops.toList) l=true):ordered ops n l=true:=by
 refine ordered_of (fun i j hj=>?_) h
 have h1:=tabT_ok (ops:=ops) ops.toList [] (fun i j hj=>by simp at hj) (fun k o hk=>by simpa using hk) i j hj
 have hi:i<ops.size:=by
  rcases Nat.lt_or_ge i ops.size with h2|h2
  ·exact h2
  ·unfold depOn at h1
   rw [Array.getElem?_eq_none h2] at h1;cases h1
 exact depOn_le h1 (by omega)
section
variable {P:Program} {ops:Array Oper} {A A' B:ASt} {fs:List Fp} {K:ASt→Prop}
theorem OpenE.finT {n:Nat}{K:ASt→Prop}(hl:(decide (fs.length=ops.size)&&down ops)=true)(hn:decide (ops.size≤n)=true)(ho:orderedT (tabT [] ops.toList) ((List.range ops.size).zip fs)=true)(h:K B):OpenE ops n (fun B=>∃B',Ghost B B' ∧ K B') fs B:=
 OpenE.fin hl (orderedT_ok (of_decide_eq_true hn) ho) h
end
end Go.Mw
namespace Go.Mw
def WhlK {σ:Type}(S:σ→ASt)(X:σ→Prop)(μ:σ→Nat)(t:σ)(Φ:Exit→ASt→Prop):Exit→ASt→Prop:=fun e A=>match e with
 |.normal=>∃t',μ t'<μ t∧X t' ∧ Ghost A (S t')
 |e=>Φ e A
theorem WhlK.nxt {σ:Type}{S:σ→ASt}{X:σ→Prop}{μ:σ→Nat}{t:σ}{Φ:Exit→ASt→Prop}{A:ASt}(t':σ)(h1:μ t'<μ t)(h2:X t')(h3:Ghost A (S t')):WhlK S X μ t Φ .normal A:=⟨t',h1,h2,h3⟩
theorem WhlK.ext {σ:Type}{S:σ→ASt}{X:σ→Prop}{μ:σ→Nat}{t:σ}{Φ:Exit→ASt→Prop}{A:ASt}{j:Nat}(h:Φ (.exit j) A):WhlK S X μ t Φ (.exit j) A:=h
theorem WhlK.ret {σ:Type}{S:σ→ASt}{X:σ→Prop}{μ:σ→Nat}{t:σ}{Φ:Exit→ASt→Prop}{A:ASt}(h:Φ .ret A):WhlK S X μ t Φ .ret A:=h
end Go.Mw
namespace Go.Mw
def yB:List (List AV)→(Bool→Beh)→Beh
 |[],κ=>κ true
 |v::r,κ=>.yld v fun b=>bif b then yB r κ else κ false
theorem yB_nil (κ:Bool→Beh):yB [] κ=κ true:=rfl
theorem yB_cons (v:List AV)(r:List (List AV))(κ:Bool→Beh):yB (v::r) κ=.yld v fun b=>bif b then yB r κ else κ false:=rfl
theorem yB_app (l m:List (List AV))(κ:Bool→Beh):yB (l++m) κ=yB l fun t=>bif t then yB m κ else κ false:=by
 induction l with
 |nil=>rfl
 |cons v l ih=>
  rw [List.cons_append,yB_cons,yB_cons,ih]
  rfl
theorem yB_lB (l:List (List AV)):yB l (fun _=>.ret (.tup []) [])=lB l:=by
 induction l with
 |nil=>rfl
 |cons v l ih=>rw [yB_cons,ih];rfl
theorem yB_one (v:List AV)(κ:Bool→Beh):yB [v] κ=.yld v κ:=by
 rw [yB_cons]
 congr 1
 funext b
 cases b<;>rfl
abbrev retB (Q:List (Nat × AO)):Bool→Beh:=fun t=>.ret (.bool t) Q
theorem yB_leaf {Q:List (Nat × AO)}{res:AV}{obs:List (Nat × AO)}:∀ {l:List (List AV)},Beh.Leaf (yB l (retB Q)) res obs→∃t,res=.bool t∧obs=Q
 |[],h=>by
  obtain ⟨h1,h2⟩:=Beh.Leaf.inv h
  exact ⟨true,h1,h2⟩
 |v::r,h=>by
  rw [yB_cons] at h
  cases h with
  |yld t h=>
   cases t with
   |true=>exact yB_leaf h
   |false=>
    obtain ⟨h1,h2⟩:=Beh.Leaf.inv h
    exact ⟨false,h1,h2⟩
def unB (κ:Bool→Beh):AV→List (Nat × AO)→Beh:=fun res _=>match asBool res with
 |some t=>κ t
 |none=>κ false
theorem yB_bind (Q:List (Nat × AO))(κ:Bool→Beh):∀l:List (List AV),(yB l (retB Q)).bind (unB κ)=yB l κ
 |[]=>rfl
 |v::r=>by
  rw [yB_cons,yB_cons,bind_yld]
  congr 1
  funext b
  cases b with
  |true=>exact yB_bind Q κ r
  |false=>rfl
theorem back_refl (x:AO):Back x x:=by
 cases x with
 |cells ls=>exact ⟨ls,rfl⟩
 |arr e k es=>exact ⟨es,rfl,Nat.le_refl _⟩
 |clo f ls=>rfl
 |yl=>rfl
 |map es=>rfl
 |mth f ls=>rfl
 |pin v l=>rfl
 |iter ls n sn c=>rfl
 |sit s p=>rfl
 |byt b c l=>rfl
theorem callOK_sm {A:ASt}{B:Nat}{lend:List (Nat × Nat)}{Q:List (Nat × AO)}{l:List (List AV)}(hdom:lend.map Prod.fst=Q.map Prod.fst)(hinj:(lend.map Prod.snd).Nodup)
  (hin:Q.all (fun p=>p.2.inn (nms Q))=true) (hob:∀p∈Q,∀n,look lend p.1=some n→A.obj n=some (p.2.ren (rn lend B))) (htg:(lend.all fun p=>tagTy (p.2%1000)==tagTy (p.1%1000))=true:=by rfl):CallOK A B lend Q (yB l (retB Q)):=by
 have key:∀ {α β:Type} {l:List (Nat × α)} {m:List (Nat × β)},l.map Prod.fst=m.map Prod.fst→∀ {q:Nat} {y:β},look m q=some y→∃n,look l q=some n:=fun {α β l m}=>by
  induction l generalizing m with
  |nil=>
   intro h q y hy
   cases m with
   |nil=>cases hy
   |cons _ _=>cases h
  |cons p l ih=>
   intro h q y hy
   cases m with
   |nil=>cases hy
   |cons r m=>
    simp only [List.map_cons,List.cons.injEq] at h
    obtain ⟨k,v⟩:=p
    obtain ⟨k',v'⟩:=r
    simp only at h
    unfold look at hy ⊢
    by_cases e:q=k
    ·exact ⟨v,if_pos e⟩
    ·rw [if_neg (by rw [←h.1];exact e)] at hy
     rw [if_neg e]
     exact ih h.2 hy
 refine ⟨fun q x hx=>?_,fun q n hq=>key hdom.symm hq,fun q q' n h h'=>?_,fun q n ls h _=>by simpa using List.all_eq_true.1 htg _ (look_in h),fun res obs hl=>?_⟩
 ·obtain ⟨n,hn⟩:=key hdom hx
  exact ⟨n,_,hn,hob _ (look_in hx) n hn,OLe.refl _,(List.all_eq_true.1 hin) _ (look_in hx)⟩
 ·have h1:=look_in h
  have h2:=look_in h'
  obtain ⟨i,hi⟩:=List.getElem?_of_mem h1
  obtain ⟨j,hj⟩:=List.getElem?_of_mem h2
  have hi':(lend.map Prod.snd)[i]? = some n:=by rw [List.getElem?_map,hi];rfl
  have hj':(lend.map Prod.snd)[j]? = some n:=by rw [List.getElem?_map,hj];rfl
  obtain ⟨a,ha⟩:=List.getElem?_eq_some_iff.1 hi'
  obtain ⟨b,hb⟩:=List.getElem?_eq_some_iff.1 hj'
  have:=(List.getElem_inj hinj).1 (ha.trans hb.symm)
  subst this
  rw [hi] at hj
  cases hj
  rfl
 ·obtain ⟨t,_,rfl⟩:=yB_leaf hl
  refine ⟨fun q x hx=>⟨x,hx,back_refl x⟩,fun q x' hx hn=>?_⟩
  obtain ⟨n,hn'⟩:=key hdom hx
  rw [hn] at hn';cases hn'
section
variable {P:Program} {ops:Array Oper} {A A':ASt} {Φ:ASt→Prop} {r:List Oper}
theorem Run.callF {d:Nat}{f:Operand}{as:List Operand}{tys:Array TypeId}{ty:TypeId}{pos:String}{af:Array Edge}{g:FuncId}{caps:List AL}{args:List AV}{Q:List (Nat × AO)}{l:List (List AV)}{vs:List AV}(lend:List (Nat × Nat))(κ:Bool→Beh)
  (hcon:Con P g args Q (yB l (retB Q))) (hcan:canCall P g=true) (hf:FnOf A (A.ev f) g caps) (hv:as.map A.ev=vs) (hwk:All2 (WkR (rn lend (1000*(d+1))) (nms Q)) (vs++caps.map .leaf) args) (hok:CallOK A (1000*(d+1)) lend Q (yB l (retB Q))) (hbh:A.bh=yB l κ)
  (h':∀t,Run P ops Φ r ⟨(d,.bool t)::A.tm,Q.map (fun p=>(rn lend (1000*(d+1)) p.1,p.2.ren (rn lend (1000*(d+1)))))++A.ob,κ t⟩) :
  Run P ops Φ (⟨some d,.call { callee:=.value f,args:=as.toArray,argTypes:=tys },ty,pos,af,none⟩::r) A:=by
 refine Run.calg lend (unB κ) hcon hcan hf hv hwk hok (by rw [yB_bind];exact hbh) fun res obs hl=>?_
 obtain ⟨t,rfl,rfl⟩:=yB_leaf hl
 exact h' t
end
end Go.Mw
namespace Go.Mw
section
variable {P:Program} {ops:Array Oper} {A A':ASt} {acc:List Fp} {K:List Fp→ASt→Prop} {r:List (Oper × Nat)}
theorem OpenK.lendO {i d:Nat}{f:Operand}{g:FuncId}{ds:List D}{as:List Operand}{tys:Array TypeId}{ty:TypeId}{pos:String}{af:Array Edge}{gd:Option (Nat × Bool)}{args:List AV}{res:AV}{vs:List AV}{rs wl:List Loc}(q n:Nat){x:AO}(hfl:x.flat=true)
  (hwt:wantedA ops gd A=some true) (hc:Con P g args [(q,x)] (.ret res [(q,x)])) (hcan:canCall P g=true) (hf:A.ev f=.leaf (.d (.fn g ds))) (hv:as.map A.ev=vs) (hob:A.obj n=some x)
  (hwk:All2 (WkR (rn [(q,n)] (1000*(d+1))) [q]) (vs++ds.map fun x=>.leaf (.d x)) args)
  (hp:A.put [.obj n x,.slot d (res.ren (rn [(q,n)] (1000*(d+1))))]=A')
  (hr:guardLoc ops ⟨some d,.call { callee:=.value f,args:=as.toArray,argTypes:=tys },ty,pos,af,gd⟩++(opLocs (f::as)++[.obj n])=rs) (hw:wLocs [.obj n x,.slot d (res.ren (rn [(q,n)] (1000*(d+1))))]=wl)
  (h':OpenK P ops r A' (⟨rs,wl⟩::acc) K):OpenK P ops ((⟨some d,.call { callee:=.value f,args:=as.toArray,argTypes:=tys },ty,pos,af,gd⟩,i)::r) A acc K:=
 .cons (fun ho _ _ hrun=>⟨_,_,ho,by
  have:=StpF.lend (ops:=ops) (o:=⟨some d,.call { callee:=.value f,args:=as.toArray,argTypes:=tys },ty,pos,af,gd⟩) _ _ hwt ⟨d,f,as,g,ds,args,res,q,n,x,rfl,by simp [opCall],hf,hcan,by rw [hv];exact hwk,hc,⟨hob,hfl⟩,rfl,rfl⟩
  rw [hr] at this
  exact this,hw.symm,hp▸hrun⟩) h'
theorem OpenK.lend {i d:Nat}{f:Operand}{g:FuncId}{ds:List D}{as:List Operand}{tys:Array TypeId}{ty:TypeId}{pos:String}{af:Array Edge}{gd:Option (Nat × Bool)}{args:List AV}{res:AV}{vs:List AV}{rs wl:List Loc}(q n:Nat){e:TypeId}{k:Nat}{es:List (List D)}
  (hwt:wantedA ops gd A=some true) (hc:Con P g args [(q,.arr e k es)] (.ret res [(q,.arr e k es)])) (hcan:canCall P g=true) (hf:A.ev f=.leaf (.d (.fn g ds))) (hv:as.map A.ev=vs) (hob:A.obj n=some (.arr e k es))
  (hwk:All2 (WkR (rn [(q,n)] (1000*(d+1))) [q]) (vs++ds.map fun x=>.leaf (.d x)) args)
  (hp:A.put [.obj n (.arr e k es),.slot d (res.ren (rn [(q,n)] (1000*(d+1))))]=A')
  (hr:guardLoc ops ⟨some d,.call { callee:=.value f,args:=as.toArray,argTypes:=tys },ty,pos,af,gd⟩++(opLocs (f::as)++[.obj n])=rs) (hw:wLocs [.obj n (.arr e k es),.slot d (res.ren (rn [(q,n)] (1000*(d+1))))]=wl)
  (h':OpenK P ops r A' (⟨rs,wl⟩::acc) K):OpenK P ops ((⟨some d,.call { callee:=.value f,args:=as.toArray,argTypes:=tys },ty,pos,af,gd⟩,i)::r) A acc K:=
 OpenK.lendO q n rfl hwt hc hcan hf hv hob hwk hp hr hw h'
end
end Go.Mw
namespace Go.Mw
open Go.RowKit
section next
variable {P:Program} {o:Oper} {A:ASt} {d:Nat}
end next
section steps
variable {P:Program} {ops:Array Oper} {Φ:ASt→Prop} {r:List Oper} {A A':ASt}
theorem Run.calm {d c:Nat}{f:Operand}{as:List Operand}{tys:Array TypeId}{ty:TypeId}{pos:String}{af:Array Edge}{g:FuncId}{caps:List AL}{args:List AV}{pre:List (Nat × AO)}{b:Beh}{vs:List AV}(lend:List (Nat × Nat))(κ:AV→List (Nat × AO)→Beh)
  (hcon:Con P g args pre b) (hcan:canCall P g=true) (hf:A.ev f=.leaf (.obj c)) (hm:A.obj c=some (.mth g caps)) (hv:as.map A.ev=vs) (hwk:All2 (WkR (rn lend (1000*(d+1))) (nms pre)) (caps.map .leaf++vs) args) (hok:CallOK A (1000*(d+1)) lend pre b) (hbh:A.bh=b.bind κ)
  (h':∀res obs,b.Leaf res obs→Run P ops Φ r (after A d (rn lend (1000*(d+1))) res obs (κ res obs))) :
  Run P ops Φ (⟨some d,.call { callee:=.value f,args:=as.toArray,argTypes:=tys },ty,pos,af,none⟩::r) A:=by
 refine .sem (K:=fun B=>∃res obs,b.Leaf res obs∧B=after A d (rn lend (1000*(d+1))) res obs (κ res obs)) rfl ?_ fun B ⟨res,obs,hl,e⟩=>e▸h' res obs hl
 intro C a w Q hd ⟨S,M,ι,hR⟩
 have hfr:=rep_ev hR f
 rw [hf] at hfr
 obtain ⟨_,hfv,_⟩:=rep_leaf hfr
 obtain ⟨us,hι,hus⟩:=hR.objs c _ hm
 have hargs:=rep_evs hR as
 rw [hv] at hargs
 have hall:All2 (RepV S ι A.obj w) (caps.map .leaf++vs) (us++as.map a.eval):=All2.append (all2_map (R:=RepL S ι A.obj w) (R':=RepV S ι A.obj w) AV.leaf (fun _ _ h=>leaf_rep h) hus) hargs
 refine Oper.wpIn_mono (fun a' w' ⟨res,obs,hl,h⟩=>⟨_,⟨res,obs,hl,rfl⟩,h⟩) (snd_callX (o:=⟨some d,.call { callee:=.value f,args:=as.toArray,argTypes:=tys },ty,pos,af,none⟩) hR hd rfl (us:=us++as.map a.eval) ?_ hall hwk hcon hok hbh Q)
 simp [execOp,resolve,hfv,hι,Deferred.ofValue,invoke,run_callFunc hcan]
end steps
def AL.fl:AL→Option FL
 |.d x=>some (.d x)
 |.own o i n t=>some (.own o i n t)
 |.obj o=>some (.obj o)
 |.dead=>some .dead
 |.ptr _ _=>none
 |.eptr _ _ _ _=>none
 |.fpt _=>none
 |.csl _ _ _=>none
def flats:List AL→Option (List FL)
 |[]=>some []
 |l::r=>match l.fl,flats r with
  |some f,some fs=>some (f::fs)
  |_,_=>none
theorem fl_al {l:AL}{f:FL}(h:l.fl=some f):f.al=l:=by cases l<;>simp only [AL.fl,Option.some.injEq,reduceCtorEq] at h<;>subst h<;>rfl
theorem flats_get:∀ {ls:List AL} {fs:List FL},flats ls=some fs→ls=fs.map FL.al
 |[],fs,h=>by simp only [flats,Option.some.injEq] at h;subst h;rfl
 |l::ls,fs,h=>by
  unfold flats at h
  cases hl:l.fl with
  |none=>simp [hl] at h
  |some f=>
   cases hr:flats ls with
   |none=>simp [hl,hr] at h
   |some gs=>
    simp only [hl,hr,Option.some.injEq] at h
    subst h
    rw [List.map_cons,fl_al hl,←flats_get hr]
def AL.frp (o:Nat)(fs:List FL):AL→AL
 |.ptr q i=>if q=o then .fpt (fs.drop i) else .ptr q i
 |.csl q i n=>if q=o then .dead else .csl q i n
 |l=>l
def ASt.frp (A:ASt)(o:Nat):ASt:=match A.obj o with
 |some (.cells ls)=>match flats ls with
  |some fs=>A.settle o (AL.frp o fs)
  |none=>A
 |_=>A
theorem Ghost.frp (A:ASt)(o:Nat):Ghost A (A.frp o):=by
 unfold ASt.frp
 split
 ·rename_i ls ho
  split
  case h_2=>exact Ghost.refl A
  rename_i fs hp
  have hls:=flats_get hp
  refine Ghost.settle A o _ ho _ fs.length id (fun f=>by cases f<;>rfl) (fun fs=>by simp [AL.frp]) fun S S' ι w H' hok hS hT hH l v hne h=>?_
  obtain ⟨b,vs,el,hι,hheap,hall,_⟩:=hok
  have h1:=RepL.one S ι A.obj w h
  have hd:∀x v,RepD S w x v→RepD S' w x v:=fun x v h=>RepD.mono (S':=S') (w:=w) (w':=w) hS (fun _ _ _=>rfl) h
  have flat:∀(f:FL) u,RepF S ι A.obj w f u→RepF S' ι H' w f u:=by
   intro f u hf
   have h1:=RepF.one S ι A.obj w hf
   cases f with
   |d x=>exact hd _ _ hf
   |own q i n t=>
    obtain ⟨_,e',k',es',hq,hv⟩:=hf
    have hqo:q≠o:=fun e=>by rw [e,ho] at hq;cases hq
    exact ⟨h1,e',k',es',hH q _ hq hqo,hv⟩
   |obj q=>
    obtain ⟨_,hv,x,hq,hx⟩:=hf
    have hqo:q≠o:=fun e=>by rw [e,ho] at hq;cases hq;cases hx
    exact ⟨h1,hv,_,hH q _ hq hqo,by cases x<;>first|rfl|simp [AO.whole] at hx⟩
   |dead=>exact hf
  cases l with
  |d x=>exact hd _ _ h
  |ptr q i=>
   simp only [AL.frp]
   split
   ·rename_i hqo
    have hqo:=hqo.symm
    subst hqo
    obtain ⟨ls0,b',hq,hι',rfl⟩:=h
    rw [hι] at hι'
    simp only [Value.pointer.injEq,Option.some.injEq,Addr.mk.injEq,and_true] at hι'
    subst hι'
    refine ⟨b,i,rfl,fun j f hj=>?_⟩
    rw [List.getElem?_drop] at hj
    refine ⟨hT b _ (by rw [hι];rfl) (List.getElem?_eq_some_iff.1 hj).1,?_⟩
    obtain ⟨u,hu,hr⟩:=hall.get' (i:=i+j) (a:=f.al) (by rw [hls,List.getElem?_map,hj];rfl)
    exact ⟨u,by rw [cells_at (H:=A.obj) hheap];exact hu,flat f u ((repF_al S ι A.obj w).2 hr)⟩
   ·rename_i hqo
    obtain ⟨ls0,b',hq,hι',hv⟩:=h
    exact ⟨_,b',hH q _ hq hqo,hι',hv⟩
  |eptr q i j t=>
   obtain ⟨_,e',k',es',hq,hv⟩:=h
   have hqo:q≠o:=fun e=>by rw [e,ho] at hq;cases hq
   exact ⟨h1,e',k',es',hH q _ hq hqo,hv⟩
  |own q i n t=>exact flat (.own q i n t) v h
  |obj q=>exact flat (.obj q) v h
  |fpt fs=>exact absurd rfl (hne fs)
  |csl q i n=>
   simp only [AL.frp]
   split
   ·exact h1
   ·rename_i hqo
    obtain ⟨ls0,b',c',hq,hι',hv⟩:=h
    exact ⟨_,b',c',hH q _ hq hqo,hι',hv⟩
  |dead=>exact h
 ·exact Ghost.refl A
def frpX (tm:List (Nat × AV))(ob:List (Nat × AO))(bh:Beh)(o:Nat):Option AO→ASt
 |some (.cells ls)=>match flats ls with
  |some fs=>⟨mapTm (AL.frp o fs) tm,mapOb o (AL.frp o fs) ob,bh⟩
  |none=>⟨tm,ob,bh⟩
 |_=>⟨tm,ob,bh⟩
attribute [go_sem] frpX AL.fl flats AL.frp
@[go_sem] theorem frp_mk (tm:List (Nat × AV))(ob:List (Nat × AO))(bh:Beh)(o:Nat):(ASt.mk tm ob bh).frp o=frpX tm ob bh o (look ob o):=by
 unfold ASt.frp
 simp only [ASt.obj,ASt.settle]
 cases h:look ob o with
 |none=>rfl
 |some x=>cases x<;>first|rfl|(rename_i ls;cases hp:flats ls<;>simp [frpX,hp])
theorem Run.frp {P:Program}{ops:Array Oper}{Φ:ASt→Prop}{A A':ASt}{l:List Oper}(o:Nat)(hp:A.frp o=A')(h':Run P ops Φ l A'):Run P ops Φ l A:=.ghost (Ghost.frp A o) (hp▸h')
theorem fpt_pure {S:Settled}{ι:Nat→Value}{H:Nat→Option AO}{w:World}{fs:List FL}{ds:List D}{v:Value}(hd:pures ((fs.take ds.length).map FL.al)=some ds)(h:RepL S ι H w (.fpt fs) v):RepD S w (.pt ds) v:=by
 obtain ⟨b,off,rfl,hf⟩:=h
 have key:∀(ds:List D) (fs:List FL) (n:Nat),pures ((fs.take n).map FL.al)=some ds→∀(j:Nat) (d:D),ds[j]? = some d→fs[j]? = some (FL.d d):=by
  intro ds
  induction ds with
  |nil=>intro fs n _ j d hj;simp at hj
  |cons x ds ih=>
   intro fs n hp j d hj
   cases n with
   |zero=>simp [pures] at hp
   |succ n=>
    cases fs with
    |nil=>simp [pures] at hp
    |cons f fs=>
     cases f with
     |d y=>
      simp only [List.take_succ_cons,List.map_cons,FL.al,pures] at hp
      cases hq:pures ((fs.take n).map FL.al) with
      |none=>rw [hq] at hp;cases hp
      |some es=>
       rw [hq] at hp;simp only [Option.some.injEq,List.cons.injEq] at hp
       obtain ⟨rfl,rfl⟩:=hp
       cases j with
       |zero=>simpa using hj
       |succ j=>simpa using ih fs n hq j d (by simpa using hj)
     |_=>simp [FL.al,pures] at hp
 have hex:∀(j:Nat) (d:D),ds[j]? = some d→S b (off+j)∧∃u,w.cell? ⟨b,off+j,none⟩=some u∧RepD S w d u:=fun j d hj=>hf j (FL.d d) (key ds fs _ hd j d hj)
 refine RepD.pt ds b off (fun j=>(w.cell? ⟨b,off+j,none⟩).getD undef) (fun j d hj=>(hex j d hj).1) (fun j d hj=>?_) fun j d hj=>?_
 ·obtain ⟨_,u,h1,_⟩:=hex j d hj;rw [h1];rfl
 ·obtain ⟨_,u,h1,h2⟩:=hex j d hj;rw [h1];exact h2
theorem WkR.fpt {r:Nat→Nat}{ns:List Nat}{fs:List FL}{ds:List D}(hd:pures ((fs.take ds.length).map FL.al)=some ds):WkR r ns (.leaf (.fpt fs)) (.leaf (.d (.pt ds))):=
 ⟨rfl,fun S ι H w v ⟨l,hl,hr⟩=>by simp at hl;subst hl;exact ⟨_,rfl,fpt_pure hd hr⟩⟩
end Go.Mw
namespace Go.Mw
open Go.RowKit
def rawL:AL→Bool
 |.d (.raw _)=>true
 |.d _=>false
 |.own _ _ _ _=>true
 |.csl _ _ _=>true
 |.ptr _ _=>true
 |.eptr _ _ _ _=>true
 |.obj _=>true
 |.fpt _=>false
 |.dead=>true
def rawD:D→Bool
 |.raw _=>true
 |_=>false
def rawO:AO→Bool
 |.arr _ _ es=>es.flatten.all rawD
 |.cells ls=>ls.all rawL
 |_=>false
def rawV:AV→Bool
 |.val _ ls=>ls.all rawL
 |.tup cs=>cs.all fun c=>c.2.all rawL
 |.cnd _ _=>false
 |.dead=>true
section raw
variable {S S':Settled} {ι:Nat→Value} {H:Nat→Option AO} {w:World}
end raw
section callT
variable {P:Program} {C:Ctx P} {S:Settled} {M:Blocks} {ι:Nat→Value} {A:ASt} {a:Act} {w:World} {o:Oper} {d:Nat}
def deep (H:Nat→Option AO):Nat→AL→Option D
 |0,_=>none
 |_+1,.d x=>some x
 |_+1,.own o i n t=>match H o with
  |some (.arr _ k es)=>if es.length=t then some (.sl k ((es.drop i).take n)) else none
  |_=>none
 |n+1,.csl o i len=>match H o with
  |some (.cells ls)=>match ls.mapM (deep H n) with
   |some ds=>if i=0∧0<len∧ds.length=len*(ds.length / len) then some (.sl (ds.length / len) ((List.range len).map fun j=>(ds.drop (j*(ds.length / len))).take (ds.length / len))) else none
   |none=>none
  |_=>none
 |_+1,_=>none
def deepV (A:ASt):AV→Option AV
 |.val ag ls=>match ls.mapM (deep A.obj 4) with
  |some ds=>some (.val ag (ds.map .d))
  |none=>none
 |_=>none
variable {ops:Array Oper} {Φ:ASt→Prop} {r:List Oper} {A':ASt}
end callT
attribute [go_sem] deep deepV rawL rawD rawO rawV
end Go.Mw

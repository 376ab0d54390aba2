/- append, len, min and max, and so every operation, do in the model what they do to an abstract state: lemmas; no condition but those in each. -/
import Derived.Test.YtpmdcdglfeicaaaGreatDoorD1
import Derived.Test.YtpmdcdglfeicaaaGreatDoorB1
import Derived.Maps.RangeRun
import Derived.Scope
set_option linter.unusedSimpArgs false
set_option linter.unusedVariables false
set_option linter.unusedSectionVars false
set_option linter.deprecated false
namespace Go.Mw
open Go.RowKit
section ops
variable {P:Program} {C:Ctx P} {S:Jc} {M:J7} {ι:Nat→Value} {A:JE} {a:Act} {w w':World} {o:Oper} {d:Nat}
theorem JT8 {t ty e:TypeId}{k B n:Nat}{v:Value}{xs:List Value}(ht:P.underlying t=some (.slice e))(hk:Jn P e=some k)(hown:w.ownsRow B e k v n xs)(p:Option Addr)(c:Nat) :
  (Builtin.append_ #[t,t] ty #[v,.slice p 0 c]).run P w=.ok v w:=by
 have hfc:(Builtin.firstCells k 0 (.slice p 0 c)).run P w=.ok #[] w:=by cases p<;>simp [Builtin.firstCells,loadCells,loadCellsFrom]
 rcases hown.2 with ⟨rfl,rfl⟩|⟨g,cap,cur,rfl,_,_,hnc,_⟩
 ·simp [Builtin.append_,run_underlying ht,Zi w hk,Builtin.lenOf,hfc]
 ·simp [Builtin.append_,run_underlying ht,Zi w hk,Builtin.lenOf,hfc,hnc,storeCells]
theorem JNs {t ty e:TypeId}{i:TypeInfo}{z:Value}{k bytes B n:Nat}{v:Value}{xs:List Value}(ht:P.underlying t=some (.slice e))(hi:P.info? e=some i)(hz:i.zero=some z)
  (hsize:i.size=k) (hby:i.bytes=bytes) (hzs:z.cells.size=k) (hsz:0<k) (hown:w.ownsRow B e k v n xs)
  {p:Option Addr} {m c:Nat} {news:List Value} (hl:news.length=m*k) (hp:0<m→∃ad,p=some ad∧∀j u,news[j]? = some u→w.cell? (ad.add j)=some u) (h1:∀u∈news,u.oneCell'=true)
  (hlen:n+m≤140737488355328) (hbytes:(n+m)*bytes≤140737488355328) (hB:B≤w.heap.size) :
  ∃v' w',(Builtin.append_ #[t,t] ty #[v,.slice p m c]).run P w=.ok v' w' ∧ w'.ownsRow B e k v' (n+m) (xs++news)∧w.grownBy w' (blk v) ∧
   (∀b,blk v'=some b→w.heap.size≤b∨blk v=some b)∧(m=0→v'=v):=by
 by_cases hm:m=0
 ·subst hm
  have hn:news=[]:=List.eq_nil_of_length_eq_zero JB2
  subst hn
  refine ⟨v,w,JT8 ht (by simp [Jn,hi,hsize]) hown p c,by simpa using hown,⟨rfl,rfl,rfl,Nat.le_refl _,fun _ _ _=>rfl⟩,fun b hb=>.inr hb,fun _=>rfl⟩
 obtain ⟨ad,rfl,hnews⟩:=hp (by omega)
 have h63:n+m≤maxLen:=by simp only [maxLen];omega
 rcases hown.2 with ⟨rfl,rfl⟩|⟨g,cap,cur,rfl,hbg,hg,hnc,hcm,hcs,htake⟩
 ·have hx:xs=[]:=List.eq_nil_of_length_eq_zero (by simpa using hown.1)
  subst hx
  obtain ⟨v',w',hr,ho',hgr,_⟩:=run_append_own (P:=P) w w.heap.size t ty e i z k bytes ht hi hz hsize hby hzs hsz (.slice none 0 0) 0 [] (World.ownsRow_nil w _ e k) ad m c news hl hnews h1 h63 hbytes (Nat.le_refl _)
  have hlt:=ho'.lt
  refine ⟨v',w',hr,⟨ho'.1,?_⟩,hgr,fun b hb=>.inl ?_,fun h=>absurd h hm⟩
  ·rcases ho'.2 with h|⟨g,cap,cur,e1,e2,rest⟩
   ·exact .inl h
   ·exact .inr ⟨g,cap,cur,e1,Nat.le_trans hB e2,rest⟩
  ·rcases ho'.2 with ⟨h,_⟩|⟨g,cap,cur,e1,e2,rest⟩
   ·rw [h] at hb;simp [blk] at hb
   ·rw [e1] at hb;simp [blk] at hb;omega
 ·by_cases hroom:n+m≤cap
  ·obtain ⟨w',hr,ho',hgr⟩:=run_append_fits (P:=P) w B t ty e i k ht hi hsize g n cap xs hown ad m c news hl hnews h1 hroom
   exact ⟨_,w',hr,ho',hgr,fun b hb=>.inr hb,fun h=>absurd h hm⟩
  ·have holds:∀j u,xs[j]? = some u→w.cell? ((⟨g,0,none⟩:Addr).add j)=some u:=hown.cells (g:=g) rfl
   have hr:=run_append_grow (P:=P) w t ty e i z ht hi hz ⟨g,0,none⟩ n cap xs (by rw [hsize];exact hown.1) holds ad m c news (by rw [hsize];exact hl) hnews (by omega) (by omega) (growslice_fits (by omega) (by rw [hby];exact hbytes))
   have hge:=grownCap_ge w (n+m) cap e
   have hcm':grownCap w (n+m) cap e≤maxLen:=grownCap_le_maxLen w (n+m) cap e h63
   have hll:(xs++news).length=(n+m)*k:=by rw [List.length_append,hown.1,hl,Nat.add_mul]
   refine ⟨_,_,hr,⟨hll,.inr ⟨w.heap.size,_,_,rfl,hB,heap_alloc_new w.drew _,hge,hcm',?_,?_⟩⟩,⟨rfl,rfl,rfl,by simp,fun b hb _=>Below.heap_alloc w.drew _ b hb⟩,fun b hb=>.inl (by simp [blk] at hb;omega),fun h=>absurd h hm⟩
   ·simp only [Array.size_append,List.size_toArray,size_zeroCells,hzs,hown.1,hl,←Nat.add_mul]
    congr 1
    omega
   ·simp only [Array.toList_append,List.append_assoc]
    rw [←List.append_assoc,←hll]
    exact List.take_left
theorem JF6 (hR:Jg C S M ι A a w){k:Nat}{f:List (List D)→Ev}{av:AV}{xv:Value}(hx:Jk S ι A.obj w av xv){acc:List Loc}{r:List Loc × List Wr}(h:(JC1 k f av).run A acc=some r) :
  ∃es acc',(f es).run A acc'=some r∧((∀y∈es,y.length=k)→0<k→∃p c news,xv=.slice p es.length c∧news.length=es.length*k∧JS (RepD S w) es.flatten news ∧
   (0<es.length→∃ad,p=some ad∧∀j u,news[j]? = some u→w.cell? (ad.add j)=some u)):=by
 unfold JC1 at h
 split at h
 ·rename_i k' es
  have hx:=Jl hx
  split at h
  case isFalse=>simp [Ev.run] at h
  rename_i hk
  subst hk
  refine ⟨es,_,h,fun hlen hk0=>?_⟩
  cases hx with
  |nil=>exact ⟨_,_,[],rfl,by simp,by simp [JS],by simp⟩
  |sl _ _ b off _ vals hc hkl hS hw hr=>
   refine ⟨_,_,(List.range (es.length*k')).map (fun q=>vals (q / k') (q%k')),rfl,by simp,JS.ofGet (by simp [JBM hlen]) fun q x v hq hv=>?_,fun _=>⟨_,rfl,fun j u hu=>?_⟩⟩
   ·obtain ⟨i,j,e,rfl,he,hj⟩:=JMD hk0 hlen hq
    have hjk:j<k':=by rw [←hlen e (List.mem_of_getElem? he)];exact (List.getElem?_eq_some_iff.1 hj).1
    have hlt:i*k'+j<es.length*k':=by
     have:=(List.getElem?_eq_some_iff.1 hq).1
     rwa [JBM hlen] at this
    simp only [List.getElem?_map,List.getElem?_range hlt,Option.map_some,Option.some.injEq] at hv
    subst hv
    have e1:(i*k'+j) / k'=i:=by rw [Nat.mul_comm,Nat.mul_add_div hk0,Nat.div_eq_of_lt hjk,Nat.add_zero]
    have e2:(i*k'+j)%k'=j:=by rw [Nat.mul_comm,Nat.mul_add_mod,Nat.mod_eq_of_lt hjk]
    rw [e1,e2]
    exact hr i e j x he hj
   ·have hj:j<es.length*k':=by have:=(List.getElem?_eq_some_iff.1 hu).1;simpa using this
    simp only [List.getElem?_map,List.getElem?_range hj,Option.map_some,Option.some.injEq] at hu
    subst hu
    have hi:j / k'<es.length:=(Nat.div_lt_iff_lt_mul hk0).2 hj
    have hm:j%k'<k':=Nat.mod_lt _ hk0
    have he:es[j / k']? = some es[j / k']:=List.getElem?_eq_getElem hi
    have hel:=hlen _ (List.getElem_mem hi)
    have:=hw (j / k') es[j / k'] (j%k') es[j / k'][j%k'] he (List.getElem?_eq_getElem (by omega))
    rw [Addr.add_lit]
    rwa [Nat.add_assoc,Nat.mul_comm,Nat.div_add_mod] at this
 ·have hx:=Qm (Jl hx)
  exact ⟨[],_,h,fun _ _=>⟨none,0,[],by simpa using hx,by simp,by simp [JS],by simp⟩⟩
 ·rename_i ob off len Ji
  obtain ⟨h1,e',k',es,hob,htl,hval⟩:=Jl hx
  simp only [Ev.run,hob] at h
  split at h
  case isFalse=>simp [Ev.run] at h
  rename_i hc
  obtain ⟨rfl,htot⟩:=hc
  obtain ⟨xs,hown,hall,hk,hk0,_⟩:=hR.objs ob _ hob
  obtain ⟨hol,hval⟩:=hval htot
  refine ⟨_,_,h,fun hlen _=>?_⟩
  have hel:((es.drop off).take len).length=len:=by simp;omega
  obtain ⟨_,p,c,hv,_,hp⟩:=hval
  have hfl:((es.drop off).take len).flatten=(es.flatten.drop (off*k')).take (len*k'):=by
   have:∀(n:Nat) (l:List (List D)),(∀x∈l,x.length=k')→(l.drop n).flatten=l.flatten.drop (n*k'):=by
    intro n
    induction n with
    |zero=>intro l _;simp
    |succ n ih=>
     intro l hl
     cases l with
     |nil=>simp
     |cons x l=>
      have hx:x.length=k':=hl x (by simp)
      rw [List.drop_succ_cons,ih l (fun y hy=>hl y (by simp [hy])),List.flatten_cons,Nat.add_mul,Nat.one_mul,Nat.add_comm,←hx,List.drop_length_add_append]
   have ht:∀(n:Nat) (l:List (List D)),(∀x∈l,x.length=k')→(l.take n).flatten=l.flatten.take (n*k'):=by
    intro n
    induction n with
    |zero=>intro l _;simp
    |succ n ih=>
     intro l hl
     cases l with
     |nil=>simp
     |cons x l=>
      have hx:x.length=k':=hl x (by simp)
      rw [List.take_succ_cons,List.flatten_cons,ih l (fun y hy=>hl y (by simp [hy])),List.flatten_cons,Nat.add_mul,Nat.one_mul,Nat.add_comm,←hx,List.take_length_add_append]
   rw [ht len _ (fun x hx=>hk x (List.mem_of_mem_drop hx)),this off es hk]
  refine ⟨p,c,(xs.drop (off*k')).take (len*k'),by rw [hel];exact hv,?_,by rw [hfl];exact (hall.drop _).take _,fun h0=>?_⟩
  ·rw [hel,List.length_take,List.length_drop,hown.1,htot,←Nat.sub_mul]
   exact Nat.min_eq_left (Nat.mul_le_mul_right _ (by omega))
  ·rw [hel] at h0
   obtain ⟨b,c0,hτ,rfl,_⟩:=hp (by omega)
   refine ⟨_,rfl,fun j u hu=>?_⟩
   rw [List.getElem?_take] at hu
   split at hu
   ·rename_i hj
    rw [List.getElem?_drop] at hu
    rw [Addr.add_lit]
    have hown':=hown
    rw [hτ,htot] at hown'
    rw [hown'.cellAt]
    ·exact hu
    ·calc off*k'+j<off*k'+len*k':=by omega
      _=(off+len)*k':=by rw [Nat.add_mul]
      _≤Ji*k':=Nat.mul_le_mul_right _ hol
   ·cases hu
 ·simp [Ev.run] at h
theorem JDG {ds:List D}{vs:List Value}(h:JS (RepD S w) ds vs):∀v∈vs,v.oneCell'=true:=by
 intro v hv
 obtain ⟨i,hi⟩:=List.getElem?_of_mem hv
 obtain ⟨l,_,hr⟩:=h.get2 hi
 exact hr.one
theorem JIv {α:Type}{k:Nat}:∀(n:Nat) {l:List (List α)},(∀x∈l,x.length=k)→(l.take n).flatten=l.flatten.take (n*k)
 |0,l,_=>by simp
 |n+1,[],_=>by simp
 |n+1,x::l,h=>by
  have hx:x.length=k:=h x (by simp)
  rw [List.take_succ_cons,List.flatten_cons,JIv n (fun y hy=>h y (by simp [hy])),List.flatten_cons,Nat.add_mul,Nat.one_mul,Nat.add_comm,←hx,List.take_length_add_append]
theorem JMA {α:Type}{k:Nat}:∀(n:Nat) {l:List (List α)},(∀x∈l,x.length=k)→(l.drop n).flatten=l.flatten.drop (n*k)
 |0,l,_=>by simp
 |n+1,[],_=>by simp
 |n+1,x::l,h=>by
  have hx:x.length=k:=h x (by simp)
  rw [List.drop_succ_cons,JMA n (fun y hy=>h y (by simp [hy])),List.flatten_cons,Nat.add_mul,Nat.one_mul,Nat.add_comm,←hx,List.drop_length_add_append]
theorem JIu {α:Type}{k:Nat}{es ys:List (List α)}(n:Nat)(hk:∀x∈es,x.length=k)(hy:∀x∈ys,x.length=k):(splice es n ys).flatten=splice es.flatten (n*k) ys.flatten:=by
 unfold splice
 rw [List.flatten_append,List.flatten_append,JIv n hk,JMA _ hk,JBM hy,Nat.add_mul]
theorem JHt {α:Type}{es ys:List α}{n:Nat}(h:n+ys.length≤es.length):(splice es n ys).length=es.length:=by unfold splice;simp;omega
theorem JKG {α:Type}{es ys:List α}{n:Nat}{p:α→Prop}(h:∀x∈es,p x)(h':∀x∈ys,p x):∀x∈splice es n ys,p x:=by
 intro x hx
 unfold splice at hx
 rcases List.mem_append.1 hx with hx|hx
 ·rcases List.mem_append.1 hx with hx|hx
  ·exact h x (List.mem_of_mem_take hx)
  ·exact h' x hx
 ·exact h x (List.mem_of_mem_drop hx)
theorem Jg.row (hR:Jg C S M ι A a w){ob:Nat}{el:TypeId}{k b c0 p:Nat}{es es':List (List D)}{ds:List D}{vs:List Value}(hob:A.obj ob=some (.arr el k es))(hι:ι ob=.slice (some ⟨b,0,none⟩) es.length c0)
  (hlen:es'.length=es.length) (hk':∀x∈es',x.length=k) (hfl:es'.flatten=splice es.flatten p ds) (hds:JS (RepD S w) ds vs) (hfit:p+vs.length≤es.length*k) :
  ∃(cur:Array Value) (t:TypeId),w.heap[b]? = some (.cells cur t (0,0))∧es.length*k≤cur.size ∧
   Jg C S (grow M w (w.setRow b (splice cur.toList p vs).toArray)) (upd ι ob (ι ob)) (A.put [.obj ob (.arr el k es')]) a (w.setRow b (splice cur.toList p vs).toArray):=by
 obtain ⟨xs0,hown,hall,hk,hk0,hS⟩:=hR.objs ob _ hob
 rcases hown.2 with ⟨hτ,_⟩|⟨g,cap,cur,hτ,hB,hheap,hcap,hmax,hcur,htake⟩
 ·rw [hι] at hτ;simp at hτ
 rw [hι] at hτ;simp only [Value.slice.injEq,Option.some.injEq,Addr.mk.injEq,and_true] at hτ
 obtain ⟨rfl,_,rfl⟩:=hτ
 have hcm:es.length*k≤cur.size:=by rw [hcur];exact Nat.mul_le_mul_right _ hcap
 refine ⟨cur,el,hheap,hcm,?_⟩
 have hon:Qu ι A ob w (w.setRow b (splice cur.toList p vs).toArray):=JJb hob (by rw [hι];rfl) _
 have ht:Qx ι A ob (.arr el k es') (ι ob):=by unfold Qx;rw [hob];exact ⟨_,rfl,by omega,fun _=>rfl⟩
 have hm:=hon.mv hR ht
 have hxs:xs0.length=es.length*k:=hown.1
 refine hR.chg hon ht ⟨splice xs0 p vs,?_,?_,hk',hk0,fun b1 hb1=>hS b1 (by rw [upd_same] at hb1;exact hb1)⟩ fun b1 hb1=>.inr ⟨_,hob,hb1⟩
 ·rw [upd_same,hι,hlen]
  refine ⟨by unfold splice;simp;omega,.inr ⟨b,c0,_,rfl,hB,setRow_heap w b _ _ el _ hheap,hcap,hmax,?_,?_⟩⟩
  ·rw [List.size_toArray,←hcur]
   unfold splice;simp;omega
  ·unfold splice
   rw [←htake]
   apply List.ext_getElem?
   intro q
   have e2:min p cur.toList.length=p:=by simp;omega
   have e3:min (es.length*k) cur.toList.length=es.length*k:=by simp;omega
   have e4:min p (es.length*k)=p:=by omega
   simp only [List.getElem?_append,List.getElem?_take,List.getElem?_drop,List.length_append,List.length_take,e2,e3,e4]
   by_cases q1:q<p
   ·simp [q1,show q<es.length*k by omega,show q<p+vs.length by omega]
   ·by_cases q2:q<p+vs.length
    ·simp [q1,q2,show q<es.length*k by omega]
    ·by_cases q3:q<es.length*k
     ·simp [q1,q2,q3,show p+vs.length+(q-(p+vs.length))=q by omega]
     ·simp [q1,q2,q3,show p+vs.length+(q-(p+vs.length))=q by omega]
 ·rw [hfl]
  exact (JGh hall _ hds).mono fun _ _=>hm.d _ _
theorem JNw {k m l c:Nat}{p:Option Addr}{news:List Value}(hl:news.length=m*k)(hp:0<m→∃ad,p=some ad∧∀j u,news[j]? = some u→w.cell? (ad.add j)=some u) :
  (Builtin.firstCells k m (.slice p l c)).run P w=.ok news.toArray w:=by
 by_cases hm:m=0
 ·subst hm
  have hn:news=[]:=List.eq_nil_of_length_eq_zero JB2
  subst hn
  cases p<;>simp [Builtin.firstCells,loadCells,loadCellsFrom]
 ·obtain ⟨ad,rfl,h⟩:=hp (by omega)
  exact run_firstCells_some (P:=P) (w:=w) k m ad l c news hl h
theorem JDO {t t':TypeId}{s x:Operand}(hop:o.op=.call { callee:=.builtin .append,args:=#[s,x],argTypes:=#[t,t'] }){v:Value}
  (h:(Builtin.append_ #[t,t'] o.type #[a.eval s,a.eval x]).run P w=.ok v w'):(execOp a.eval o).run P w=.ok (.value v) w':=by
 simp [execOp,hop,resolve,invoke,Go.builtin,h]
theorem JUn (hR:Jg C S M ι A a w)(ho:o.dst=some d)(hd:C.can d){t e:TypeId}{s x:Operand}(hop:o.op=.call { callee:=.builtin .append,args:=#[s,x],argTypes:=#[t,t] })
  (ht:J4 P t=some e) {k:Nat} (hk:Jn P e=some k) (hk0:0<k) {ob off len:Nat} {es ys:List (List D)} (hob:A.obj ob=some (.arr e k es)) (hs:JAj (ι ob) k es.length off len (a.eval s))
  {p:Option Addr} {c:Nat} {news:List Value} (hxv:a.eval x=.slice p ys.length c) (hnl:news.length=ys.length*k) (hnr:JS (RepD S w) ys.flatten news)
  (hp:0<ys.length→∃ad,p=some ad∧∀j u,news[j]? = some u→w.cell? (ad.add j)=some u) (hlt:off+len+ys.length<es.length) (hyl:∀y∈ys,y.length=k) :
  Qw P C A [.slot d (.leaf (.own ob off (len+ys.length) es.length)),.obj ob (.arr e k (splice es (off+len) ys))] a w o:=by
 obtain ⟨_,p1,c1,hv,hlc,hp1⟩:=hs
 obtain ⟨b,c0,hι,rfl,hc0,rfl⟩:=hp1 (by omega)
 have hkk:=(hR.objs ob _ hob).choose_spec.2.2.1
 have hfit:(off+len)*k+news.length≤es.length*k:=by rw [hnl,←Nat.add_mul];exact Nat.mul_le_mul_right _ (by omega)
 obtain ⟨cur,t0,hheap,hcm,hR'⟩:=hR.row (es':=splice es (off+len) ys) (p:=(off+len)*k) hob hι (JHt (by omega)) (JKG hkk hyl) (JIu _ hkk hyl) hnr hfit
 have hst:=run_storeCells_at P b ((off+len)*k) t0 news 0 cur w hheap (by omega) (JDG hnr)
 have hst':(storeCells ((⟨b,off*k,none⟩:Addr).add (len*k)) news).run P w=.ok () (w.setRow b (splice cur.toList ((off+len)*k) news).toArray):=by
  rw [Addr.add_lit,←Nat.add_mul]
  exact hst
 refine JBV ho hd (JDO hop (v:=.slice (some ⟨b,off*k,none⟩) (len+ys.length) (c0-off)) ?_) hR' (Qk ⟨rfl,e,k,_,ZW _ _ _,by rw [JHt (by omega)];exact Nat.le_refl _,fun _=>⟨by omega,fun e1 e2=>by omega,_,_,rfl,by omega,fun _=>⟨b,c0,by rw [upd_same];exact hι,rfl,hc0,rfl⟩⟩⟩)
 have hfc:=JNw (P:=P) (k:=k) (l:=ys.length) (c:=c) hnl hp
 have hle:len+ys.length≤c0-off:=by omega
 simp [Builtin.append_,run_underlying (JAJ ht),Zi w hk,Builtin.lenOf,hfc,hv,hxv,hle,hst']
theorem JUU (hR:Jg C S M ι A a w)(ho:o.dst=some d)(hd:C.can d){t t':TypeId}{s x:Operand}(hop:o.op=.call { callee:=.builtin .append,args:=#[s,x],argTypes:=#[t,t'] }){acc:List Loc}{rs:List Loc}{ws:List Wr}
  (h:(JG9 P t t' d (A.ev s) (A.ev x)).run A acc=some (rs,ws)):Qw P C A ws a w o:=by
 have hs:=QF hR s
 have hx:=QF hR x
 unfold JG9 at h
 cases ht:J4 P t with
 |none=>simp [ht,Ev.run] at h
 |some e=>
 cases hk:Jn P e with
 |none=>simp [ht,hk,Ev.run] at h
 |some k=>
 cases hb:QM P e with
 |none=>simp [ht,hk,hb,Ev.run] at h
 |some bytes=>
 cases hz:QD P e with
 |none=>simp [ht,hk,hb,hz,Ev.run] at h
 |some q=>
 obtain ⟨ag,zs⟩:=q
 simp only [ht,hk,hb,hz] at h
 split at h
 case isFalse=>simp [Ev.run] at h
 rename_i hc
 obtain ⟨rfl,hk0,hzl⟩:=hc
 obtain ⟨i,z,hi,hzz,_,rfl,_⟩:=JC7 hz
 obtain ⟨i',hi',hik⟩:=JFd hk
 rw [hi] at hi';simp only [Option.some.injEq] at hi';subst hi'
 have hib:i.bytes=bytes:=by simpa [QM,hi] using hb
 have hzk:z.cells.size=k:=by simpa using hzl
 unfold JIX at h
 split at h
 ·rename_i ob off len Ji es';rw [es'] at hs
  obtain ⟨h1,e',k',es,hob,htl,hval⟩:=Jl hs
  simp only [Ev.run,hob] at h
  split at h
  case isFalse=>
   split at h
   case isFalse=>simp [Ev.run] at h
   rename_i hc
   obtain ⟨rfl,rfl,rfl⟩:=hc
   obtain ⟨ys,acc',h,hsee⟩:=JF6 hR hx h
   split at h
   case isFalse=>simp [Ev.run] at h
   rename_i hc
   obtain ⟨hlt,hyl⟩:=hc
   simp only [Ev.run,Option.some.injEq,Prod.mk.injEq] at h
   obtain ⟨_,rfl⟩:=h
   obtain ⟨p,c,news,hxv,hnl,hnr,hp⟩:=hsee hyl hk0
   exact JUn hR ho hd hop ht hk hk0 hob (hval rfl).2 hxv hnl hnr hp hlt hyl
  rename_i hc
  obtain ⟨rfl,rfl,rfl,rfl,htot⟩:=hc
  obtain ⟨ys,acc',h,hsee⟩:=JF6 hR hx h
  split at h
  case isFalse=>simp [Ev.run] at h
  rename_i hc
  obtain ⟨hbb,hll,hyl⟩:=hc
  simp only [Ev.run,Option.some.injEq,Prod.mk.injEq] at h
  obtain ⟨_,rfl⟩:=h
  obtain ⟨p,c,news,hxv,hnl,hnr,hp⟩:=hsee hyl hk0
  obtain ⟨xs,hown,hall,hkk,_,hS⟩:=hR.objs ob _ hob
  have hv:a.eval s=ι ob:=(hval htot).2.1 rfl rfl
  obtain ⟨v',w',hr,ho',hgr,hbk,hm0⟩:=JNs (P:=P) (ty:=o.type) (JAJ ht) hi hzz hik hib hzk hk0 hown (p:=p) (m:=ys.length) (c:=c) hnl hp (JDG hnr) hll hbb (Nat.zero_le _)
  have hon:Qu ι A ob w w':=JJZ hgr fun g hg=>⟨_,hob,hg⟩
  have hu1:v'.oneCell'=true:=by
   rcases ho'.2 with ⟨rfl,_⟩|⟨_,_,_,rfl,_⟩<;>rfl
  have ht':Qx ι A ob (.arr e' k' (es++ys)) v':=by
   unfold Qx
   rw [hob]
   exact ⟨_,rfl,by simp,fun he=>hm0 (by simp at he;simp [he])⟩
  have hm:=hon.mv hR ht'
  refine JBV ho hd (JDO hop (by rw [hv,hxv];exact hr)) (hR.chg hon ht' ⟨xs++news,by rw [upd_same,List.length_append];exact ho',?_,?_,hk0,?_⟩ ?_)
   (Qk ⟨hu1,e',k',es++ys,ZW _ _ _,Nat.le_refl _,fun _=>⟨by omega,by rw [upd_same,List.length_append];exact JAj.tip ho'⟩⟩)
  ·rw [List.flatten_append]
   exact (hall.append hnr).mono fun _ _=>hm.d _ _
  ·intro y hy
   rcases List.mem_append.1 hy with hy|hy
   ·exact hkk y hy
   ·exact hyl y hy
  ·intro b hb off hs'
   rw [upd_same] at hb
   rcases hbk b hb with h2|h2
   ·have:=hR.inn _ _ hs';omega
   ·exact hS b h2 off hs'
  ·intro b hb
   rcases hbk b hb with h2|h2
   ·exact .inl h2
   ·exact .inr ⟨_,hob,h2⟩
 ·rename_i es';rw [es'] at hs
  have hs:=Qm (Jl hs)
  simp only [Ev.run] at h
  cases hn:A.obj d with
  |some y=>simp [hn,Ev.run] at h
  |none=>
  simp only [hn] at h
  obtain ⟨ys,acc',h,hsee⟩:=JF6 hR hx h
  split at h
  case isFalse=>simp [Ev.run] at h
  rename_i hc
  obtain ⟨hbb,hll,hyl⟩:=hc
  simp only [Ev.run,Option.some.injEq,Prod.mk.injEq] at h
  obtain ⟨_,rfl⟩:=h
  obtain ⟨p,c,news,hxv,hnl,hnr,hp⟩:=hsee hyl hk0
  obtain ⟨v',w',hr,ho',hgr,hbk,_⟩:=JNs (P:=P) (ty:=o.type) (JAJ ht) hi hzz hik hib hzk hk0 (World.ownsRow_nil w 0 e k) (p:=p) (m:=ys.length) (c:=c) hnl hp (JDG hnr) (by omega) (by simpa using hbb) (Nat.zero_le _)
  refine JEh hR ho hd hn (u:=v') (xs:=news) (JDO hop (by rw [hs,hxv];exact hr)) (JJZ hgr fun g hg=>by simp [blk] at hg) (by simpa using ho') (fun b hb=>?_) hnr hyl hk0
  rcases hbk b hb with h2|h2
  ·exact h2
  ·simp [blk] at h2
 ·simp [Ev.run] at h
end ops
end Go.Mw
namespace Go.Mw
open Go.RowKit
section ops
variable {P:Program} {C:Ctx P} {S:Jc} {M:J7} {ι:Nat→Value} {A:JE} {a:Act} {w w':World} {o:Oper} {d:Nat}
theorem JVU {t:TypeId}{f off n:Nat}{ag:Bool}(h:JH2 P t f=some (off,n,ag)):∃fs fd,P.underlying t=some (.struct fs)∧fs[f]? = some fd∧Jn P fd.type=some n∧QA P fd.type=some ag∧fd.offset=off:=by
 unfold JH2 at h
 cases hu:P.underlying t with
 |none=>simp [hu] at h
 |some ds=>
 cases ds<;>simp only [hu,reduceCtorEq] at h
 rename_i fs
 cases hf:fs[f]? with
 |none=>simp [hf] at h
 |some fd=>
 simp only [hf] at h
 cases h1:Jn P fd.type with
 |none=>simp [h1] at h
 |some n'=>
 cases h2:QA P fd.type with
 |none=>simp [h1,h2] at h
 |some ag'=>
 simp only [h1,h2,Option.some.injEq,Prod.mk.injEq] at h
 obtain ⟨rfl,rfl,rfl⟩:=h
 exact ⟨fs,fd,rfl,hf,h1,h2,rfl⟩
theorem JUh (hR:Jg C S M ι A a w)(ho:o.dst=some d)(hd:C.can d){t:TypeId}{x:Operand}{f:Nat}(hop:o.op=.field t x f){acc:List Loc}{rs:List Loc}{ws:List Wr}
  (h:(J1 x fun a=>JFL P t f d a).run A acc=some (rs,ws)):Qw P C A ws a w o:=by
 obtain ⟨_,h⟩:=Yv h
 have hx:=QF hR x
 unfold JFL at h
 cases ht:JH2 P t f with
 |none=>simp [ht,Ev.run] at h
 |some q=>
 obtain ⟨off,n,ag⟩:=q
 simp only [ht] at h
 obtain ⟨fs,fd,hu,hf,hsz,hag,rfl⟩:=JVU ht
 unfold JIs at h
 split at h
 ·rename_i ls e;rw [e] at hx
  obtain ⟨vs,hv,hall⟩:=hx
  split at h
  case isFalse=>simp [Ev.run] at h
  rename_i hc
  obtain ⟨h1,hfit⟩:=hc
  simp only [Ev.run,Option.some.injEq,Prod.mk.injEq] at h
  obtain ⟨_,rfl⟩:=h
  have hlen:=hall.length
  cases ag with
  |true=>
   have e2:(execOp a.eval o).run P w=.ok (.value (.agg (vs.toArray.extract fd.offset (fd.offset+n)))) w:=by
    simp [execOp,hop,Instr.field,run_underlying hu,hf,hv,asAgg,part,JDh w hag,Zi w hsz]
   refine QL hR ho hd e2 ⟨(vs.drop fd.offset).take n,?_,(hall.drop _).take _⟩
   congr 1
   apply Array.ext'
   simp [List.extract_eq_take_drop]
  |false=>
   have hn:n=1:=by simpa using h1
   subst hn
   obtain ⟨v,hvi⟩:∃v,vs[fd.offset]? = some v:=⟨_,List.getElem?_eq_getElem (by omega)⟩
   obtain ⟨l,hli,hr⟩:=hall.get2 hvi
   have hd1:(ls.drop fd.offset).take 1=[l]:=by
    rw [List.take_one,List.head?_drop,hli];rfl
   rw [hd1]
   refine QL hR ho hd (v:=v) ?_ ⟨l,rfl,hr⟩
   simp [execOp,hop,Instr.field,run_underlying hu,hf,hv,asAgg,part,JDh w hag,hvi]
 ·simp [Ev.run] at h
theorem JUl (hR:Jg C S M ι A a w)(ho:o.dst=some d)(hd:C.can d){t:TypeId}{x ix:Operand}(hop:o.op=.index t x ix){acc:List Loc}{rs:List Loc}{ws:List Wr}
  (h:(J1 x fun v=>J1 ix fun u=>JFO P t d v u).run A acc=some (rs,ws)):Qw P C A ws a w o:=by
 obtain ⟨_,h⟩:=Yv h
 obtain ⟨_,h⟩:=Yv h
 have hx:=QF hR x
 have hi:=QF hR ix
 unfold JFO at h
 cases hai:asInt (A.ev ix) with
 |none=>simp [hai,Ev.run] at h
 |some q=>
 obtain ⟨ki,i⟩:=q
 simp only [hai] at h
 have hiv:=JBk hai hi
 unfold idxOf at h
 split at h
 ·rename_i ls e;rw [e] at hx
  obtain ⟨vs,hv,hall⟩:=hx
  cases hta:QK P t with
  |none=>simp [hta,Ev.run] at h
  |some p=>
  obtain ⟨n,k,ag⟩:=p
  obtain ⟨el,hu,hsz,hag⟩:=JKz hta
  simp only [hta] at h
  split at h
  case isFalse=>simp [Ev.run] at h
  rename_i hc
  obtain ⟨⟨h0,hn⟩,h1,hfit⟩:=hc
  simp only [Ev.run,Option.some.injEq,Prod.mk.injEq] at h
  obtain ⟨_,rfl⟩:=h
  have hlen:=hall.length
  cases ag with
  |true=>
   have e2:(execOp a.eval o).run P w=.ok (.value (.agg (vs.toArray.extract (i.toNat*k) (i.toNat*k+k)))) w:=by
    simp [execOp,hop,Instr.index,hiv,asIntOf,run_underlying hu,hv,h0,hn,part,JDh w hag,Zi w hsz]
   refine QL hR ho hd e2 ⟨(vs.drop (i.toNat*k)).take k,?_,(hall.drop _).take _⟩
   congr 1
   apply Array.ext'
   simp [List.extract_eq_take_drop]
  |false=>
   have hk:k=1:=by simpa using h1
   subst hk
   obtain ⟨v,hvi⟩:∃v,vs[i.toNat*1]? = some v:=⟨_,List.getElem?_eq_getElem (by omega)⟩
   obtain ⟨l,hli,hr⟩:=hall.get2 hvi
   have hd1:(ls.drop (i.toNat*1)).take 1=[l]:=by
    rw [List.take_one,List.head?_drop,hli];rfl
   rw [hd1]
   refine QL hR ho hd (v:=v) ?_ ⟨l,rfl,hr⟩
   rw [Nat.mul_one] at hvi
   simp [execOp,hop,Instr.index,hiv,asIntOf,run_underlying hu,hv,h0,hn,part,JDh w hag,Zi w hsz,hvi]
 ·rename_i s e;rw [e] at hx
  have hx:=Qm (Jl hx)
  cases hs:s[i.toNat]? with
  |none=>simp [hs,Ev.run] at h
  |some b=>
  simp only [hs] at h
  split at h
  case isFalse=>simp [Ev.run] at h
  rename_i hc
  simp only [Ev.run,Option.some.injEq,Prod.mk.injEq] at h
  obtain ⟨_,rfl⟩:=h
  have hu:P.underlying t=some .string:=by
   have:=hc.2
   unfold QC at this
   split at this
   ·assumption
   ·cases this
  refine QL hR ho hd (v:=.int .u8 b.toNat) ?_ (Ye rfl)
  simp [execOp,hop,Instr.index,hiv,asIntOf,run_underlying hu,hx,hc.1,hs]
 ·simp [Ev.run] at h
theorem JVY {t k e:TypeId}(h:JDl P t=some (k,e)):P.underlying t=some (.map k e):=by
 unfold JDl at h
 cases hu:P.underlying t with
 |none=>simp [hu] at h
 |some ds=>cases ds<;>simp_all
structure JVy (P:Program) (k:TypeId) (tg:Nat) (kv:Value) (w:World):Prop where
 chk:∀e,(Instr.checkKey e 10000 k kv).run P w=.ok () w
 get:∀ {S:Jc} {ι:Nat→Value} {H:Nat→Option AO} {es:List (Value × Bool × List AL)} {qs:List MapEntry} {r:Option (Bool × List AL)},JS (Zl S ι H w) es qs→JMm tg kv es=some r →
  (r=none∧(Instr.findKey k kv qs).run P w=.ok none w)∨∃p j q,r=some p∧(Instr.findKey k kv qs).run P w=.ok (some (j,q.val)) w∧qs[j]? = some q∧Qv S ι H w p.1 p.2 q.val
 set:∀ {S:Jc} {ι:Nat→Value} {H:Nat→Option AO} {val:Value} {x:Bool × List AL} {es es':List (Value × Bool × List AL)} {qs:List MapEntry} (ck:Nat),Qv S ι H w x.1 x.2 val→JS (Zl S ι H w) es qs→JMp tg kv x es=some es' →
  ((Instr.findKey k kv qs).run P w=.ok none w∧JS (Zl S ι H w) es' (qs++[{ key:=kv,val:=val,born:=ck }])) ∨
  ∃j q,(Instr.findKey k kv qs).run P w=.ok (some (j,q.val)) w∧qs[j]? = some q∧Instr.sameBits 10000 q.key kv=true∧JS (Zl S ι H w) es' (qs.modify j fun e=>{ e with key:=kv,val:=val })
theorem JUz (hR:Jg C S M ι A a w)(ho:o.dst=some d)(hd:C.can d){t:TypeId}{x:Operand}(hop:o.op=.range t x){acc:List Loc}{rs:List Loc}{ws:List Wr}
  (h:(J1 x fun a=>JFV P t d a).run A acc=some (rs,ws)):Qw P C A ws a w o:=by
 obtain ⟨_,h⟩:=Yv h
 have hx:=QF hR x
 unfold JFV at h
 cases ht:JDl P t with
 |none=>
  simp only [ht] at h
  cases hs:QC P t with
  |false=>simp [hs,Ev.run] at h
  |true=>
  simp only [hs,cond_true] at h
  unfold JJq at h
  split at h
  case h_2=>simp [Ev.run] at h
  rename_i sv ex;rw [ex] at hx
  have hx:=Qm (Jl hx)
  have hu:P.underlying t=some .string:=by
   unfold QC at hs
   cases hu:P.underlying t with
   |none=>simp [hu] at hs
   |some dsc=>cases dsc<;>simp_all
  simp only [Ev.run] at h
  cases hn:A.obj d with
  |some y=>simp [hn,Ev.run] at h
  |none=>
  simp only [hn,Ev.run,Option.some.injEq,Prod.mk.injEq] at h
  obtain ⟨_,rfl⟩:=h
  have hon:Qu ι A d w (w.alloc (.stringIter sv 0)):=JCL A _
  have ht':Qx ι A d (.sit sv 0) (.pointer (some ⟨w.heap.size,0,none⟩)):=JAi hn _ _
  refine JBV ho hd (v:=.pointer (some ⟨w.heap.size,0,none⟩)) ?_ (hR.chg hon ht' ⟨w.heap.size,upd_same _ _ _,Go.heap_alloc_new w _,fun off hs=>by have:=hR.inn _ _ hs;omega⟩ fun b hb=>?_) (Qk ⟨rfl,(upd_same _ _ _).symm,_,ZW _ _ _,rfl⟩)
  ·simp [execOp,hop,hx,Instr.range,run_underlying hu]
  ·simp [blk] at hb;exact .inl (by omega)
 |some q=>
 obtain ⟨k,e⟩:=q
 simp only [ht] at h
 unfold JJr at h
 split at h
 case h_2=>simp [Ev.run] at h
 rename_i ob ex;rw [ex] at hx
 obtain ⟨_,hv,z,hob,hw⟩:=Jl hx
 simp only [Ev.run,hob] at h
 cases z<;>simp only [Ev.run,reduceCtorEq] at h
 rename_i es
 cases hn:A.obj d with
 |some y=>simp [hn,Ev.run] at h
 |none=>
 simp only [hn,Ev.run,Option.some.injEq,Prod.mk.injEq] at h
 obtain ⟨_,rfl⟩:=h
 obtain ⟨b,qs,ck,hι,hheap,hall,hborn,hS⟩:=hR.objs ob _ hob
 have hck:ck=es.length:=hborn.2.trans hall.length.symm
 subst hck
 have hne:ob≠d:=fun e=>by rw [e,hn] at hob;cases hob
 have hon:Qu ι A d w (w.alloc (.mapIter (some b) es.length #[] es.length)):=JCL A _
 have ht':Qx ι A d (.iter [.obj ob] es.length [] es.length) (.pointer (some ⟨w.heap.size,0,none⟩)):=JAi hn _ _
 have hrun:=run_range_map (P:=P) w t k e b qs.toArray es.length (JVY ht) hheap
 refine JBV ho hd (v:=.pointer (some ⟨w.heap.size,0,none⟩)) ?_ (hR.chg hon ht' ⟨w.heap.size,some b,upd_same _ _ _,Go.heap_alloc_new w _,⟨⟨rfl,?_,_,(Zo _ _ hne).trans hob,rfl⟩,trivial⟩,fun off hs=>by have:=hR.inn _ _ hs;omega⟩ fun b hb=>?_) (Qk ⟨rfl,(upd_same _ _ _).symm,_,ZW _ _ _,rfl⟩)
 ·simp only [execOp,hop,hv,hι,Sem.run_bind,hrun,Result.andThen_ok,Sem.run_pure]
 ·rw [JBA _ _ hne,hι]
 ·simp [blk] at hb;exact .inl (by omega)
theorem JNv {P:Program}{w:World}{r:Nat}{s:ByteArray}{p:Nat}(hb:w.heap[r]? = some (.stringIter s p)):(getObj r).run P w=.ok (.stringIter s p) w:=by simp [getObj,Sem.run,hb]
theorem JUG {P:Program}{w:World}{r:Nat}{s:ByteArray}{p:Nat}(o:Obj)(hb:w.heap[r]? = some (.stringIter s p)):(setObj r o).run P w=.ok () (ChangeMaps.setBlock w r o):=by simp [setObj,Sem.run,hb,ChangeMaps.setBlock]
theorem JUs (hR:Jg C S M ι A a w)(ho:o.dst=some d)(hd:C.can d){x:Operand}(hop:o.op=.next x true){acc:List Loc}{rs:List Loc}{ws:List Wr}
  (h:(J1 x fun a=>JFj d a).run A acc=some (rs,ws)):Qw P C A ws a w o:=by
 obtain ⟨_,h⟩:=Yv h
 have hx:=QF hR x
 unfold JFj at h
 split at h
 case h_2=>simp [Ev.run] at h
 rename_i q ex;rw [ex] at hx
 obtain ⟨_,hv,z,hob,hw⟩:=Jl hx
 simp only [Ev.run,hob] at h
 unfold JJ9 at h
 split at h
 case h_2=>simp [Ev.run] at h
 rename_i sv p hz
 cases hz
 obtain ⟨b,hι,hheap,hS⟩:=hR.objs q _ hob
 have hlt:b<w.heap.size:=(Array.getElem?_eq_some_iff.1 hheap).1
 split at h
 ·rename_i hp
  simp only [Ev.run,Option.some.injEq,Prod.mk.injEq] at h
  obtain ⟨_,rfl⟩:=h
  let x':Obj:=.stringIter sv (p+(Utf8.decode sv p).2)
  have hset:(ChangeMaps.setBlock w b x').heap=w.heap.setIfInBounds b x':=rfl
  have hon:Qu ι A q w (ChangeMaps.setBlock w b x'):=
   ⟨rfl,rfl,rfl,by rw [hset];simp,fun k hk hkb=>by
    rw [hset,Array.getElem?_setIfInBounds_ne]
    intro e1;subst e1
    exact hkb _ hob (by rw [hι];rfl)⟩
  have ht':Qx ι A q (.sit sv (p+(Utf8.decode sv p).2)) (ι q):=by unfold Qx;rw [hob];exact ⟨rfl,rfl⟩
  have hR':=hR.chg hon ht' ⟨b,by rw [upd_same];exact hι,by rw [hset];simp [hlt,x'],hS⟩ (fun b1 hb1=>.inr ⟨_,hob,hb1⟩) (by simp) (fun hnone=>by rw [hob] at hnone;cases hnone)
  have hrun:(Instr.next (a.eval x) true o.type).run P w=.ok (.tuple #[.bool true,.int .i64 p,.int .i32 (Utf8.decode sv p).1]) (ChangeMaps.setBlock w b x'):=by
   rw [hv,hι]
   simp [Instr.next,JNv hheap,hp,JUG x' hheap,x',goInt]
  refine .inl ⟨.tuple #[.bool true,.int .i64 p,.int .i32 (Utf8.decode sv p).1],ChangeMaps.setBlock w b x',by simp only [execOp,hop,Sem.run_bind,hrun,Result.andThen_ok,Sem.run_pure],?_⟩
  rw [ho]
  exact ⟨S,_,_,hR'.slot hd ⟨[.bool true,.int .i64 p,.int .i32 (Utf8.decode sv p).1],rfl,⟨_,rfl,RepD.raw _ rfl⟩,⟨_,rfl,RepD.raw _ rfl⟩,⟨_,rfl,RepD.raw _ rfl⟩,trivial⟩⟩
 ·rename_i hp
  simp only [Ev.run,Option.some.injEq,Prod.mk.injEq] at h
  obtain ⟨_,rfl⟩:=h
  refine QL hR ho hd (v:=.tuple #[.bool false]) ?_ ⟨[.bool false],rfl,⟨_,rfl,RepD.raw _ rfl⟩,trivial⟩
  simp [execOp,hop,hv,hι,Instr.next,JNv hheap,hp]
def Core (P:Program)(C:Ctx P)(S:Jc)(M:J7)(ι:Nat→Value)(A:JE)(a:Act)(w:World)(o:Oper)(d:Nat)(ws:List Wr):Prop:=
 ∃(q:Nat) (x:AO) (u v:Value) (w':World) (av:AV),ws=[.slot d av,.obj q x]∧(execOp a.eval o).run P w=.ok (.value v) w' ∧ Jg C S (grow M w w') (upd ι q u) (A.put [.obj q x]) a w' ∧ Jk S (upd ι q u) (A.put [.obj q x]).obj w' av v
theorem JGz {q:Nat}{x:AO}{u v:Value}{av:AV}(hr:(execOp a.eval o).run P w=.ok (.value v) w')(hR':Jg C S (grow M w w') (upd ι q u) (A.put [.obj q x]) a w')(hv:Jk S (upd ι q u) (A.put [.obj q x]).obj w' av v) :
  Core P C S M ι A a w o d [.slot d av,.obj q x]:=⟨q,x,u,v,w',av,rfl,hr,hR',hv⟩
theorem Core.snd {ws:List Wr}(h:Core P C S M ι A a w o d ws)(ho:o.dst=some d)(hd:C.can d):Qw P C A ws a w o:=by
 obtain ⟨q,x,u,v,w',av,rfl,hr,hR',hv⟩:=h
 exact JBV ho hd hr hR' hv
theorem Core.sndN {ws:List Wr}(h:Core P C S M ι A a w o d ws)(ho:o.dst=none):Qw P C A ws.tail a w o:=by
 obtain ⟨q,x,u,v,w',av,rfl,hr,hR',hv⟩:=h
 exact .inl ⟨v,w',hr,by rw [ho];exact ⟨S,_,upd ι q u,hR'⟩⟩
theorem JJ4 {A:JE}{ws':List Wr}{rs:List Loc}:∀ {e:Ev} {acc:List Loc},e.drop.run A acc=some (rs,ws')→∃ws,e.run A acc=some (rs,ws)∧ws'=ws.tail
 |.done ws,acc,h=>by
  simp only [Ev.drop,Ev.run,Option.some.injEq,Prod.mk.injEq] at h
  exact ⟨ws,by simp [Ev.run,h.1],h.2.symm⟩
 |.fail,acc,h=>by simp [Ev.drop,Ev.run] at h
 |.slot s k,acc,h=>JJ4 (e:=k (A.get s)) (by simpa [Ev.drop,Ev.run] using h)
 |.obj o k,acc,h=>JJ4 (e:=k (A.obj o)) (by simpa [Ev.drop,Ev.run] using h)
theorem JLm (hR:Jg C S M ι A a w){t t':TypeId}{x y:Operand}(hop:o.op=.call { callee:=.builtin .copy,args:=#[x,y],argTypes:=#[t,t'] }){acc:List Loc}{rs:List Loc}{ws:List Wr}
  (h:(JHB P t d (A.ev x) (A.ev y)).run A acc=some (rs,ws)):Core P C S M ι A a w o d ws:=by
 have hx:=QF hR x
 have hy:=QF hR y
 unfold JHB at h
 cases ht:J4 P t with
 |none=>simp [ht,Ev.run] at h
 |some e=>
 cases hk:Jn P e with
 |none=>simp [ht,hk,Ev.run] at h
 |some k=>
 simp only [ht,hk] at h
 unfold copyV at h
 split at h
 case h_2=>simp [Ev.run] at h
 rename_i ob off len Ji ex;rw [ex] at hx
 obtain ⟨h1,e',k',es,hob,htl,hval⟩:=Jl hx
 simp only [Ev.run,hob] at h
 split at h
 case isFalse=>simp [Ev.run] at h
 rename_i hc
 obtain ⟨rfl,rfl⟩:=hc
 obtain ⟨ys,acc',h,hsee⟩:=JF6 hR hy h
 split at h
 case isFalse=>simp [Ev.run] at h
 rename_i hyl
 simp only [Ev.run,Option.some.injEq,Prod.mk.injEq] at h
 obtain ⟨_,rfl⟩:=h
 obtain ⟨xs0,hown,hall,hkk,hk0,hS⟩:=hR.objs ob _ hob
 obtain ⟨p,c,news,hyv,hnl,hnr,hp⟩:=hsee hyl hk0
 obtain ⟨hol,_,p1,c1,hv,hlc,hp1⟩:=hval rfl
 have hexec:∀ {w1:World},(Builtin.copy_ #[t,t'] o.type #[a.eval x,a.eval y]).run P w=.ok (.int .i64 (min ys.length len:Nat)) w1→(execOp a.eval o).run P w=.ok (.value (.int .i64 (min ys.length len:Nat))) w1:=fun hr=>by
  simp [execOp,hop,resolve,invoke,Go.builtin,hr]
 have hml:min ys.length len*k' ≤ news.length:=by rw [hnl];exact Nat.mul_le_mul_right _ (by omega)
 have hnews':(news.take (min ys.length len*k')).length=min ys.length len*k':=by rw [List.length_take];omega
 have hfc:(Builtin.firstCells k' (min ys.length len) (.slice p ys.length c)).run P w=.ok (news.take (min ys.length len*k')).toArray w:=by
  refine JNw hnews' ?_
  intro h0
  obtain ⟨ad,h1,h2⟩:=hp (by omega)
  refine ⟨ad,h1,fun j u hu=>h2 j u ?_⟩
  rw [List.getElem?_take] at hu
  split at hu
  ·exact hu
  ·cases hu
 have htk:(ys.take len).flatten=ys.flatten.take (min ys.length len*k'):=by
  rw [JIv _ hyl]
  by_cases hle:len≤ys.length
  ·rw [Nat.min_eq_right hle]
  ·rw [Nat.min_eq_left (by omega),List.take_of_length_le (by rw [JBM hyl];exact Nat.mul_le_mul_right _ (by omega)),List.take_of_length_le (by rw [JBM hyl];exact Nat.le_refl _)]
 have hyl':∀y∈ys.take len,y.length=k':=fun y hy=>hyl y (List.mem_of_mem_take hy)
 have hlt:(ys.take len).length=min ys.length len:=by simp;omega
 by_cases hlt0:off<es.length
 ·obtain ⟨b,c0,hι,rfl,hc0,rfl⟩:=hp1 hlt0
  have hfit:off*k'+(news.take (min ys.length len*k')).length≤es.length*k':=by rw [hnews',←Nat.add_mul];exact Nat.mul_le_mul_right _ (by omega)
  obtain ⟨cur,t0,hheap,hcm,hR'⟩:=hR.row (es':=splice es off (ys.take len)) (p:=off*k') hob hι (JHt (by omega)) (JKG hkk hyl') (JIu _ hkk hyl') (by rw [htk];exact hnr.take _) hfit
  have hst:=run_storeCells_at P b (off*k') t0 (news.take (min ys.length len*k')) 0 cur w hheap (by omega) (fun v hv=>JDG hnr v (List.mem_of_mem_take hv))
  refine JGz (hexec ?_) hR' (Ye rfl)
  have hst':(storeCells (⟨b,off*k',none⟩:Addr) (news.take (min ys.length len*k'))).run P w=.ok () (w.setRow b (splice cur.toList (off*k') (news.take (min ys.length len*k'))).toArray):=hst
  simp [Builtin.copy_,run_underlying (JAJ ht),Zi w hk,Builtin.lenOf,hv,hyv,hfc,hst',goInt] 
 ·have hm0:min ys.length len=0:=by omega
  have hso:splice es off (ys.take len)=es:=by
   have:ys.take len=[]:=List.eq_nil_of_length_eq_zero (by rw [hlt,hm0])
   unfold splice
   rw [this];simp
  rw [hso]
  have hsame:A.put [.slot d (.int (min ys.length len:Nat)),.obj ob (.arr e' k' es)]=A.put [.slot d (.int (min ys.length len:Nat)),.obj ob (.arr e' k' es)]:=rfl
  have hon:Qu ι A ob w w:=JJa A
  have ht':Qx ι A ob (.arr e' k' es) (ι ob):=by unfold Qx;rw [hob];exact ⟨_,rfl,Nat.le_refl _,fun _=>rfl⟩
  have hm:=hon.mv hR ht'
  refine JGz (u:=ι ob) (hexec ?_) (hR.chg hon ht' ⟨xs0,by rw [upd_same];exact hown,hall.mono fun _ _=>hm.d _ _,hkk,hk0,fun b hb=>hS b (by rw [upd_same] at hb;exact hb)⟩ fun b hb=>.inr ⟨_,hob,hb⟩) (Ye rfl)
  rw [hm0] at hfc
  simp only [Nat.zero_mul,List.take_zero] at hfc
  cases p1<;>simp [Builtin.copy_,run_underlying (JAJ ht),Zi w hk,Builtin.lenOf,hv,hyv,hm0,hfc,storeCells,goInt]
theorem JVw (z:Array Value)(n:Nat):(Builtin.zeroCells z n).toList=(List.replicate n z.toList).flatten:=by
 have:=JMl z n
 rw [←this]
 rfl
theorem JLl (hR:Jg C S M ι A a w){t:TypeId}{x:Operand}(hop:o.op=.call { callee:=.builtin .clear,args:=#[x],argTypes:=#[t] }){acc:List Loc}{rs:List Loc}{ws:List Wr}
  (h:(JHA P t d (A.ev x)).run A acc=some (rs,ws)):Core P C S M ι A a w o d ws:=by
 have hx:=QF hR x
 unfold JHA at h
 cases ht:J4 P t with
 |none=>simp [ht,Ev.run] at h
 |some e=>
 cases hk:Jn P e with
 |none=>simp [ht,hk,Ev.run] at h
 |some k=>
 cases hz:QD P e with
 |none=>simp [ht,hk,hz,Ev.run] at h
 |some q=>
 obtain ⟨ag,zs⟩:=q
 simp only [ht,hk,hz] at h
 unfold JIk at h
 split at h
 case h_2=>simp [Ev.run] at h
 rename_i ob off len Ji ex;rw [ex] at hx
 obtain ⟨h1,e',k',es,hob,htl,hval⟩:=Jl hx
 simp only [Ev.run,hob] at h
 split at h
 case isFalse=>simp [Ev.run] at h
 rename_i hc
 obtain ⟨rfl,rfl,hzl⟩:=hc
 simp only [Ev.run,Option.some.injEq,Prod.mk.injEq] at h
 obtain ⟨_,rfl⟩:=h
 obtain ⟨i,z,hi,hzz,_,rfl,hall0⟩:=JC7 hz
 obtain ⟨xs0,hown,hall,hkk,hk0,hS⟩:=hR.objs ob _ hob
 obtain ⟨hol,_,p1,c1,hv,hlc,hp1⟩:=hval rfl
 have hexec:∀ {w1:World},(Builtin.clear_ #[t] o.type #[a.eval x]).run P w=.ok (.tuple #[]) w1→(execOp a.eval o).run P w=.ok (.value (.tuple #[])) w1:=fun hr=>by
  simp [execOp,hop,resolve,invoke,Go.builtin,hr]
 have hzv:(zeroValue e).run P w=.ok z w:=by simp [zeroValue,typeInfo,hi,hzz]
 have hyl:∀y∈List.replicate len (z.cells.toList.map D.raw),y.length=k':=fun y hy=>by rw [(List.mem_replicate.1 hy).2];exact hzl
 have hds:JS (RepD S w) (List.replicate len (z.cells.toList.map D.raw)).flatten (List.replicate len z.cells.toList).flatten:=JIU (JIV hall0) len
 have hvl:(List.replicate len z.cells.toList).flatten.length=len*k':=by
  rw [JBM (k:=k')]
  ·simp
  ·intro y hy;rw [(List.mem_replicate.1 hy).2];simpa using hzl
 by_cases hlen0:len=0
 ·subst hlen0
  have hso:splice es off (List.replicate 0 (z.cells.toList.map D.raw))=es:=by unfold splice;simp
  rw [hso]
  have hon:Qu ι A ob w w:=JJa A
  have ht':Qx ι A ob (.arr e' k' es) (ι ob):=by unfold Qx;rw [hob];exact ⟨_,rfl,Nat.le_refl _,fun _=>rfl⟩
  have hm:=hon.mv hR ht'
  refine JGz (u:=ι ob) (hexec ?_) (hR.chg hon ht' ⟨xs0,by rw [upd_same];exact hown,hall.mono fun _ _=>hm.d _ _,hkk,hk0,fun b hb=>hS b (by rw [upd_same] at hb;exact hb)⟩ fun b hb=>.inr ⟨_,hob,hb⟩) trivial
  cases p1<;>simp [Builtin.clear_,run_underlying (JAJ ht),hv]
 ·obtain ⟨b,c0,hι,rfl,hc0,rfl⟩:=hp1 (by omega)
  have hfit:off*k'+(List.replicate len z.cells.toList).flatten.length≤es.length*k':=by rw [hvl,←Nat.add_mul];exact Nat.mul_le_mul_right _ (by omega)
  obtain ⟨cur,t0,hheap,hcm,hR'⟩:=hR.row (es':=splice es off (List.replicate len (z.cells.toList.map D.raw))) (p:=off*k') hob hι (JHt ZS) (JKG hkk hyl) (JIu _ hkk hyl) hds hfit
  have hst:=run_storeCells_at P b (off*k') t0 (List.replicate len z.cells.toList).flatten 0 cur w hheap (by omega) (JDG hds)
  refine JGz (hexec ?_) hR' trivial
  have hst':(storeCells (⟨b,off*k',none⟩:Addr) (Builtin.zeroCells z.cells len).toList).run P w=.ok () (w.setRow b (splice cur.toList (off*k') (List.replicate len z.cells.toList).flatten).toArray):=by
   rw [JVw];exact hst
  obtain ⟨m,rfl⟩:∃m,len=m+1:=⟨len-1,by omega⟩
  simp [Builtin.clear_,run_underlying (JAJ ht),hv,hzv,hst']
end ops
end Go.Mw
namespace Go.Mw
open Go.RowKit
section ops
variable {P:Program} {C:Ctx P} {S:Jc} {M:J7} {ι:Nat→Value} {A:JE} {a:Act} {w w':World} {o:Oper} {d:Nat}
theorem JJ6 (lt:Bool)(k:IntKind)(n m:Int)(k':IntKind) :
  ((if lt then Builtin.min2 (.int k n) (.int k' m) else Builtin.max2 (.int k n) (.int k' m)):Sem Value).run P w=.ok (.int k (JAp lt n m)) w:=by
 cases lt<;>simp [Builtin.min2,Builtin.max2,JAp]
theorem JOI (hR:Jg C S M ι A a w)(ho:o.dst=some d)(hd:C.can d){lt:Bool}{c:Call}(hop:o.op=.call c)(hb:c.callee=.builtin (if lt then .min else .max)){acc:List Loc}{rs:List Loc}{ws:List Wr}
  (h:(min2 lt d (c.args.toList.map A.ev)).run A acc=some (rs,ws)):Qw P C A ws a w o:=by
 have hx:=JBT hR c.args.toList
 obtain ⟨callee,args,argTypes⟩:=c
 simp only at hb hx h
 subst hb
 have hexec:∀v,((if lt then Builtin.min_ argTypes o.type (args.map a.eval) else Builtin.max_ argTypes o.type (args.map a.eval)):Sem Value).run P w=.ok v w→(execOp a.eval o).run P w=.ok (.value v) w:=by
  intro v hv
  cases lt
  ·simp only [Bool.false_eq_true,if_false] at hv hop
   simp [execOp,hop,resolve,invoke,Go.builtin,hv]
  ·simp only [if_true] at hv hop
   simp [execOp,hop,resolve,invoke,Go.builtin,hv]
 unfold min2 at h
 split at h
 ·rename_i v u e
  match hargs:args.toList,e,hx with
  |[x,y],e,hx=>
   simp only [List.map_cons,List.map_nil,List.cons.injEq,and_true] at e
   obtain ⟨rfl,rfl⟩:=e
   cases h1:asInt (A.ev x) with
   |none=>simp [h1,Ev.run] at h
   |some p=>
   cases h2:asInt (A.ev y) with
   |none=>simp [h1,h2,Ev.run] at h
   |some q=>
   obtain ⟨j,n⟩:=p
   obtain ⟨j',m⟩:=q
   simp only [h1,h2,Ev.run,Option.some.injEq,Prod.mk.injEq] at h
   obtain ⟨_,rfl⟩:=h
   have hv1:=JBk h1 (QF hR x)
   have hv2:=JBk h2 (QF hR y)
   have harr:args=#[x,y]:=by apply Array.ext';simpa using hargs
   subst harr
   have hp:=JJ6 (P:=P) (w:=w) lt j n m j'
   refine QL hR ho hd (v:=.int j (JAp lt n m)) (hexec _ ?_) (Ye rfl)
   cases lt
   ·simp only [Bool.false_eq_true,if_false] at hp ⊢
    simp [Builtin.max_,hv1,hv2,hp]
   ·simp only [if_true] at hp ⊢
    simp [Builtin.min_,hv1,hv2,hp]
 ·rename_i v u x0 e
  match hargs:args.toList,e,hx with
  |[x,y,z],e,hx=>
   simp only [List.map_cons,List.map_nil,List.cons.injEq,and_true] at e
   obtain ⟨rfl,rfl,rfl⟩:=e
   cases h1:asInt (A.ev x) with
   |none=>simp [h1,Ev.run] at h
   |some p=>
   cases h2:asInt (A.ev y) with
   |none=>simp [h1,h2,Ev.run] at h
   |some q=>
   cases h3:asInt (A.ev z) with
   |none=>simp [h1,h2,h3,Ev.run] at h
   |some s=>
   obtain ⟨j,n⟩:=p
   obtain ⟨j',m⟩:=q
   obtain ⟨j'',l⟩:=s
   simp only [h1,h2,h3,Ev.run,Option.some.injEq,Prod.mk.injEq] at h
   obtain ⟨_,rfl⟩:=h
   have hv1:=JBk h1 (QF hR x)
   have hv2:=JBk h2 (QF hR y)
   have hv3:=JBk h3 (QF hR z)
   have harr:args=#[x,y,z]:=by apply Array.ext';simpa using hargs
   subst harr
   have hp:=JJ6 (P:=P) (w:=w) lt j n m j'
   have hq:=JJ6 (P:=P) (w:=w) lt j (JAp lt n m) l j''
   refine QL hR ho hd (v:=.int j (JAp lt (JAp lt n m) l)) (hexec _ ?_) (Ye rfl)
   cases lt
   ·simp only [Bool.false_eq_true,if_false] at hp hq ⊢
    simp [Builtin.max_,hv1,hv2,hv3,hp,hq]
   ·simp only [if_true] at hp hq ⊢
    simp [Builtin.min_,hv1,hv2,hv3,hp,hq]
 ·simp [Ev.run] at h
theorem JUb (hR:Jg C S M ι A a w)(ho:o.dst=some d)(hd:C.can d){c:Call}{b:Builtin}(hop:o.op=.call c)(hb:c.callee=.builtin b){acc:List Loc}{rs:List Loc}{ws:List Wr}
  (h:(Zx c.args.toList fun vs=>JCC P b c.argTypes.toList d vs).run A acc=some (rs,ws)):Qw P C A ws a w o:=by
 obtain ⟨callee,args,argTypes⟩:=c
 simp only at hb h
 subst hb
 obtain ⟨_,h'⟩:=JEg h
 clear h
 have h:=h'
 clear h'
 unfold JCC at h
 split at h
 ·split at h
  ·rename_i t x e1 e2
   match hargs:args.toList,e2 with
   |[y],e2=>
    simp only [List.map_cons,List.map_nil,List.cons.injEq,and_true] at e2
    subst e2
    have h1:args=#[y]:=by apply Array.ext';simpa using hargs
    have h2:argTypes=#[t]:=by apply Array.ext';simpa using e1
    subst h1 h2
    exact JUp hR ho hd hop h
  ·simp [Ev.run] at h
 ·split at h
  ·rename_i t t' x x' e1 e2
   match hargs:args.toList,e2 with
   |[y,y'],e2=>
    simp only [List.map_cons,List.map_nil,List.cons.injEq,and_true] at e2
    obtain ⟨rfl,rfl⟩:=e2
    have h1:args=#[y,y']:=by apply Array.ext';simpa using hargs
    have h2:argTypes=#[t,t']:=by apply Array.ext';simpa using e1
    subst h1 h2
    exact JUU hR ho hd hop h
  ·simp [Ev.run] at h
 ·split at h
  ·rename_i t t' x x' e1 e2
   match hargs:args.toList,e2 with
   |[y,y'],e2=>
    simp only [List.map_cons,List.map_nil,List.cons.injEq,and_true] at e2
    obtain ⟨rfl,rfl⟩:=e2
    have h1:args=#[y,y']:=by apply Array.ext';simpa using hargs
    have h2:argTypes=#[t,t']:=by apply Array.ext';simpa using e1
    subst h1 h2
    exact (JLm hR hop h).snd ho hd
  ·simp [Ev.run] at h
 ·split at h
  ·rename_i t x e1 e2
   match hargs:args.toList,e2 with
   |[y],e2=>
    simp only [List.map_cons,List.map_nil,List.cons.injEq,and_true] at e2
    subst e2
    have h1:args=#[y]:=by apply Array.ext';simpa using hargs
    have h2:argTypes=#[t]:=by apply Array.ext';simpa using e1
    subst h1 h2
    exact (JLl hR hop h).snd ho hd
  ·simp [Ev.run] at h
 ·exact JOI (lt:=true) hR ho hd hop rfl h
 ·exact JOI (lt:=false) hR ho hd hop rfl h
 ·simp [Ev.run] at h
theorem JUc (hR:Jg C S M ι A a w)(ho:o.dst=none){c:Call}{b:Builtin}(hq:JEc b=true)(hop:o.op=.call c)(hb:c.callee=.builtin b){acc:List Loc}{rs:List Loc}{ws:List Wr}
  (h:(Zx c.args.toList fun vs=>JCC P b c.argTypes.toList 0 vs).drop.run A acc=some (rs,ws)):Qw P C A ws a w o:=by
 obtain ⟨callee,args,argTypes⟩:=c
 simp only at hb h
 subst hb
 obtain ⟨ws0,h',rfl⟩:=JJ4 h
 clear h
 obtain ⟨_,h⟩:=JEg h'
 clear h'
 cases b<;>simp only [JEc,Bool.false_eq_true] at hq<;>unfold JCC at h<;>simp only at h
 all_goals
  split at h
  case h_2=>simp [Ev.run] at h
 ·rename_i t x e1 e2
  match hargs:args.toList,e2 with
  |[y],e2=>
   simp only [List.map_cons,List.map_nil,List.cons.injEq,and_true] at e2
   subst e2
   have h1:args=#[y]:=by apply Array.ext';simpa using hargs
   have h2:argTypes=#[t]:=by apply Array.ext';simpa using e1
   subst h1 h2
   exact (JLl hR hop h).sndN ho
 ·rename_i t t' x x' e1 e2
  match hargs:args.toList,e2 with
  |[y,y'],e2=>
   simp only [List.map_cons,List.map_nil,List.cons.injEq,and_true] at e2
   obtain ⟨rfl,rfl⟩:=e2
   have h1:args=#[y,y']:=by apply Array.ext';simpa using hargs
   have h2:argTypes=#[t,t']:=by apply Array.ext';simpa using e1
   subst h1 h2
   exact (JLm hR hop h).sndN ho
theorem JKF (hR:Jg C S M ι A a w)(hd:∀d,o.dst=some d→C.can d){acc:List Loc}{rs:List Loc}{ws:List Wr}
  (h:(Qg P o.op o.dst).run A acc=some (rs,ws)):Qw P C A ws a w o:=by
 cases hdst:o.dst with
 |none=>
  rw [hdst] at h
  cases hop:o.op<;>rw [hop] at h<;>try (simp [Qg,Ev.run] at h;done)
  case store t x y=>exact JU2 hR hdst hop h
  case call c=>
   simp only [Qg] at h
   cases hb:c.callee with
   |builtin b=>
    simp only [hb] at h
    by_cases hq:JEc b=true
    ·rw [if_pos hq] at h;exact JUc hR hdst hq hop hb h
    ·rw [if_neg hq] at h;simp [Ev.run] at h
   |_=>simp [hb,Ev.run] at h
 |some d=>
  have hd:=hd d hdst
  rw [hdst] at h
  cases hop:o.op<;>rw [hop] at h<;>try (simp [Qg,Ev.run] at h;done)
  case move x=>exact JOK hR hdst hd (.inl hop) h
  case assign x=>exact JOK hR hdst hd (.inr hop) h
  case pick c x y=>exact JUx hR hdst hd hop h
  case alloc t=>exact JUT hR hdst hd hop h
  case box t x=>exact JUX hR hdst hd hop h
  case build t ps=>exact JUZ hR hdst hd hop h
  case buildSlice t n ps=>exact JUa hR hdst hd hop h
  case load t x=>exact JUq hR hdst hd hop h
  case nilCheck x=>exact JUt hR hdst hd hop h
  case binOp op t x y t'=>exact JUW hR hdst hd hop h
  case unOp op t x=>exact JU3 hR hdst hd hop h
  case convert t t' x=>exact JUf hR hdst hd hop h
  case makeInterface t x=>exact JUk hR hdst hd hop h
  case makeFunc fn first cs=>
   simp only [Qg] at h
   split at h
   ·rename_i hf;exact JUj hR hdst hd hf hop h
   ·simp [Ev.run] at h
  case range t x=>exact JUz hR hdst hd hop h
  case next x b=>
   simp only [Qg] at h
   split at h
   ·rename_i hb;subst hb;exact JUs hR hdst hd hop h
   ·simp [Ev.run] at h
  case makeSlice t l c=>exact JUr hR hdst hd hop h
  case slice t x lo hi mx=>
   cases mx with
   |none=>exact JU0 hR hdst hd hop h
   |some m=>simp [Qg,Ev.run] at h
  case field t x f=>exact JUh hR hdst hd hop h
  case index t x ix=>exact JUl hR hdst hd hop h
  case fieldAddr t x f=>exact JUi hR hdst hd hop h
  case indexAddr t x ix=>exact JUm hR hdst hd hop h
  case extract x i=>exact JUg hR hdst hd hop h
  case call c=>
   simp only [Qg] at h
   cases hb:c.callee with
   |builtin b=>simp only [hb] at h;exact JUb hR hdst hd hop hb h
   |_=>simp [hb,Ev.run] at h
end ops
end Go.Mw
namespace Go.Mw
open Go.RowKit
def FL.ren (r:Nat→Nat):FL→FL
 |.d x=>.d x
 |.own o i j t=>.own (r o) i j t
 |.obj o=>.obj (r o)
 |.dead=>.dead
def AL.ren (r:Nat→Nat):AL→AL
 |.d x=>.d x
 |.ptr o i=>.ptr (r o) i
 |.eptr o i j t=>.eptr (r o) i j t
 |.own o i j t=>.own (r o) i j t
 |.obj o=>.obj (r o)
 |.fpt fs=>.fpt (fs.map (·.ren r))
 |.csl o i j=>.csl (r o) i j
 |.dead=>.dead
def AV.ren (r:Nat→Nat):AV→AV
 |.val ag ls=>.val ag (ls.map (·.ren r))
 |.tup cs=>.tup (cs.map fun c=>(c.1,c.2.map (·.ren r)))
 |.cnd b v=>.cnd b (v.ren r)
 |.dead=>.dead
def AO.ren (r:Nat→Nat):AO→AO
 |.cells ls=>.cells (ls.map (·.ren r))
 |.arr e k es=>.arr e k es
 |.clo f ls=>.clo f (ls.map (·.ren r))
 |.yl=>.yl
 |.map es=>.map (es.map fun p=>(p.1,p.2.1,p.2.2.map (·.ren r)))
 |.mth f ls=>.mth f (ls.map (·.ren r))
 |.pin v l=>.pin v (l.ren r)
 |.iter ls n s c=>.iter (ls.map (·.ren r)) n s c
 |.sit s p=>.sit s p
 |.byt b c l=>.byt b c l
inductive Jh.Leaf:Jh→AV→List (Nat × AO)→Prop
 |ret (res:AV) (obs:List (Nat × AO)):Leaf (.ret res obs) res obs
 |yld {args:List AV} {k:Bool→Jh} {res:AV} {obs:List (Nat × AO)} (r:Bool) (h:Leaf (k r) res obs):Leaf (.yld args k) res obs
theorem Jh.Leaf.inv {res res':AV}{obs obs':List (Nat × AO)}(h:Jh.Leaf (.ret res obs) res' obs'):res'=res∧obs'=obs:=by cases h;exact ⟨rfl,rfl⟩
def JKY (x x':AO)(v u:Value):Prop:=match x,x' with
 |.arr _ _ es,.arr _ _ es'=>es.length≤es'.length∧(es'.length=es.length→v=u)
 |.arr _ _ _,_=>True
 |_,.arr _ _ _=>True
 |_,_=>v=u
structure JBb (S:Jc) (pre:List (Nat × AO)) (ι:Nat→Value) (l:Nat) (res:AV) (obs:List (Nat × AO)) (v:Value) (S':Jc) (M':J7) (ι':Nat→Value) (w':World):Prop where
 sub:∀b o,S b o→S' b o
 new:∀b o,S' b o→S b o∨M' b
 inn:∀b o,S' b o→b<w'.heap.size
 minn:∀b,M' b→b<w'.heap.size
 res:Jk S' ι' (look obs) w' res v
 objs:∀o x,look obs o=some x→Yw S' ι' (look obs) w' o x
 dis:∀o o' x x' b,look obs o=some x→look obs o'=some x' → o≠o' → blk (ι' o)=some b→blk (ι' o')≠some b
 own:∀o x b,look obs o=some x→blk (ι' o)=some b→M' b
 tok:∀o,look obs o=some .yl→ι' o=.func (.yield l) #[] #[]
 same:∀o x x',look pre o=some x→look obs o=some x' → JKY x x' (ι' o) (ι o)
def Qq (P:Program)(f:FuncId)(args:List AV)(pre:List (Nat × AO))(b:Jh):Prop:=
 ∀(E:Env P) (S:Jc) (M:J7) (ι:Nat→Value) (w:World) (vs:List Value),(∀b o,S b o→b<w.heap.size)→(∀k,M k→k<w.heap.size) →
  (∀o x,look pre o=some x→Yw S ι (look pre) w o x) →
  (∀o o' x x' b,look pre o=some x→look pre o'=some x' → o≠o' → blk (ι o)=some b→blk (ι o')≠some b) →
  (∀o x b,look pre o=some x→blk (ι o)=some b→M b) →
  (∀o,look pre o=some .yl→ι o=.func (.yield E.l) #[] #[]) →
  JS (Jk S ι (look pre) w) args vs→E.J b S M w →
  CallsIn Fence.wide 0 P f vs.toArray w fun e w'=>∃v res obs S' M' ι',e=.returned v∧b.Leaf res obs∧E.J (.ret res obs) S' M' w' ∧ JBb S pre ι E.l res obs v S' M' ι' w'
def Jb (P:Program)(f:FuncId)(args:List AV)(res:AV)(obs:List (Nat × AO)):Prop:=Qq P f args [] (.ret res obs)
def Wk (x y:AV):Prop:=∀(S:Jc) (ι:Nat→Value) (H:Nat→Option AO) (w:World) (v:Value),Jk S ι H w x v→Jk S ι H w y v
def JO (P:Program)(f:FuncId):Bool:=match P.funcs[f]? with
 |some fn=>!(fn.name == "runtime.NumGoroutine")&&fn.body.isSome
 |none=>false
theorem JCN {P:Program}{f:FuncId}(h:JO P f=true)(args:Array Value)(w:World):(callFunc f args).run P w=.ok (.enter f args) w:=by
 unfold JO at h
 cases hf:P.funcs[f]? with
 |none=>simp [hf] at h
 |some fn=>
  simp only [hf,Bool.and_eq_true,Bool.not_eq_true'] at h
  have hb:fn.body.isNone=false:=by cases hb:fn.body<;>simp_all
  simp only [callFunc,Sem.run_bind,run_program,Result.andThen_ok,hf,h.1,hb,Bool.false_eq_true,if_false,Sem.run_pure]
def Yy:Op→Option (Operand × List Operand)
 |.call c=>match c.callee with
  |.value f=>some (f,c.args.toList)
  |_=>none
 |_=>none
def Ql (pre:List (Nat × AO)):List Nat:=pre.map Prod.fst
def FL.inn (ns:List Nat):FL→Bool
 |.d _=>true
 |.own o _ _ _=>ns.contains o
 |.obj o=>ns.contains o
 |.dead=>true
def AL.inn (ns:List Nat):AL→Bool
 |.d _=>true
 |.ptr o _=>ns.contains o
 |.eptr o _ _ _=>ns.contains o
 |.own o _ _ _=>ns.contains o
 |.obj o=>ns.contains o
 |.fpt fs=>fs.all (FL.inn ns)
 |.csl o _ _=>ns.contains o
 |.dead=>true
def AV.inn (ns:List Nat):AV→Bool
 |.val _ ls=>ls.all (AL.inn ns)
 |.tup cs=>cs.all fun c=>c.2.all (AL.inn ns)
 |.cnd _ v=>v.inn ns
 |.dead=>true
def AO.inn (ns:List Nat):AO→Bool
 |.cells ls=>ls.all (AL.inn ns)
 |.arr _ _ _=>true
 |.clo _ ls=>ls.all (AL.inn ns)
 |.yl=>true
 |.map es=>es.all fun p=>p.2.2.all (AL.inn ns)
 |.mth _ ls=>ls.all (AL.inn ns)
 |.pin _ l=>l.inn ns
 |.iter ls _ _ _=>ls.all (AL.inn ns)
 |.sit _ _=>true
 |.byt _ _ _=>true
def rn (lend:List (Nat × Nat))(B:Nat)(q:Nat):Nat:=match look lend q with
 |some n=>n
 |none=>B+q
def LLe (l l':AL):Prop:=l'=l∨l'=.dead
def QI (y x:AO):Prop:=match x with
 |.cells ls'=>∃ls,y=.cells ls∧JS LLe ls ls'
 |.clo f ls'=>∃ls,y=.clo f ls∧JS LLe ls ls'
 |x=>y=x
theorem LLe.refl (l:AL):LLe l l:=.inl rfl
theorem JGf:∀(ls:List AL),JS LLe ls ls
 |[]=>trivial
 |l::ls=>⟨.inl rfl,JGf ls⟩
theorem QI.refl (x:AO):QI x x:=by
 cases x with
 |cells ls=>exact ⟨ls,rfl,JGf ls⟩
 |clo f ls=>exact ⟨ls,rfl,JGf ls⟩
 |_=>rfl
def Z8 (x x':AO):Prop:=match x with
 |.cells _=>∃ls',x'=.cells ls'
 |.arr e k es=>∃es',x'=.arr e k es' ∧ es.length≤es'.length
 |_=>x'.whole=true
structure Z0 (A:JE) (B:Nat) (lend:List (Nat × Nat)) (pre:List (Nat × AO)) (b:Jh):Prop where
 lent:∀q x,look pre q=some x→∃n y,look lend q=some n∧A.obj n=some y∧QI y (x.ren (rn lend B))∧x.inn (Ql pre)=true
 only:∀q n,look lend q=some n→∃x,look pre q=some x
 inj:∀q q' n,look lend q=some n→look lend q'=some n→q=q'
 tag:∀q n ls,look lend q=some n→look pre q=some (.cells ls)→ZF (n%1000)=ZF (q%1000)
 back:∀res obs,b.Leaf res obs→(∀q x,look pre q=some x→∃x',look obs q=some x' ∧ Z8 x x')∧(∀q x',look obs q=some x' → look lend q=none→A.obj (B+q)=none)
def after (A:JE)(d:Nat)(r:Nat→Nat)(res:AV)(obs:List (Nat × AO))(b:Jh):JE:=⟨(d,res.ren r)::A.tm,obs.map (fun p=>(r p.1,p.2.ren r))++A.ob,b⟩
section ren
theorem JTx {S:Jc}{ι ι':Nat→Value}{H H':Nat→Option AO}{w:World}{r:Nat→Nat}(hι:∀q x,H q=some x→ι' (r q)=ι q)(hH:∀q x,H q=some x→H' (r q)=some (x.ren r))
  {l:FL} {v:Value} (h:ZQ S ι H w l v):ZQ S ι' H' w (l.ren r) v:=by
 cases l with
 |d x=>exact h
 |own q off len Ji=>
  obtain ⟨h0,e,k,es,h1,h2,h3⟩:=h
  exact ⟨h0,e,k,es,hH q _ h1,h2,fun he=>by rw [hι q _ h1];exact h3 he⟩
 |obj q=>
  obtain ⟨h0,h1,x,h2,h3⟩:=h
  exact ⟨h0,h1.trans (hι q _ h2).symm,_,hH q _ h2,by cases x<;>first|rfl|simp [AO.whole] at h3⟩
 |dead=>exact h
theorem JHK {fs:List FL}{φ:FL→FL}{Q Q':Nat→FL→Prop}(h:∀j f,fs[j]? = some f→Q j f)(hφ:∀j f,Q j f→Q' j (φ f)):∀j f,(fs.map φ)[j]? = some f→Q' j f:=by
 intro j f hj
 rw [List.getElem?_map] at hj
 cases hf:fs[j]? with
 |none=>simp [hf] at hj
 |some g=>simp only [hf,Option.map_some,Option.some.injEq] at hj;subst hj;exact hφ j g (h j g hf)
theorem JDc {S:Jc}{ι ι':Nat→Value}{H H':Nat→Option AO}{w:World}{r:Nat→Nat}(hι:∀q x,H q=some x→ι' (r q)=ι q)(hH:∀q x,H q=some x→H' (r q)=some (x.ren r))
  {l:AL} {v:Value} (h:Jd S ι H w l v):Jd S ι' H' w (l.ren r) v:=by
 cases l with
 |d x=>exact h
 |ptr q off=>
  obtain ⟨ls,b,h1,h2,h3⟩:=h
  exact ⟨_,b,hH q _ h1,(hι q _ h1).trans h2,h3⟩
 |eptr q i j Ji=>
  obtain ⟨h0,e,k,es,h1,h2,h3⟩:=h
  exact ⟨h0,e,k,es,hH q _ h1,h2,fun he=>by rw [hι q _ h1];exact h3 he⟩
 |own q off len Ji=>
  obtain ⟨h0,e,k,es,h1,h2,h3⟩:=h
  exact ⟨h0,e,k,es,hH q _ h1,h2,fun he=>by rw [hι q _ h1];exact h3 he⟩
 |obj q=>
  obtain ⟨h0,h1,x,h2,h3⟩:=h
  exact ⟨h0,h1.trans (hι q _ h2).symm,_,hH q _ h2,by cases x<;>first|rfl|simp [AO.whole] at h3⟩
 |fpt fs=>
  obtain ⟨b,off,hv,hf⟩:=h
  exact ⟨b,off,hv,JHK hf fun j f ⟨h1,u,h2,h3⟩=>⟨h1,u,h2,JTx hι hH h3⟩⟩
 |csl q off len=>
  obtain ⟨ls,b,c,h1,h2,h3⟩:=h
  exact ⟨_,b,c,hH q _ h1,(hι q _ h1).trans h2,h3⟩
 |dead=>exact h
theorem JJw {S:Jc}{ι ι':Nat→Value}{H H':Nat→Option AO}{w:World}{r:Nat→Nat}(hι:∀q x,H q=some x→ι' (r q)=ι q)(hH:∀q x,H q=some x→H' (r q)=some (x.ren r))
  {ag:Bool} {ls:List AL} {v:Value} (h:Qv S ι H w ag ls v):Qv S ι' H' w ag (ls.map (·.ren r)) v:=by
 cases ag with
 |true=>obtain ⟨vs,hv,ha⟩:=h;exact ⟨vs,hv,Ya (R:=Jd S ι H w) (R':=Jd S ι' H' w) (·.ren r) (fun _ _ h=>JDc hι hH h) ha⟩
 |false=>obtain ⟨l,rfl,ha⟩:=h;exact ⟨_,rfl,JDc hι hH ha⟩
theorem JJy {S:Jc}{ι ι':Nat→Value}{H H':Nat→Option AO}{w:World}{r:Nat→Nat}(hι:∀q x,H q=some x→ι' (r q)=ι q)(hH:∀q x,H q=some x→H' (r q)=some (x.ren r))
  : ∀ {x:AV} {v:Value},Jk S ι H w x v→Jk S ι' H' w (x.ren r) v
 |.val ag ls,_,h=>JJw hι hH h
 |.cnd _ x,_,h=>⟨fun hb=>JJy hι hH (x:=x) (h.1 hb),h.2⟩
 |.tup cs,_,h=>by obtain ⟨vs,hv,ha⟩:=h;exact ⟨vs,hv,Ya (R:=fun (c:Bool × List AL) u=>Qv S ι H w c.1 c.2 u) (R':=fun (c:Bool × List AL) u=>Qv S ι' H' w c.1 c.2 u) (fun c=>(c.1,c.2.map (·.ren r))) (fun _ _ h=>JJw hι hH h) ha⟩
 |.dead,_,_=>trivial
theorem JMv {S:Jc}{ι ι':Nat→Value}{H H':Nat→Option AO}{w:World}{r:Nat→Nat}(hι:∀q x,H q=some x→ι' (r q)=ι q)(hH:∀q x,H q=some x→H' (r q)=some (x.ren r))
  {q:Nat} {x:AO} (hτ:∀ls,x=.cells ls→ZF (r q%1000)=ZF (q%1000)) (hq:H q=some x) (h:Yw S ι H w q x):Yw S ι' H' w (r q) (x.ren r):=by
 cases x with
 |cells ls=>
  obtain ⟨b,vs,el,h1,h2,h3,h5⟩:=h
  exact ⟨b,vs,el,(hι q _ hq).trans h1,h2,Ya (R:=Jd S ι H w) (R':=Jd S ι' H' w) (·.ren r) (fun _ _ h=>JDc hι hH h) h3,h5.1,fun t ht=>h5.2 t (by rw [←hτ ls rfl];exact ht)⟩
 |arr e k es=>
  obtain ⟨xs,h1,h2,h3,h4,h5⟩:=h
  exact ⟨xs,by rw [hι q _ hq];exact h1,h2,h3,h4,fun b hb=>h5 b (hι q _ hq▸hb)⟩
 |clo f ls=>
  obtain ⟨vs,h1,h2⟩:=h
  exact ⟨vs,(hι q _ hq).trans h1,Ya (R:=Jd S ι H w) (R':=Jd S ι' H' w) (·.ren r) (fun _ _ h=>JDc hι hH h) h2⟩
 |yl=>obtain ⟨l,h1⟩:=h;exact ⟨l,(hι q _ hq).trans h1⟩
 |map es=>
  obtain ⟨b,qs,ck,h1,h2,h3,h5⟩:=h
  exact ⟨b,qs,ck,(hι q _ hq).trans h1,h2,Ya (R:=Zl S ι H w) (R':=Zl S ι' H' w) (fun p=>(p.1,p.2.1,p.2.2.map (·.ren r))) (fun _ _ h=>⟨h.1,JJw hι hH h.2⟩) h3,h5⟩
 |pin v l=>exact ⟨(hι q _ hq).trans h.1,JDc hι hH h.2⟩
 |mth f ls=>
  obtain ⟨vs,h1,h2⟩:=h
  exact ⟨vs,(hι q _ hq).trans h1,Ya (R:=Jd S ι H w) (R':=Jd S ι' H' w) (·.ren r) (fun _ _ h=>JDc hι hH h) h2⟩
 |iter ls n sn c=>
  obtain ⟨b,m,h1,h2,h3,h5⟩:=h
  exact ⟨b,m,(hι q _ hq).trans h1,h2,Ya (R:=Jd S ι H w) (R':=Jd S ι' H' w) (·.ren r) (fun _ _ h=>JDc hι hH h) h3,h5⟩
 |sit s p=>
  obtain ⟨b,h1,h2,h5⟩:=h
  exact ⟨b,(hι q _ hq).trans h1,h2,h5⟩
 |byt b c l=>exact ⟨(hι q _ hq).trans h.1,h.2⟩
theorem JTy {S:Jc}{ι:Nat→Value}{H:Nat→Option AO}{w:World}{r:Nat→Nat}{pre:List (Nat × AO)}(hH:∀q∈Ql pre,∃x y,look pre q=some x∧H (r q)=some y∧QI y (x.ren r))
  {l:FL} {v:Value} (hl:l.inn (Ql pre)=true) (h:ZQ S ι H w (l.ren r) v):ZQ S (fun q=>ι (r q)) (look pre) w l v:=by
 cases l with
 |d x=>exact h
 |own q off len Ji=>
  obtain ⟨h0,e,k,es,h1,h2,h3⟩:=h
  obtain ⟨x,y,hx,hy,hle⟩:=hH q (by simpa [FL.inn] using hl)
  rw [h1] at hy;cases hy
  cases x<;>simp only [AO.ren,QI] at hle
  case arr e' k' es'=>cases hle;exact ⟨h0,e,k,es,hx,h2,h3⟩
  all_goals (first|(obtain ⟨_,h,_⟩:=hle;cases h)|cases hle)
 |obj q=>
  obtain ⟨h0,h1,z,h2,h3⟩:=h
  obtain ⟨x,y,hx,hy,hle⟩:=hH q (by simpa [FL.inn] using hl)
  rw [h2] at hy;cases hy
  refine ⟨h0,h1,x,hx,?_⟩
  cases x<;>simp only [AO.ren,QI] at hle<;>first|rfl|(subst hle;simp [AO.whole] at h3)|(obtain ⟨_,h,_⟩:=hle;subst h;simp [AO.whole] at h3)
 |dead=>exact h
theorem JDd {S:Jc}{ι:Nat→Value}{H:Nat→Option AO}{w:World}{r:Nat→Nat}{pre:List (Nat × AO)}(hH:∀q∈Ql pre,∃x y,look pre q=some x∧H (r q)=some y∧QI y (x.ren r))
  {l:AL} {v:Value} (hl:l.inn (Ql pre)=true) (h:Jd S ι H w (l.ren r) v):Jd S (fun q=>ι (r q)) (look pre) w l v:=by
 cases l with
 |d x=>exact h
 |ptr q off=>
  obtain ⟨ls,b,h1,h2,h3⟩:=h
  obtain ⟨x,y,hx,hy,hle⟩:=hH q (by simpa [AL.inn] using hl)
  rw [h1] at hy;cases hy
  cases x<;>simp only [AO.ren,QI] at hle
  case cells ls'=>exact ⟨ls',b,hx,h2,h3⟩
  all_goals (first|(obtain ⟨_,h,_⟩:=hle;cases h)|cases hle)
 |eptr q i j Ji=>
  obtain ⟨h0,e,k,es,h1,h2,h3⟩:=h
  obtain ⟨x,y,hx,hy,hle⟩:=hH q (by simpa [AL.inn] using hl)
  rw [h1] at hy;cases hy
  cases x<;>simp only [AO.ren,QI] at hle
  case arr e' k' es'=>cases hle;exact ⟨h0,e,k,es,hx,h2,h3⟩
  all_goals (first|(obtain ⟨_,h,_⟩:=hle;cases h)|cases hle)
 |own q off len Ji=>
  obtain ⟨h0,e,k,es,h1,h2,h3⟩:=h
  obtain ⟨x,y,hx,hy,hle⟩:=hH q (by simpa [AL.inn] using hl)
  rw [h1] at hy;cases hy
  cases x<;>simp only [AO.ren,QI] at hle
  case arr e' k' es'=>cases hle;exact ⟨h0,e,k,es,hx,h2,h3⟩
  all_goals (first|(obtain ⟨_,h,_⟩:=hle;cases h)|cases hle)
 |obj q=>
  obtain ⟨h0,h1,z,h2,h3⟩:=h
  obtain ⟨x,y,hx,hy,hle⟩:=hH q (by simpa [AL.inn] using hl)
  rw [h2] at hy;cases hy
  refine ⟨h0,h1,x,hx,?_⟩
  cases x<;>simp only [AO.ren,QI] at hle<;>first|rfl|(subst hle;simp [AO.whole] at h3)|(obtain ⟨_,h,_⟩:=hle;subst h;simp [AO.whole] at h3)
 |fpt fs=>
  obtain ⟨b,off,hv,hf⟩:=h
  refine ⟨b,off,hv,fun j f hj=>?_⟩
  obtain ⟨h1,u,h2,h3⟩:=hf j (f.ren r) (by rw [List.getElem?_map,hj];rfl)
  exact ⟨h1,u,h2,JTy hH (List.all_eq_true.1 hl f (List.mem_of_getElem? hj)) h3⟩
 |csl q off len=>
  obtain ⟨ls,b,c,h1,h2,h3⟩:=h
  obtain ⟨x,y,hx,hy,hle⟩:=hH q (by simpa [AL.inn] using hl)
  rw [h1] at hy;cases hy
  cases x<;>simp only [AO.ren,QI] at hle
  case cells ls'=>exact ⟨ls',b,c,hx,h2,h3⟩
  all_goals (first|(obtain ⟨_,h,_⟩:=hle;cases h)|cases hle)
 |dead=>exact h
theorem JCT {α β γ:Type}{R:γ→β→Prop}{R':α→β→Prop}(f:α→γ)(p:α→Bool)(h:∀a b,p a=true→R (f a) b→R' a b):∀ {l:List α} {m:List β},l.all p=true→JS R (l.map f) m→JS R' l m
 |[],[],_,_=>trivial
 |_::_,_::_,hp,hh=>by
  simp only [List.all_cons,Bool.and_eq_true] at hp
  exact ⟨h _ _ hp.1 hh.1,JCT f p h hp.2 hh.2⟩
 |[],_::_,_,hh=>hh.elim
 |_::_,[],_,hh=>hh.elim
section un
variable {S:Jc} {ι:Nat→Value} {H:Nat→Option AO} {w:World} {r:Nat→Nat} {pre:List (Nat × AO)} (hH:∀q∈Ql pre,∃x y,look pre q=some x∧H (r q)=some y∧QI y (x.ren r))
include hH
theorem JJx {ag:Bool}{ls:List AL}{v:Value}(hl:ls.all (·.inn (Ql pre))=true)(h:Qv S ι H w ag (ls.map (·.ren r)) v):Qv S (fun q=>ι (r q)) (look pre) w ag ls v:=by
 cases ag with
 |true=>obtain ⟨vs,hv,ha⟩:=h;exact ⟨vs,hv,JCT (R:=Jd S ι H w) (AL.ren r) (AL.inn (Ql pre)) (fun _ _ h1 h2=>JDd hH h1 h2) hl ha⟩
 |false=>
  obtain ⟨l,hl',ha⟩:=h
  match ls,hl' with
  |[l0],hl'=>
   simp only [List.map_cons,List.map_nil,List.cons.injEq,and_true] at hl'
   subst hl'
   exact ⟨l0,rfl,JDd hH JB2 ha⟩
theorem JJz:∀ {x:AV} {v:Value},x.inn (Ql pre)=true→Jk S ι H w (x.ren r) v→Jk S (fun q=>ι (r q)) (look pre) w x v
 |.val ag ls,_,hl,h=>JJx hH hl h
 |.cnd _ x,_,hl,h=>⟨fun hb=>JJz (x:=x) hl (h.1 hb),h.2⟩
 |.tup cs,_,hl,h=>by
  obtain ⟨vs,hv,ha⟩:=h
  exact ⟨vs,hv,JCT (R:=fun (c:Bool × List AL) u=>Qv S ι H w c.1 c.2 u) (fun c=>(c.1,c.2.map (·.ren r))) (fun (c:Bool × List AL)=>c.2.all (AL.inn (Ql pre))) (fun _ _ h1 h2=>JJx hH h1 h2) hl ha⟩
 |.dead,_,_,_=>trivial
omit hH in
theorem JJG {ls ls':List AL}{vs:List Value}(h:JS LLe ls ls')(hr:JS (Jd S ι H w) ls vs):JS (Jd S ι H w) ls' vs:=by
 induction ls generalizing ls' vs with
 |nil=>cases ls' with
  |nil=>exact hr
  |cons _ _=>exact h.elim
 |cons l ls ih=>cases ls' with
  |nil=>exact h.elim
  |cons l' ls'=>cases vs with
   |nil=>exact hr.elim
   |cons v vs=>
    refine ⟨?_,ih h.2 hr.2⟩
    rcases h.1 with rfl|rfl
    ·exact hr.1
    ·exact Jd.one S ι H w hr.1
theorem JMw {q:Nat}{x y:AO}(hτ:∀ls,x=.cells ls→∀t,ZF (q%1000)=some t→ZF (r q%1000)=some t)(hle:QI y (x.ren r))(hin:x.inn (Ql pre)=true)(h:Yw S ι H w (r q) y):Yw S (fun q=>ι (r q)) (look pre) w q x:=by
 cases x with
 |cells ls'=>
  obtain ⟨ls,rfl,hls⟩:=hle
  obtain ⟨b,vs,el,h1,h2,h3,h5⟩:=h
  exact ⟨b,vs,el,h1,h2,JCT (R:=Jd S ι H w) (AL.ren r) (AL.inn (Ql pre)) (fun _ _ h1 h2=>JDd hH h1 h2) hin (JJG hls h3),h5.1,fun t ht=>h5.2 t (hτ _ rfl t ht)⟩
 |arr e k es=>cases hle;exact h
 |clo f ls'=>
  obtain ⟨ls,rfl,hls⟩:=hle
  obtain ⟨vs,h1,h3⟩:=h
  exact ⟨vs,h1,JCT (R:=Jd S ι H w) (AL.ren r) (AL.inn (Ql pre)) (fun _ _ h1 h2=>JDd hH h1 h2) hin (JJG hls h3)⟩
 |yl=>cases hle;exact h
 |map es=>
  cases hle
  obtain ⟨b,qs,ck,h1,h2,h3,h5⟩:=h
  exact ⟨b,qs,ck,h1,h2,JCT (R:=Zl S ι H w) (fun p=>(p.1,p.2.1,p.2.2.map (·.ren r))) (fun (p:Value × Bool × List AL)=>p.2.2.all (AL.inn (Ql pre))) (fun _ _ h1 h2=>⟨h2.1,JJx hH h1 h2.2⟩) hin h3,h5⟩
 |pin v l=>cases hle;exact ⟨h.1,JDd hH hin h.2⟩
 |mth f ls=>
  cases hle
  obtain ⟨vs,h1,h3⟩:=h
  exact ⟨vs,h1,JCT (R:=Jd S ι H w) (AL.ren r) (AL.inn (Ql pre)) (fun _ _ h1 h2=>JDd hH h1 h2) hin h3⟩
 |iter ls n sn c=>
  cases hle
  obtain ⟨b,m,h1,h2,h3,h5⟩:=h
  exact ⟨b,m,h1,h2,JCT (R:=Jd S ι H w) (AL.ren r) (AL.inn (Ql pre)) (fun _ _ h1 h2=>JDd hH h1 h2) hin h3,h5⟩
 |sit s p=>cases hle;exact h
 |byt b c l=>cases hle;exact h
end un
end ren
def Env.frame {P:Program}(E:Env P)(g:Jh→Jh)(hg:∀a k,g (.yld a k)=.yld a fun r=>g (k r))(S0:Jc)(M0 L:J7)(w0:World)(h0:∀k,M0 k→k<w0.heap.size):Env P where
 l:=E.l
 J b S M w:=E.J (g b) S (fun k=>M0 k∨M k) w∧(∀k,M0 k→¬L k→w.heap[k]? = w0.heap[k]?)∧(∀k,M k→L k∨w0.heap.size≤k)∧w0.heap.size≤w.heap.size ∧
  (∀b o,S0 b o→S b o∧w.cell? ⟨b,o,none⟩=w0.cell? ⟨b,o,none⟩)∧w.os=w0.os∧w.tape=w0.tape∧w.output=w0.output
 glob:=fun h=>E.glob h.1
 step:=by
  intro b S M w S' M' w' ⟨h1,h2,h3,h4,h5,h6,h7,h8⟩ hf hM hN hS hT
  have hN':∀k,M' k→L k∨w0.heap.size≤k:=fun k hk=>by
   rcases hN k hk with h|h
   ·exact h3 k h
   ·exact .inr (by omega)
  refine ⟨E.step h1 ⟨hf.os,hf.tape,hf.output,hf.size,fun k hk hn=>hf.block k hk fun h=>hn (.inr h),hf.cell⟩ (fun k hk=>hk.imp id (hM k)) ?_ hS fun k o hk=>(hT k o hk).imp id .inr,?_,hN',Nat.le_trans h4 hf.size,fun b o hb=>⟨hS _ _ (h5 b o hb).1,(hf.cell b o (h5 b o hb).1).trans (h5 b o hb).2⟩,hf.os.trans h6,hf.tape.trans h7,hf.output.trans h8⟩
  ·intro k hk
   rcases hk with hk|hk
   ·exact .inl (.inl hk)
   ·exact (hN k hk).imp .inr id
  ·intro k hk hL
   refine (hf.block k (Nat.lt_of_lt_of_le (h0 k hk) h4) fun hm=>?_).trans (h2 k hk hL)
   rcases h3 k hm with h|h
   ·exact hL h
   ·have:=h0 k hk;omega
 yld:=by
  intro args k S M w vs ⟨h1,h2,h3,h4,h5,h6,h7,h8⟩ hvs
  rw [hg] at h1
  obtain ⟨fn,tmps,assign,body,hy,hR⟩:=E.yld h1 hvs
  refine ⟨fn,tmps,assign,body,hy,hR.mono fun e w' ⟨r,he,hk,hJ⟩=>⟨r,he,⟨hk.os,hk.tape,hk.output,hk.size,fun b hb=>hk.block b (.inr hb),hk.cell⟩,hJ,fun b hb hL=>(hk.block b (.inl hb)).trans (h2 b hb hL),h3,Nat.le_trans h4 hk.size,
   fun b o hb=>⟨(h5 b o hb).1,(hk.cell b o (h5 b o hb).1).trans (h5 b o hb).2⟩,hk.os.trans h6,hk.tape.trans h7,hk.output.trans h8⟩⟩
theorem JPN (κ:AV→List (Nat × AO)→Jh)(a:List AV)(k:Bool→Jh):Jh.bind (.yld a k) κ=.yld a fun r=>(k r).bind κ:=rfl
theorem Env.J_eqv {P:Program}(E:Env P){b:Jh}{S S':Jc}{M M':J7}{w:World}(h:E.J b S M w)(h1:∀k,M k→M' k)(h2:∀k,M' k→M k)(hS:∀k o,S k o→S' k o)(hT:∀k o,S' k o→S k o∨M' k):E.J b S' M' w:=
 E.step h ⟨rfl,rfl,rfl,Nat.le_refl _,fun _ _ _=>rfl,fun _ _ _=>rfl⟩ h1 (fun k hk=>.inl (h2 k hk)) hS hT
end Go.Mw
namespace Go.Mw
open Go.RowKit
def Qb {P:Program}(C:Ctx P):Fence:=match C.rd with
 |none=>Fence.wide
 |some (l,_)=>Fence.wide.inRound l
section fence
variable {P:Program} (C:Ctx P)
theorem JEM (f:FuncId):(Qb C).fn f:=by unfold Qb;cases C.rd<;>trivial
theorem JRk:(Qb C).depth=none:=by unfold Qb;cases C.rd<;>rfl
theorem JDP {q:Prop}:(Qb C).depth.isSome=true→q:=fun h=>by rw [JRk] at h;cases h
theorem JL2:Machine.fenced P (Qb C)=Machine.fenced P Fence.wide:=by unfold Qb;cases C.rd<;>rfl
theorem JEF {n:Nat}{f:FuncId}{args:Array Value}{w:World}{R:Ending→World→Prop}(h:CallsIn Fence.wide 0 P f args w R):CallsIn (Qb C) n P f args w R:=by
 refine ⟨JEM C f,fun cs _=>?_⟩
 rw [JL2]
 exact h.2 cs (room_wide _)
theorem JT2 {n l:Nat}{f:FuncId}{tmps:Array Value}{assign body:Code}{w:World}{R:Ending→World→Prop}(h:RoundIn Fence.wide 0 P l f tmps assign body w R):RoundIn (Qb C) n P l f tmps assign body w R:=by
 refine ⟨JEM C f,fun c cs _=>?_⟩
 rw [JL2]
 exact h.2 c cs (room_wide _)
end fence
section snd
variable {P:Program} {C:Ctx P} {A:JE} {a:Act} {w:World} {o:Oper}
theorem JSb {ρ:Operand→Value}{x:Next}{w':World}(h:(execOp ρ o).run P w=.ok x w')(hx:∀d,x≠.defer d):∀c,o.op≠.defer c:=by
 intro c hc
 have:(execOp ρ o)=(do pure (.defer (←resolve ρ c o.type)):Sem Next):=by simp [execOp,hc]
 rw [this,Sem.run_bind] at h
 cases hr:(resolve ρ c o.type).run P w with
 |ok d w1=>
  rw [hr] at h
  simp only [Result.andThen_ok,Sem.run_pure,Result.ok.injEq] at h
  exact hx _ h.1.symm
 |halt e w1=>rw [hr] at h;simp [Result.andThen] at h
theorem JBZ {x:Next}{w':World}(h:(execOp a.eval o).run P w=.ok x w')(hx:∀d,x≠.defer d){K:Act→World→Prop}{Q:Exit→Act→World→Prop}(hK:o.uponIn (Qb C) 0 P a K Q (.ok x w')):o.wpIn (Qb C) 0 P a w K Q:=by
 refine ⟨fun f _=>JEM C f,?_⟩
 rw [Oper.semAt_eq _ _ _ (JSb h hx),h]
 exact hK
theorem JC6 {ws:List Wr}(h:Qw P C A ws a w o)(Q:Exit→Act→World→Prop):o.wpIn (Qb C) 0 P a w (fun a' w'=>J9 C (A.put ws) a' w') Q:=by
 rcases h with ⟨v,w',h,hR⟩|⟨w',h,hR⟩
 ·exact JBZ h JBE hR
 ·exact JBZ h JBE hR
end snd
def JDp (A:JE)(fv:AV)(g:FuncId)(caps:List AL):Prop:=(∃ds:List D,fv=.leaf (.d (.fn g ds))∧caps=ds.map .d)∨(∃c,fv=.leaf (.obj c)∧A.obj c=some (.clo g caps))
def Jj (r:Nat→Nat)(ns:List Nat)(x y:AV):Prop:=y.inn ns=true∧Wk x (y.ren r)
section look
variable {r:Nat→Nat} {obs:List (Nat × AO)}
def Inj (r:Nat→Nat)(obs:List (Nat × AO)):Prop:=∀q x q' x',look obs q=some x→look obs q'=some x' → r q'=r q→q'=q
theorem JFg {α:Type}:∀ {l:List (Nat × α)} {p:Nat × α},p∈l→∃y,look l p.1=some y
 |[],_,h=>by simp at h
 |(k,v)::l,p,h=>by
  by_cases e:p.1=k
  ·exact ⟨v,by simp [look,e]⟩
  ·rcases List.mem_cons.1 h with h|h
   ·subst h;exact absurd rfl e
   ·obtain ⟨y,hy⟩:=JFg h
    exact ⟨y,by simp [look,e,hy]⟩
theorem JJO (ob:List (Nat × AO)):∀ {obs:List (Nat × AO)} {q:Nat} {x:AO},look obs q=some x→(∀q' x',look obs q'=some x' → r q'=r q→q'=q)→look (obs.map (fun p=>(r p.1,p.2.ren r))++ob) (r q)=some (x.ren r)
 |[],_,_,h,_=>by simp [look] at h
 |(q0,x0)::obs,q,x,h,hinj=>by
  simp only [List.map_cons,List.cons_append,look]
  by_cases e:r q=r q0
  ·have:q0=q:=hinj q0 x0 (by simp [look]) e.symm
   subst this
   simp only [look,if_true,Option.some.injEq] at h
   subst h
   simp
  ·have hne:q≠q0:=fun h=>e (by rw [h])
   rw [if_neg e]
   simp only [look,if_neg hne] at h
   refine JJO ob h fun q' x' hq' hr=>?_
   by_cases hq0:q'=q0
   ·subst hq0;exact absurd hr.symm e
   ·exact hinj q' x' (by simp [look,hq0,hq']) hr
theorem JFh (ob:List (Nat × AO)){n:Nat}:∀ {obs:List (Nat × AO)},(∀q x,look obs q=some x→n≠r q)→look (obs.map (fun p=>(r p.1,p.2.ren r))++ob) n=look ob n
 |[],_=>rfl
 |(q0,x0)::obs,h=>by
  simp only [List.map_cons,List.cons_append,look]
  rw [if_neg (h q0 x0 (by simp [look]))]
  refine JFh ob fun q x hq=>?_
  by_cases e:q=q0
  ·subst e;exact h q x0 (by simp [look])
  ·exact h q x (by simp [look,e,hq])
theorem JEU (ob:List (Nat × AO))(hinj:Inj r obs){n:Nat}{y:AO}(h:look (obs.map (fun p=>(r p.1,p.2.ren r))++ob) n=some y) :
  (∃q x,n=r q∧look obs q=some x∧y=x.ren r)∨((∀q x,look obs q=some x→n≠r q)∧look ob n=some y):=by
 by_cases hex:∃q x,look obs q=some x∧n=r q
 ·obtain ⟨q,x,hq,rfl⟩:=hex
  rw [JJO ob hq fun q' x' hq' hr=>hinj q x q' x' hq hq' hr] at h
  simp only [Option.some.injEq] at h
  exact .inl ⟨q,x,rfl,hq,h.symm⟩
 ·have hno:∀q x,look obs q=some x→n≠r q:=fun q x hq e=>hex ⟨q,x,hq,e⟩
  rw [JFh ob hno] at h
  exact .inr ⟨hno,h⟩
def JDS (r:Nat→Nat)(obs:List (Nat × AO))(ι ι':Nat→Value)(n:Nat):Value:=match obs.find? (fun p=>r p.1==n) with
 |some p=>ι' p.1
 |none=>ι n
theorem JA3 {ι ι':Nat→Value}(hinj:Inj r obs){q:Nat}{x:AO}(h:look obs q=some x):JDS r obs ι ι' (r q)=ι' q:=by
 unfold JDS
 cases hf:obs.find? (fun p=>r p.1==r q) with
 |none=>
  obtain ⟨y,hy⟩:∃y,(q,y)∈obs:=by
   clear hf hinj
   induction obs with
   |nil=>simp [look] at h
   |cons p l ih=>
    obtain ⟨k,v⟩:=p
    by_cases e:q=k
    ·subst e;exact ⟨v,by simp⟩
    ·simp only [look,if_neg e] at h
     obtain ⟨y,hy⟩:=ih h
     exact ⟨y,by simp [hy]⟩
  have:=List.find?_eq_none.1 hf _ hy
  simp at this
 |some p=>
  have hp:=List.find?_some hf
  simp only [beq_iff_eq] at hp
  obtain ⟨y,hy⟩:=JFg (List.mem_of_find?_eq_some hf)
  show ι' p.1=ι' q
  rw [hinj q x p.1 y h hy hp]
theorem JBN {ι ι':Nat→Value}{n:Nat}(h:∀q x,look obs q=some x→n≠r q):JDS r obs ι ι' n=ι n:=by
 unfold JDS
 cases hf:obs.find? (fun p=>r p.1==n) with
 |none=>rfl
 |some p=>
  have hp:=List.find?_some hf
  simp only [beq_iff_eq] at hp
  obtain ⟨y,hy⟩:=JFg (List.mem_of_find?_eq_some hf)
  exact absurd hp.symm (h p.1 y hy)
end look
section call
variable {P:Program} {C:Ctx P} {S:Jc} {M:J7} {ι:Nat→Value} {A:JE} {a:Act} {w w':World} {o:Oper} {d:Nat}
theorem JDp.rep (hR:Jg C S M ι A a w){fv:AV}{g:FuncId}{caps:List AL}(h:JDp A fv g caps){v:Value}(hv:Jk S ι A.obj w fv v):∃us:List Value,v=.func (.func g) #[] us.toArray∧JS (Jd S ι A.obj w) caps us:=by
 rcases h with ⟨ds,rfl,rfl⟩|⟨c,rfl,hc⟩
 ·have hv:=Jl hv
  cases hv with
  |fn _ _ us hl hr=>
   refine ⟨us,rfl,JS.ofGet Zs fun i x v hx hv=>?_⟩
   simp only [List.getElem?_map,Option.map_eq_some_iff] at hx
   obtain ⟨y,hy,rfl⟩:=hx
   exact hr i y v hy hv
 ·obtain ⟨_,hv,_⟩:=Jl hv
  obtain ⟨us,h1,h2⟩:=hR.objs c _ hc
  exact ⟨us,hv.trans h1,h2⟩
def JCI (ι:Nat→Value)(lend:List (Nat × Nat))(pre:List (Nat × AO)):J7:=fun k=>∃q n x,look pre q=some x∧look lend q=some n∧blk (ι n)=some k
theorem Z0.inj' {B:Nat}{lend:List (Nat × Nat)}{pre:List (Nat × AO)}{b:Jh}(h:Z0 A B lend pre b){res:AV}{obs:List (Nat × AO)}(hl:b.Leaf res obs):Inj (rn lend B) obs:=by
 intro q x q' x' hq hq' hr
 have hb:=h.back res obs hl
 have hlent:∀q n,look lend q=some n→∃y,A.obj n=some y:=fun q n hn=>by
  obtain ⟨x,hx⟩:=h.only q n hn
  obtain ⟨n',y,hn',hy,_⟩:=h.lent q x hx
  rw [hn] at hn';cases hn'
  exact ⟨y,hy⟩
 unfold rn at hr
 cases h1:look lend q with
 |none=>
  cases h2:look lend q' with
  |none=>simp only [h1,h2] at hr;omega
  |some n=>
   simp only [h1,h2] at hr
   obtain ⟨y,hy⟩:=hlent q' n h2
   rw [hr,hb.2 q x hq h1] at hy;cases hy
 |some n=>
  cases h2:look lend q' with
  |none=>
   simp only [h1,h2] at hr
   obtain ⟨y,hy⟩:=hlent q n h1
   rw [←hr,hb.2 q' x' hq' h2] at hy;cases hy
  |some n'=>
   simp only [h1,h2] at hr
   subst hr
   exact h.inj q' q n' h2 h1
theorem Z0.obj {B:Nat}{lend:List (Nat × Nat)}{pre:List (Nat × AO)}{b:Jh}(h:Z0 A B lend pre b):∀q∈Ql pre,∃x y,look pre q=some x∧A.obj (rn lend B q)=some y∧QI y (x.ren (rn lend B)):=by
 intro q hq
 obtain ⟨p,hp,rfl⟩:=List.mem_map.1 hq
 obtain ⟨x,hx⟩:=JFg hp
 obtain ⟨n,y,hn,hy,hle,_⟩:=h.lent p.1 x hx
 exact ⟨x,y,hx,by unfold rn;rw [hn];exact hy,hle⟩
theorem Jg.called (hR:Jg C S M ι A a w){lend:List (Nat × Nat)}{pre:List (Nat × AO)}{b:Jh}(hok:Z0 A (1000*(d+1)) lend pre b){res:AV}{obs:List (Nat × AO)}(hl:b.Leaf res obs){v:Value}{S':Jc}{M':J7}{ι':Nat→Value}{b':Jh}(hd:C.can d)
  (hp:JBb S pre (fun q=>ι (rn lend (1000*(d+1)) q)) C.E.l res obs v S' M' ι' w') (hE:C.E.J b' S' (fun k=>M k∨M' k) w') (hk:∀k,M k→¬JCI ι lend pre k→w'.heap[k]? = w.heap[k]?)
  (hM:∀k,M' k→JCI ι lend pre k∨w.heap.size≤k) (hsz:w.heap.size≤w'.heap.size) (hc:∀b o,S b o→S' b o∧w'.cell? ⟨b,o,none⟩=w.cell? ⟨b,o,none⟩) :
  J9 C (after A d (rn lend (1000*(d+1))) res obs b') (a.put (some d) v) w':=by
 have hinj:=hok.inj' hl
 have hback:=hok.back res obs hl
 generalize hB:1000*(d+1)=B at *
 generalize hr:rn lend B=r at *
 have rlent:∀q n,look lend q=some n→r q=n:=fun q n h=>by rw [←hr];unfold rn;rw [h]
 have rnew:∀q,look lend q=none→r q=B+q:=fun q h=>by rw [←hr];unfold rn;rw [h]
 have hlentA:∀q n,look lend q=some n→∃x y,look pre q=some x∧A.obj n=some y∧QI y (x.ren r):=fun q n hn=>by
  obtain ⟨x,hx⟩:=hok.only q n hn
  obtain ⟨n',y,hn',hy,hle,_⟩:=hok.lent q x hx
  rw [hn] at hn';cases hn'
  exact ⟨x,y,hx,hy,hr▸hle⟩
 -- an old object that is named like one of the callee's was lent
 have hold:∀n y q x',A.obj n=some y→look obs q=some x' → n=r q→look lend q=some n:=fun n y q x' hn hq e=>by
  cases hl':look lend q with
  |some n'=>rw [e,rlent q n' hl']
  |none=>
   have h1:=hback.2 q x' hq hl'
   rw [e,rnew q hl',h1] at hn;cases hn
 have hlentBlk:∀n y k,A.obj n=some y→(∀q x',look obs q=some x' → n≠r q)→blk (ι n)=some k→¬JCI ι lend pre k:=by
  rintro n y k hn hno hk ⟨q,n',x,hx,hn',hk'⟩
  obtain ⟨x',hx',_⟩:=hback.1 q x hx
  have hne:n≠n':=fun e=>hno q x' hx' (by rw [rlent q n' hn',e])
  obtain ⟨_,y',_,hy',_⟩:=hlentA q n' hn'
  exact hR.dis n n' y y' k hn hy' hne hk hk'
 have hget:∀ {q x},look obs q=some x→look (obs.map (fun p=>(r p.1,p.2.ren r))++A.ob) (r q)=some (x.ren r):=fun hq=>JJO _ hq fun q' x' hq' e=>hinj _ _ _ _ hq hq' e
 have hsame:∀q n x x',look pre q=some x→look obs q=some x' → look lend q=some n→JKY x x' (ι' q) (ι n):=fun q n x x' hx hx' hn=>by
  have:=hp.same q x x' hx hx'
  rw [rlent q n hn] at this
  exact this
 have hm:Mv S ι A.obj w S' (JDS r obs ι ι') (look (obs.map (fun p=>(r p.1,p.2.ren r))++A.ob)) w':={
  d:=fun _ _ h=>h.mono (fun b o h=>(hc b o h).1) fun b o h=>(hc b o h).2
  s:=fun b o h=>hc b o h
  c:=fun n ls h=>by
   by_cases hex:∃q x',look obs q=some x' ∧ n=r q
   ·obtain ⟨q,x',hq,e⟩:=hex
    have hn:=hold n _ q x' h hq e
    obtain ⟨x,y,hx,hy,hle⟩:=hlentA q n hn
    rw [h] at hy;cases hy
    cases x with
    |cells ls0=>
     obtain ⟨x'',hx'',ls',rfl⟩:=hback.1 q _ hx
     rw [hq] at hx'';cases hx''
     subst e
     exact ⟨⟨_,hget hq⟩,by rw [JA3 hinj hq];exact hsame q _ _ _ hx hq hn⟩
    |arr _ _ _=>simp [AO.ren,QI] at hle
    |clo _ _=>simp [AO.ren,QI] at hle
    |yl=>simp [AO.ren,QI] at hle
    |map _=>simp [AO.ren,QI] at hle
    |mth _ _=>simp [AO.ren,QI] at hle
    |pin _ _=>simp [AO.ren,QI] at hle
    |iter _ _ _ _=>simp [AO.ren,QI] at hle
    |sit _ _=>simp [AO.ren,QI] at hle
    |byt _ _ _=>simp [AO.ren,QI] at hle
   ·have hno:∀q x,look obs q=some x→n≠r q:=fun q x hq e=>hex ⟨q,x,hq,e⟩
    exact ⟨⟨ls,(JFh _ hno).trans h⟩,JBN hno⟩
  a:=fun n e k es h=>by
   by_cases hex:∃q x',look obs q=some x' ∧ n=r q
   ·obtain ⟨q,x',hq,eq⟩:=hex
    have hn:=hold n _ q x' h hq eq
    obtain ⟨x,y,hx,hy,hle⟩:=hlentA q n hn
    rw [h] at hy;cases hy
    cases x with
    |arr e' k' es0=>
     simp only [AO.ren,QI,AO.arr.injEq] at hle
     obtain ⟨rfl,rfl,rfl⟩:=hle
     obtain ⟨x'',hx'',es',rfl,hlen⟩:=hback.1 q _ hx
     rw [hq] at hx'';cases hx''
     subst eq
     exact ⟨es',hget hq,hlen,fun he=>by rw [JA3 hinj hq];exact (hsame q _ _ _ hx hq hn).2 he⟩
    |cells _=>simp [AO.ren,QI] at hle
    |clo _ _=>simp [AO.ren,QI] at hle
    |yl=>simp [AO.ren,QI] at hle
    |map _=>simp [AO.ren,QI] at hle
    |mth _ _=>simp [AO.ren,QI] at hle
    |pin _ _=>simp [AO.ren,QI] at hle
    |iter _ _ _ _=>simp [AO.ren,QI] at hle
    |sit _ _=>simp [AO.ren,QI] at hle
    |byt _ _ _=>simp [AO.ren,QI] at hle
   ·have hno:∀q x,look obs q=some x→n≠r q:=fun q x hq e=>hex ⟨q,x,hq,e⟩
    exact ⟨es,(JFh _ hno).trans h,Nat.le_refl _,fun _=>JBN hno⟩
  w:=fun n y h hy=>by
   by_cases hex:∃q x',look obs q=some x' ∧ n=r q
   ·obtain ⟨q,x',hq,eq⟩:=hex
    have hn:=hold n _ q x' h hq eq
    obtain ⟨x,y',hx,hy',hle⟩:=hlentA q n hn
    rw [h] at hy';cases hy'
    obtain ⟨x'',hx'',hb⟩:=hback.1 q _ hx
    rw [hq] at hx'';cases hx''
    have hs:=hsame q _ _ _ hx hq hn
    subst eq
    cases x with
    |cells _=>obtain ⟨_,rfl,_⟩:=hle;simp [AO.whole] at hy
    |arr _ _ _=>simp only [AO.ren,QI] at hle;subst hle;simp [AO.whole] at hy
    |_=>
     simp only [Z8] at hb
     exact ⟨⟨_,hget hq,by cases x' <;> first|rfl|simp [AO.whole] at hb⟩,by rw [JA3 hinj hq];cases x' <;> first|exact hs|simp [AO.whole] at hb⟩
   ·have hno:∀q x,look obs q=some x→n≠r q:=fun q x hq e=>hex ⟨q,x,hq,e⟩
    exact ⟨⟨y,(JFh _ hno).trans h,hy⟩,JBN hno⟩ }
 have hfar:∀k,M k→¬JCI ι lend pre k→¬M' k:=fun k h1 h2 h3=>by
  rcases hM k h3 with h|h
  ·exact h2 h
  ·have:=hR.minn k h1;omega
 have hstay:∀r' y,M r' → w.heap[r']? = some y→JFe y=false→w'.heap[r']? = some y:=fun r' y h1 h2 h3=>by
  refine (hk r' h1 ?_).trans h2
  rintro ⟨q,n,x,hx,hn,hb⟩
  obtain ⟨_,y',_,hy',_⟩:=hlentA q n hn
  obtain ⟨_,_,z,hz,hdz⟩:=(hR.objs n y' hy').blk_ge hb
  rw [h2] at hz;cases hz;rw [h3] at hdz;cases hdz
 let A':JE:=⟨A.tm,obs.map (fun p=>(r p.1,p.2.ren r))++A.ob,b'⟩
 have main:Jg C S' (fun k=>M k∨M' k) (JDS r obs ι ι') A' a w':={
  sub:=fun b o h=>(hc b o (hR.sub b o h)).1
  new:=fun b o h=>by
   rcases hp.new b o h with h|h
   ·exact (hR.new b o h).imp id .inl
   ·exact .inr (.inr h)
  inn:=hp.inn
  minn:=fun k hk=>hk.elim (fun h=>Nat.lt_of_lt_of_le (hR.minn k h) hsz) (hp.minn k)
  sz:=hR.sz
  tms:=fun s=>hm.v (hR.tms s)
  objs:=by
   intro n y hn
   rcases JEU A.ob hinj hn with ⟨q,x,rfl,hq,rfl⟩|⟨hno,hn'⟩
   ·refine JMv (fun q x h=>JA3 hinj h) (fun q x h=>hget h) (fun ls e=>?_) hq (hp.objs q x hq)
    subst e
    cases hlq:look lend q with
    |none=>rw [rnew q hlq,show (B+q)%1000=q%1000 by omega]
    |some n=>
     rw [rlent q n hlq]
     obtain ⟨x0,hx0⟩:=hok.only q n hlq
     obtain ⟨x1,hx1,hb⟩:=(hok.back res obs hl).1 q x0 hx0
     rw [hq] at hx1;cases hx1
     cases x0 with
     |cells ls0=>exact hok.tag q n ls0 hlq hx0
     |arr e k es=>obtain ⟨_,h,_⟩:=hb;cases h
     |_=>simp [Z8,AO.whole] at hb
   ·refine (hR.objs n y hn').other hm (JBN hno) (fun k hk'=>?_) fun k off hk' hs=>?_
    ·exact hk k (hR.own n y k hn' hk') (hlentBlk n y k hn' hno hk')
    ·rcases hp.new k off hs with h|h
     ·exact h
     ·exact absurd h (hfar k (hR.own n y k hn' hk') (hlentBlk n y k hn' hno hk'))
  dis:=by
   intro n n' y y' k hn hn' hne hb
   have far:∀n y q x,A.obj n=some y→(∀q x',look obs q=some x' → n≠r q)→blk (ι n)=some k→look obs q=some x→blk (ι' q)=some k→False:=fun n y q x h1 h2 h3 h4 h5=>
    hfar k (hR.own n y k h1 h3) (hlentBlk n y k h1 h2 h3) (hp.own q x k h4 h5)
   rcases JEU A.ob hinj hn with ⟨q,x,rfl,hq,rfl⟩|⟨hno,hn1⟩<;>rcases JEU A.ob hinj hn' with ⟨q',x',rfl,hq',rfl⟩|⟨hno',hn1'⟩
   ·rw [JA3 hinj hq] at hb
    rw [JA3 hinj hq']
    exact hp.dis q q' x x' k hq hq' (fun e=>hne (by rw [e])) hb
   ·rw [JA3 hinj hq] at hb
    rw [JBN hno']
    exact fun hb'=>far n' y' q x hn1' hno' hb' hq hb
   ·rw [JBN hno] at hb
    rw [JA3 hinj hq']
    exact fun hb'=>far n y q' x' hn1 hno hb hq' hb'
   ·rw [JBN hno] at hb
    rw [JBN hno']
    exact hR.dis n n' y y' k hn1 hn1' hne hb
  own:=by
   intro n y k hn hb
   rcases JEU A.ob hinj hn with ⟨q,x,rfl,hq,rfl⟩|⟨hno,hn1⟩
   ·rw [JA3 hinj hq] at hb;exact .inr (hp.own q x k hq hb)
   ·rw [JBN hno] at hb;exact .inl (hR.own n y k hn1 hb)
  env:=hE
  tok:=by
   intro n hn
   rcases JEU A.ob hinj hn with ⟨q,x,rfl,hq,hx⟩|⟨hno,hn1⟩
   ·rw [JA3 hinj hq]
    exact hp.tok q (by cases x<;>first|exact hq|cases hx)
   ·rw [JBN hno];exact hR.tok n hn1
  fixed:=hR.fixed
  marks:=by
   obtain ⟨rs,h1,h2,h3⟩:=hR.marks
   exact ⟨rs,h1,h2,fun r' hr'=>⟨.inl (h3 r' hr').1,hstay r' _ (h3 r' hr').1 (h3 r' hr').2 rfl⟩⟩
  rdok:=fun l r' hl'=>⟨.inl (hR.rdok l r' hl').1,hstay l _ (hR.rdok l r' hl').1 (hR.rdok l r' hl').2 rfl⟩
  pinned:=by
   intro n u k y hpin hn
   rcases JEU A.ob hinj hn with ⟨q,x',rfl,hq,rfl⟩|⟨hno,hn1⟩
   ·rw [JA3 hinj hq]
    cases hlq:look lend q with
    |none=>
     have hN:=hR.pinN (r q) (by rw [hpin];simp)
     rw [rnew q hlq] at hN
     omega
    |some n'=>
     obtain ⟨x,y',hx,hy',hle⟩:=hlentA q n' hlq
     obtain ⟨x'',hx'',hb⟩:=hback.1 q x hx
     rw [hq] at hx'';cases hx''
     have hs:=hsame q _ _ _ hx hq hlq
     rw [rlent q n' hlq] at hpin
     have hz:=hR.pinned n' u k y' hpin hy'
     cases x with
     |cells ls0=>
      obtain ⟨ls',rfl⟩:=hb
      obtain ⟨_,rfl,_⟩:=hle
      exact hs.trans hz
     |arr e k0 es=>
      obtain ⟨es',rfl,hlen⟩:=hb
      simp only [AO.ren,QI] at hle
      subst hle
      simp only [AO.pinned,AO.ren] at hz ⊢
      exact ⟨by omega,fun he=>by rw [hs.2 (by omega)];exact hz.2 (by omega)⟩
     |clo f ls0=>
      obtain ⟨_,rfl,_⟩:=hle
      simp only [Z8] at hb
      have hz:ι n'=u:=hz
      cases x' <;> first|exact hs.trans hz|simp [AO.whole] at hb
     |yl=>
      simp only [AO.ren,QI] at hle;subst hle
      simp only [Z8] at hb
      have hz:ι n'=u:=hz
      cases x' <;> first|exact hs.trans hz|simp [AO.whole] at hb
     |map es=>
      simp only [AO.ren,QI] at hle;subst hle
      simp only [Z8] at hb
      have hz:ι n'=u:=hz
      cases x' <;> first|exact hs.trans hz|simp [AO.whole] at hb
     |mth f ls=>
      simp only [AO.ren,QI] at hle;subst hle
      simp only [Z8] at hb
      have hz:ι n'=u:=hz
      cases x' <;> first|exact hs.trans hz|simp [AO.whole] at hb
     |pin v l=>
      simp only [AO.ren,QI] at hle;subst hle
      simp only [Z8] at hb
      have hz:ι n'=u:=hz
      cases x' <;> first|exact hs.trans hz|simp [AO.whole] at hb
     |iter ls n sn c=>
      simp only [AO.ren,QI] at hle;subst hle
      simp only [Z8] at hb
      have hz:ι n'=u:=hz
      cases x' <;> first|exact hs.trans hz|simp [AO.whole] at hb
     |sit s p=>
      simp only [AO.ren,QI] at hle;subst hle
      simp only [Z8] at hb
      have hz:ι n'=u:=hz
      cases x' <;> first|exact hs.trans hz|simp [AO.whole] at hb
     |byt b c l=>
      simp only [AO.ren,QI] at hle;subst hle
      simp only [Z8] at hb
      have hz:ι n'=u:=hz
      cases x' <;> first|exact hs.trans hz|simp [AO.whole] at hb
   ·rw [JBN hno]
    exact hR.pinned n u k y hpin hn1
  pinN:=hR.pinN }
 have hres:Jk S' (JDS r obs ι ι') A'.obj w' (res.ren r) v:=JJy (H':=A'.obj) (fun q x h=>JA3 hinj h) (fun q x h=>hget h) hp.res
 exact ⟨S',_,_,main.slot hd hres⟩
theorem JOF (hR:Jg C S M ι A a w)(hd:∀d,o.dst=some d→C.can d){g:FuncId}{avs args:List AV}{us:List Value}{lend:List (Nat × Nat)}{pre:List (Nat × AO)}{b:Jh}{κ:AV→List (Nat × AO)→Jh}
  (hdst:o.dst=some d) (hexec:(execOp a.eval o).run P w=.ok (.enter g us.toArray) w) (h3:JS (Jk S ι A.obj w) avs us) (hwk:JS (Jj (rn lend (1000*(d+1))) (Ql pre)) avs args)
  (hcon:Qq P g args pre b) (hok:Z0 A (1000*(d+1)) lend pre b) (hbh:A.bh=b.bind κ) (Q:Exit→Act→World→Prop) :
  o.wpIn (Qb C) 0 P a w (fun a' w'=>∃res obs,b.Leaf res obs∧J9 C (after A d (rn lend (1000*(d+1))) res obs (κ res obs)) a' w') Q:=by
 refine JBZ hexec JBE ?_
 rw [Oper.uponIn_enter]
 refine ⟨JDP C,JEF C ?_⟩
 have hH:=hok.obj
 have hargs:JS (Jk S (fun q=>ι (rn lend (1000*(d+1)) q)) (look pre) w) args us:=by
  clear hcon hexec
  induction args generalizing avs us with
  |nil=>cases avs with
   |nil=>cases us with
    |nil=>trivial
    |cons _ _=>exact h3.elim
   |cons _ _=>exact hwk.elim
  |cons y ys ih=>cases avs with
   |nil=>exact hwk.elim
   |cons x xs=>cases us with
    |nil=>exact h3.elim
    |cons v vs=>exact ⟨JJz hH hwk.1.1 (hwk.1.2 S ι A.obj w v h3.1),ih h3.2 hwk.2⟩
 have rlent:∀q n,look lend q=some n→rn lend (1000*(d+1)) q=n:=fun q n h=>by unfold rn;rw [h]
 have hb2:∀k,JCI ι lend pre k→M k:=by
  rintro k ⟨q,n,x,hx,hn,hb⟩
  obtain ⟨n',y,hn',hy,_⟩:=hok.lent q x hx
  rw [hn] at hn';cases hn'
  exact hR.own n y k hy hb
 have hcall:=hcon (C.E.frame (·.bind κ) (JPN κ) S M (JCI ι lend pre) w hR.minn) S (JCI ι lend pre) (fun q=>ι (rn lend (1000*(d+1)) q)) w _ hR.inn (fun k hk=>hR.minn k (hb2 k hk)) ?_ ?_ ?_ ?_ hargs ?_
 ·refine hcall.mono fun e w' he=>?_
  obtain ⟨v,res,obs,S',M',ι',rfl,hl,⟨hJ,hk,hM,hsz,hc,_⟩,hp⟩:=he
  refine ⟨res,obs,hl,?_⟩
  rw [hdst]
  exact hR.called hok hl (hd d hdst) hp hJ hk hM hsz hc
 ·intro q x hx
  obtain ⟨n,y,hn,hy,hle,hin⟩:=hok.lent q x hx
  have hy':A.obj (rn lend (1000*(d+1)) q)=some y:=by rw [rlent q n hn];exact hy
  exact JMw hH (fun ls e t ht=>by subst e;rw [rlent q n hn,hok.tag q n ls hn hx];exact ht) hle hin (hR.objs _ y hy')
 ·intro q q' x x' k hx hx' hne hb
  obtain ⟨n,y,hn,hy,_⟩:=hok.lent q x hx
  obtain ⟨n',y',hn',hy',_⟩:=hok.lent q' x' hx'
  simp only [rlent q n hn] at hb
  simp only [rlent q' n' hn']
  exact hR.dis n n' y y' k hy hy' (fun e=>hne (hok.inj q q' n hn (e▸hn'))) hb
 ·intro q x k hx hb
  obtain ⟨n,y,hn,hy,_⟩:=hok.lent q x hx
  simp only [rlent q n hn] at hb
  exact ⟨q,n,x,hx,hn,hb⟩
 ·intro q hx
  obtain ⟨n,y,hn,hy,hle,_⟩:=hok.lent q _ hx
  simp only [AO.ren,QI] at hle
  subst hle
  simp only [rlent q n hn]
  exact hR.tok n hy
 ·refine ⟨?_,fun _ _ _=>rfl,fun k hk=>.inl hk,Nat.le_refl _,fun b o h=>⟨h,rfl⟩,rfl,rfl,rfl⟩
  show C.E.J (b.bind κ) S _ w
  rw [←hbh]
  exact C.E.J_eqv hR.env (fun k hk=>.inl hk) (fun k hk=>hk.elim id (hb2 k)) (fun _ _ h=>h) fun _ _ h=>.inl h
def JBQ (P:Program)(t:TypeId)(name:String):Option FuncId:=match P.info? t with
 |some i=>match i.methods.find? (·.name==name) with
  |some m=>match m.path.toList,m.func with
   |[],some (f,ptr)=>match P.underlying t with
    |some (.pointer _)=>if ptr=true then some f else none
    |some _=>if ptr=false then some f else none
    |none=>none
   |_,_=>none
  |none=>none
 |none=>none
theorem JUE {t:TypeId}{v:Value}{name:String}{f:FuncId}(h:JBQ P t name=some f)(n:Nat):(method (n+1) t v name).run P w=.ok (f,v) w:=by
 unfold JBQ at h
 cases hi:P.info? t with
 |none=>simp [hi] at h
 |some i=>
 cases hm:i.methods.find? (·.name==name) with
 |none=>simp [hi,hm] at h
 |some m=>
 simp only [hi,hm] at h
 split at h
 case h_2=>cases h
 rename_i f' ptr hp hf
 have hp':m.path=#[]:=by apply Array.ext';simpa using hp
 cases hu:P.underlying t with
 |none=>simp [hu] at h
 |some ds=>
 cases ds<;>simp only [hu] at h<;>split at h<;>(try cases h)<;>rename_i hq<;>subst hq <;>
  simp [method,typeInfo,hi,hm,hp',hf,follow,receiverAt,run_underlying hu,Place.get]
theorem JOH (hR : Jg C S M ι A a w) (hd : ∀ d, o.dst = some d → C.can d) {cargs : Array Operand} {cty : Array TypeId} {recv : Operand} {name : String} {t : TypeId} {ag : Bool} {ds : List D} {g : FuncId} {args : List AV} {lend : List (Nat × Nat)} {pre : List (Nat × AO)} {b : Jh} {κ : AV → List (Nat × AO) → Jh}
    (hdst:o.dst=some d) (hop:o.op=.call { callee:=.invoke recv name,args:=cargs,argTypes:=cty }) (hf:A.ev recv=.leaf (.d (.ifc t ag ds))) (hmeth:JBQ P t name=some g) (hcan:JO P g=true)
    (hwk:JS (Jj (rn lend (1000*(d+1))) (Ql pre)) (.val ag (ds.map .d)::cargs.toList.map A.ev) args)
    (hcon:Qq P g args pre b) (hok:Z0 A (1000*(d+1)) lend pre b) (hbh:A.bh=b.bind κ) (Q:Exit→Act→World→Prop) :
    o.wpIn (Qb C) 0 P a w (fun a' w'=>∃res obs,b.Leaf res obs∧J9 C (after A d (rn lend (1000*(d+1))) res obs (κ res obs)) a' w') Q:=by
  have hx:=QF hR recv
  rw [hf] at hx
  have hx:=Jl hx
  have hval : ∃ v, a.eval recv = .iface t v ∧ Qv S ι A.obj w ag (ds.map .d) v := by
    generalize a.eval recv=y at hx
    cases hx with
    |ifc _ d' v hr=>exact ⟨v,rfl,_,rfl,hr⟩
    |ifa _ _ vals hl hr=>exact ⟨_,rfl,vals,rfl,Ya (R:=RepD S w) (R':=Jd S ι A.obj w) (f:=AL.d) (fun _ _ h=>h) (JS.ofGet hl.symm fun i a b h1 h2=>hr i a b h1 h2)⟩
  obtain ⟨v,hv,hrv⟩:=hval
  refine JOF (avs:=.val ag (ds.map .d)::cargs.toList.map A.ev) (us:=v::cargs.toList.map a.eval) hR hd hdst ?_ ⟨hrv,JBT hR cargs.toList⟩ hwk hcon hok hbh Q
  have hme : ∀ n, (method (n + Made.depth) t v name).run P w = .ok (g, v) w := fun n => by
    rw [show n + Made.depth = (n + Made.depth - 1) + 1 from by have : 0 < Made.depth := by decide
                                                               omega]
    exact JUE hmeth _
  have e1:#[v]++cargs.map a.eval=(v::cargs.toList.map a.eval).toArray:=by apply Array.ext';simp
  have e2:(#[Value.iface t v]++cargs.map a.eval)[0]? = some (.iface t v):=by rw [Array.getElem?_append_left (by simp)];rfl
  have e3:(cargs.map a.eval).extract 0 cargs.size=cargs.map a.eval:=by simp
  have hcm : (callMethod (.iface t v) name (cargs.map a.eval)).run P w = .ok (.enter g (#[v] ++ cargs.map a.eval)) w := by
    simp [callMethod,hme,JCN hcan]
  rw [←e1]
  simp only [execOp,hop,resolve,hv,invoke,e2,Sem.run_bind,Sem.run_pure,Result.andThen_ok]
  simpa [e3] using hcm
theorem JHs (hR:Jg C S M ι A a w)(hd:∀d,o.dst=some d→C.can d){f:Operand}{as:List Operand}{g:FuncId}{caps:List AL}{args:List AV}{lend:List (Nat × Nat)}{pre:List (Nat × AO)}{b:Jh}{κ:AV→List (Nat × AO)→Jh}
  (hdst:o.dst=some d) (hop:Yy o.op=some (f,as)) (hf:JDp A (A.ev f) g caps) (hcan:JO P g=true) (hwk:JS (Jj (rn lend (1000*(d+1))) (Ql pre)) (as.map A.ev++caps.map .leaf) args)
  (hcon:Qq P g args pre b) (hok:Z0 A (1000*(d+1)) lend pre b) (hbh:A.bh=b.bind κ) (Q:Exit→Act→World→Prop) :
  o.wpIn (Qb C) 0 P a w (fun a' w'=>∃res obs,b.Leaf res obs∧J9 C (after A d (rn lend (1000*(d+1))) res obs (κ res obs)) a' w') Q:=by
 obtain ⟨us,hfv,hus⟩:=hf.rep hR (QF hR f)
 cases hop':o.op<;>rw [hop'] at hop<;>try (simp [Yy] at hop;done)
 rename_i c
 obtain ⟨callee,cargs,cty⟩:=c
 cases callee<;>simp only [Yy,reduceCtorEq,Option.some.injEq,Prod.mk.injEq] at hop
 rename_i f'
 obtain ⟨rfl,rfl⟩:=hop
 have hexec:(execOp a.eval o).run P w=.ok (.enter g (cargs.map a.eval++us.toArray)) w:=by
  simp [execOp,hop',resolve,hfv,Deferred.ofValue,invoke,JCN hcan]
 have e1:cargs.map a.eval++us.toArray=(cargs.toList.map a.eval++us).toArray:=by apply Array.ext';simp
 have h1:=JBT hR cargs.toList
 have h2:JS (Jk S ι A.obj w) (caps.map AV.leaf) us:=Ya (R:=Jd S ι A.obj w) AV.leaf (fun _ _ h=>Qk h) hus
 exact JOF hR hd hdst (by rw [←e1];exact hexec) (h1.append h2) hwk hcon hok hbh Q
def JDs (P:Program)(o:Oper)(A:JE)(ws:List Wr):Prop:=
 ∃(d:Nat) (f:Operand) (as:List Operand) (g:FuncId) (ds:List D) (args:List AV) (res:AV) (obs:List (Nat × AO)),
  o.dst=some d∧Yy o.op=some (f,as)∧A.ev f=.leaf (.d (.fn g ds))∧JO P g=true ∧
  JS (Jj (rn [] (1000*(d+1))) []) (as.map A.ev++ds.map fun x=>.leaf (.d x)) args∧Jb P g args res obs ∧
  (∀q x,look obs q=some x→A.obj (1000*(d+1)+q)=none) ∧
  ws=obs.reverse.map (fun p=>.obj (1000*(d+1)+p.1) (p.2.ren (1000*(d+1) + ·)))++[.slot d (res.ren (1000*(d+1) + ·))]
theorem JNQ (A:JE)(xs ys:List Wr):A.put (xs++ys)=(A.put xs).put ys:=by
 induction xs generalizing A with
 |nil=>rfl
 |cons x xs ih=>exact ih _
theorem JNS (A:JE)(r:Nat→Nat):∀(obs:List (Nat × AO)),A.put (obs.reverse.map fun p=>.obj (r p.1) (p.2.ren r))=⟨A.tm,obs.map (fun p=>(r p.1,p.2.ren r))++A.ob,A.bh⟩
 |[]=>rfl
 |p::obs=>by
  have ih:=JNS A r obs
  rw [List.reverse_cons,List.map_append,JNQ,ih]
  rfl
theorem JNo (B:Nat):rn [] B=(B + ·):=rfl
theorem JOE (hR:Jg C S M ι A a w)(hd:∀d,o.dst=some d→C.can d){ws:List Wr}(h:JDs P o A ws)(Q:Exit→Act→World→Prop):o.wpIn (Qb C) 0 P a w (fun a' w'=>J9 C (A.put ws) a' w') Q:=by
 obtain ⟨d,f,as,g,ds,args,res,obs,hdst,hop,hf,hcan,hwk,hcon,hfr,rfl⟩:=h
 have hlk:∀q n,¬look ([]:List (Nat × Nat)) q=some n:=fun q n h=>by simp [look] at h
 have hlk':∀q x,¬look ([]:List (Nat × AO)) q=some x:=fun q x h=>by simp [look] at h
 refine Oper.wpIn_mono (fun a' w' h=>?_) (JHs (d:=d) (κ:=fun _ _=>A.bh) (lend:=[]) (caps:=ds.map .d) hR hd hdst hop (.inl ⟨ds,hf,rfl⟩) hcan (by rw [List.map_map];exact hwk) hcon
  ⟨fun q x h=>(hlk' q x h).elim,fun q n h=>(hlk q n h).elim,fun q q' n h=>(hlk q n h).elim,fun q n ls h=>(hlk q n h).elim,fun res' obs' hl=>⟨fun q x h=>(hlk' q x h).elim,fun q x' hx' _=>by obtain ⟨rfl,rfl⟩:=hl.inv;exact hfr q x' hx'⟩⟩ rfl Q)
 obtain ⟨res',obs',hl,h⟩:=h
 obtain ⟨rfl,rfl⟩:=hl.inv
 rw [JNo] at h
 rw [JNQ,JNS A (1000*(d+1) + ·)]
 exact h
end call
end Go.Mw
namespace Go.Mw
open Go.RowKit
def Q1:List Operand→List Loc
 |[]=>[]
 |.tmp t::r=>.slot t::Q1 r
 |_::r=>Q1 r
def YO:List Wr→List Loc
 |[]=>[]
 |.slot s _::r=>.slot s::YO r
 |.obj o _::r=>.obj o::YO r
def JCP (P:Program)(o:Oper)(A:JE)(rs:List Loc)(ws:List Wr):Prop:=
 ∃(d:Nat) (f:Operand) (as:List Operand) (g:FuncId) (ds:List D) (args:List AV) (res:AV) (obs:List (Nat × AO)),
  o.dst=some d∧Yy o.op=some (f,as)∧A.ev f=.leaf (.d (.fn g ds))∧JO P g=true ∧
  JS (Jj (rn [] (1000*(d+1))) []) (as.map A.ev++ds.map fun x=>.leaf (.d x)) args∧Jb P g args res obs ∧
  (∀q x,look obs q=some x→A.obj (1000*(d+1)+q)=none) ∧
  ws=obs.reverse.map (fun p=>.obj (1000*(d+1)+p.1) (p.2.ren (1000*(d+1) + ·)))++[.slot d (res.ren (1000*(d+1) + ·))] ∧
  rs=Q1 (f::as)++obs.map fun p=>.obj (1000*(d+1)+p.1)
theorem JCP.plain {P:Program}{o:Oper}{A:JE}{rs:List Loc}{ws:List Wr}(h:JCP P o A rs ws):JDs P o A ws:=by
 obtain ⟨d,f,as,g,ds,args,res,obs,h1,h2,h3,h4,h5,h6,h7,h8,_⟩:=h
 exact ⟨d,f,as,g,ds,args,res,obs,h1,h2,h3,h4,h5,h6,h7,h8⟩
theorem JJo {ns:List Nat}{r:Nat→Nat}:∀ {ls:List AL},(J6 ls).isSome=true→ls.map (AL.ren r)=ls∧ls.all (AL.inn ns)=true
 |[],_=>⟨rfl,rfl⟩
 |.d x::ls,hp=>by
  have hq:(J6 ls).isSome=true:=by
   simp only [J6] at hp
   cases hq:J6 ls<;>simp_all
  obtain ⟨h1,h2⟩:=JJo (ns:=ns) (r:=r) hq
  exact ⟨by simp [AL.ren,h1],by rw [List.all_cons,h2];rfl⟩
 |.ptr _ _::_,hp=>by simp [J6] at hp
 |.eptr _ _ _ _::_,hp=>by simp [J6] at hp
 |.own _ _ _ _::_,hp=>by simp [J6] at hp
 |.obj _::_,hp=>by simp [J6] at hp
 |.fpt _::_,hp=>by simp [J6] at hp
 |.csl _ _ _::_,hp=>by simp [J6] at hp
 |.dead::_,hp=>by simp [J6] at hp
def AO.flat:AO→Bool
 |.arr _ _ _=>true
 |.map es=>es.all fun p=>(J6 p.2.2).isSome
 |_=>false
theorem AO.flat_ok {x:AO}(h:x.flat=true)(r:Nat→Nat)(ns:List Nat):x.ren r=x∧x.inn ns=true∧Z8 x x:=by
 cases x with
 |arr e k es=>exact ⟨rfl,rfl,es,rfl,Nat.le_refl _⟩
 |map es=>
  have h:es.all (fun p=>(J6 p.2.2).isSome)=true:=h
  rw [List.all_eq_true] at h
  refine ⟨?_,?_,rfl⟩
  ·show AO.map (es.map fun p=>(p.1,p.2.1,p.2.2.map (·.ren r)))=_
   congr 1
   rw [List.map_congr_left (g:=id) fun p hp=>by rw [(JJo (ns:=ns) (r:=r) (h p hp)).1];rfl]
   simp
  ·show es.all (fun p=>p.2.2.all (AL.inn ns))=true
   exact List.all_eq_true.2 fun p hp=>(JJo (ns:=ns) (r:=r) (h p hp)).2
 |_=>simp [AO.flat] at h
def JGK (P:Program)(o:Oper)(A:JE)(rs:List Loc)(ws:List Wr):Prop:=
 ∃(d:Nat) (f:Operand) (as:List Operand) (g:FuncId) (ds:List D) (args:List AV) (res:AV) (q n:Nat) (x:AO),
  o.dst=some d∧Yy o.op=some (f,as)∧A.ev f=.leaf (.d (.fn g ds))∧JO P g=true ∧
  JS (Jj (rn [(q,n)] (1000*(d+1))) [q]) (as.map A.ev++ds.map fun x=>.leaf (.d x)) args∧Qq P g args [(q,x)] (.ret res [(q,x)]) ∧
  (A.obj n=some x∧x.flat=true)∧ws=[.obj n x,.slot d (res.ren (rn [(q,n)] (1000*(d+1))))]∧rs=Q1 (f::as)++[.obj n]
theorem JQ1 {A:JE}{B q n:Nat}{x:AO}{res:AV}(hob:A.obj n=some x)(hfl:x.flat=true):Z0 A B [(q,n)] [(q,x)] (.ret res [(q,x)]):=by
 have hl:∀p y,look [(q,x)] p=some y→p=q∧y=x:=fun p y h=>by
  by_cases e:p=q
  ·subst e;simp [look] at h;exact ⟨rfl,h.symm⟩
  ·simp [look,e] at h
 have hl2:∀p m,look [(q,n)] p=some m→p=q∧m=n:=fun p m h=>by
  by_cases e:p=q
  ·subst e;simp [look] at h;exact ⟨rfl,h.symm⟩
  ·simp [look,e] at h
 refine ⟨fun p y h=>?_,fun p m h=>?_,fun p p' m h h'=>(hl2 p m h).1.trans (hl2 p' m h').1.symm,fun p m ls h h'=>?_,fun res' obs' hlf=>?_⟩
 ·obtain ⟨rfl,rfl⟩:=hl p y h
  obtain ⟨h1,h2,_⟩:=AO.flat_ok hfl (rn [(p,n)] B) (Ql [(p,y)])
  exact ⟨n,y,by simp [look],hob,by rw [h1];exact QI.refl y,h2⟩
 ·obtain ⟨rfl,rfl⟩:=hl2 p m h
  exact ⟨_,by simp [look];rfl⟩
 ·obtain ⟨_,rfl⟩:=hl p _ h'
  cases hfl
 ·obtain ⟨rfl,rfl⟩:=hlf.inv
  refine ⟨fun p y h=>?_,fun p y h h2=>?_⟩
  ·obtain ⟨rfl,rfl⟩:=hl p y h
   exact ⟨y,by simp [look],(AO.flat_ok hfl id []).2.2⟩
  ·by_cases e:p=q
   ·subst e;simp [look] at h2
   ·simp [look,e] at h
def agree (A A':JE):Loc→Prop
 |.slot s=>A'.get s=A.get s
 |.obj o=>A'.obj o=A.obj o
theorem JD9 {A B C:JE}{l:Loc}(h:Mw.agree A B l)(h':Mw.agree B C l):Mw.agree A C l:=by cases l<;>exact Eq.trans h' h
inductive YV (P:Program) (ops:Array Oper) (o:Oper) (A:JE):List Loc→List Wr→Prop
 |eff (rs:List Loc) (ws:List Wr) (hw:J5 ops o.guard A=some true) (h:(Qg P o.op o.dst).run A (Qt ops o)=some (rs,ws)):YV P ops o A rs ws
 |call (rs:List Loc) (ws:List Wr) (hw:J5 ops o.guard A=some true) (h:JCP P o A rs ws):YV P ops o A (Qt ops o++rs) ws
 |skip (hw:J5 ops o.guard A=some false):YV P ops o A (Qt ops o) (JF9 o)
 |geff (rs:List Loc) (b:Bool) (d:Nat) (v:AV) (ho:o.dst=some d) (hw:J5 ops o.guard A=some b) (h:(Qg P o.op o.dst).run (A.strip b) (Qt ops o)=some (rs,[.slot d v])):YV P ops o A rs [.slot d (.cnd b v)]
 |gcall (rs:List Loc) (b:Bool) (d:Nat) (v:AV) (ho:o.dst=some d) (hw:J5 ops o.guard A=some b) (h:JCP P o (A.strip b) rs [.slot d v]):YV P ops o A (Qt ops o++rs) [.slot d (.cnd b v)]
 |lend (rs:List Loc) (ws:List Wr) (hw:J5 ops o.guard A=some true) (h:JGK P o A rs ws):YV P ops o A (Qt ops o++rs) ws
 |wk (rs:List Loc) (ws0 ws:List Wr) (hw:J5 ops o.guard A=some true) (h:(Qg P o.op o.dst).run A (Qt ops o)=some (rs,ws0))
   (hg:∀A',(∀l∈rs,Mw.agree A A' l)→∀(C:Ctx P) (a:Act) (w:World) (a':Act) (w':World),J9 C A' a w→J9 C (A'.put ws0) a' w' → J9 C (A'.put ws) a' w'):YV P ops o A rs ws
 |sem (rs:List Loc) (ws:List Wr) (hw:J5 ops o.guard A=some true)
   (h:∀A',(∀l∈rs,Mw.agree A A' l)→∀(C:Ctx P) (a:Act) (w:World) (Q:Exit→Act→World→Prop),(∀d,o.dst=some d→C.can d)→J9 C A' a w→o.wpIn (Qb C) 0 P a w (fun a' w'=>J9 C (A'.put ws) a' w') Q):YV P ops o A (Qt ops o++rs) ws
def Same (A A':JE):Prop:=(∀l,agree A A' l)∧A'.bh=A.bh
theorem JEb:∀(ws:List Wr) (A:JE),(A.put ws).bh=A.bh
 |[],_=>rfl
 |.slot _ _::r,_=>JEb r _
 |.obj _ _::r,_=>JEb r _
theorem Ev.run_acc {A:JE}:∀(e:Ev) (acc:List Loc) {rs:List Loc} {ws:List Wr},e.run A acc=some (rs,ws)→∀l∈acc,l∈rs
 |.done ws',acc,rs,ws,h,l,hl=>by simp [Ev.run] at h;rw [←h.1];exact hl
 |.fail,acc,rs,ws,h,l,hl=>by simp [Ev.run] at h
 |.slot s k,acc,rs,ws,h,l,hl=>Ev.run_acc (k (A.get s)) _ h l Zs
 |.obj o k,acc,rs,ws,h,l,hl=>Ev.run_acc (k (A.obj o)) _ h l Zs
theorem Ev.run_agree {A A':JE}:∀(e:Ev) (acc:List Loc) {rs:List Loc} {ws:List Wr},e.run A acc=some (rs,ws)→(∀l∈rs,agree A A' l)→e.run A' acc=some (rs,ws)
 |.done ws',acc,rs,ws,h,_=>h
 |.fail,acc,rs,ws,h,_=>by simp [Ev.run] at h
 |.slot s k,acc,rs,ws,h,ha=>by
  have hl:Loc.slot s∈rs:=Ev.run_acc (k (A.get s)) (.slot s::acc) h _ (by simp)
  have e:A'.get s=A.get s:=ha _ hl
  simp only [Ev.run,e]
  exact Ev.run_agree _ _ h ha
 |.obj o k,acc,rs,ws,h,ha=>by
  have hl:Loc.obj o∈rs:=Ev.run_acc (k (A.obj o)) (.obj o::acc) h _ (by simp)
  have e:A'.obj o=A.obj o:=ha _ hl
  simp only [Ev.run,e]
  exact Ev.run_agree _ _ h ha
theorem JA1 {A A':JE}{x:Operand}(h:∀l∈Q1 [x],agree A A' l):A'.ev x=A.ev x:=by
 cases x with
 |tmp t=>exact h (.slot t) (by simp [Q1])
 |_=>rfl
theorem JEX (x:Operand)(r:List Operand):Q1 (x::r)=Q1 [x]++Q1 r:=by cases x<;>rfl
theorem JCi {A A':JE}:∀ {xs:List Operand},(∀l∈Q1 xs,agree A A' l)→xs.map A'.ev=xs.map A.ev
 |[],_=>rfl
 |x::r,h=>by
  rw [JEX] at h
  simp only [List.map_cons]
  rw [JA1 fun l hl=>h l Zs,JCi fun l hl=>h l Zs]
theorem JEW {α:Type}:∀ {l:List (Nat × α)} {q:Nat} {x:α},look l q=some x→∃y,(q,y)∈l
 |[],_,_,h=>by simp [look] at h
 |(k,v)::r,q,x,h=>by
  by_cases hk:q=k
  ·subst hk;exact ⟨v,by simp⟩
  ·simp [look,hk] at h
   obtain ⟨y,hy⟩:=JEW h
   exact ⟨y,by simp [hy]⟩
section swap
variable {P:Program} {ops:Array Oper} {A A':JE} {o:Oper} {rs:List Loc} {ws:List Wr}
theorem JBz (h:∀l∈Qt ops o,agree A A' l):J5 ops o.guard A'=J5 ops o.guard A:=by
 unfold J5
 unfold Qt at h
 cases hg:o.guard with
 |none=>rfl
 |some p=>
  obtain ⟨j,want⟩:=p
  simp only [hg] at h ⊢
  cases hs:(ops[j]?).bind (·.dst) with
  |none=>rfl
  |some s=>
   simp only [hs] at h ⊢
   have:=h (.slot s) (by simp)
   simp only [agree] at this
   rw [this]
theorem JKt {b:Bool}{l:Loc}(h:Mw.agree A A' l):Mw.agree (A.strip b) (A'.strip b) l:=by
 cases l with
 |slot s=>simp only [Mw.agree,JHO] at h ⊢;rw [h]
 |obj o=>exact h
theorem JCP.agree (h:JCP P o A rs ws)(ha:∀l∈rs,Mw.agree A A' l):JCP P o A' rs ws:=by
 obtain ⟨d,f,as,g,ds,args,res,obs,h1,h2,h3,h4,h5,h6,h7,h8,rfl⟩:=h
 have ef:A'.ev f=A.ev f:=JA1 fun l hl=>ha l JAT
 have eas:as.map A'.ev=as.map A.ev:=JCi fun l hl=>ha l JAT
 refine ⟨d,f,as,g,ds,args,res,obs,h1,h2,ef.trans h3,h4,by rw [eas];exact h5,h6,fun q x hq=>?_,h8,rfl⟩
 obtain ⟨y,hy⟩:=JEW hq
 have e:=ha (.obj (1000*(d+1)+q)) (List.mem_append.2 (.inr (List.mem_map.2 ⟨(q,y),hy,rfl⟩)))
 simp only [Mw.agree] at e
 rw [e]
 exact h7 q x hq
theorem JGK.agree (h:JGK P o A rs ws)(ha:∀l∈rs,Mw.agree A A' l):JGK P o A' rs ws:=by
 obtain ⟨d,f,as,g,ds,args,res,q,n,x,h1,h2,h3,h4,h5,h6,⟨h7,hfl⟩,h8,rfl⟩:=h
 have ef:A'.ev f=A.ev f:=JA1 fun l hl=>ha l JAT
 have eas:as.map A'.ev=as.map A.ev:=JCi fun l hl=>ha l JAT
 have eo:A'.obj n=A.obj n:=ha (.obj n) (by simp)
 exact ⟨d,f,as,g,ds,args,res,q,n,x,h1,h2,ef.trans h3,h4,by rw [eas];exact h5,h6,⟨eo.trans h7,hfl⟩,h8,rfl⟩
theorem YV.agree (h:YV P ops o A rs ws)(ha:∀l∈rs,Mw.agree A A' l):YV P ops o A' rs ws:=by
 cases h with
 |eff _ _ hw h=>
  have hg:J5 ops o.guard A'=J5 ops o.guard A:=JBz fun l hl=>ha l (Ev.run_acc _ _ h l hl)
  exact .eff rs ws (hg.trans hw) (Ev.run_agree _ _ h ha)
 |call rs' _ hw h=>
  have hg:J5 ops o.guard A'=J5 ops o.guard A:=JBz fun l hl=>ha l Zs
  exact .call rs' ws (hg.trans hw) (h.agree fun l hl=>ha l Zs)
 |skip hw=>exact .skip ((JBz ha).trans hw)
 |geff _ b d v ho hw h=>
  have hg:J5 ops o.guard A'=J5 ops o.guard A:=JBz fun l hl=>ha l (Ev.run_acc _ _ h l hl)
  exact .geff rs b d v ho (hg.trans hw) (Ev.run_agree _ _ h fun l hl=>JKt (ha l hl))
 |gcall rs' b d v ho hw h=>
  have hg:J5 ops o.guard A'=J5 ops o.guard A:=JBz fun l hl=>ha l Zs
  exact .gcall rs' b d v ho (hg.trans hw) (h.agree fun l hl=>JKt (ha l Zs))
 |lend rs' _ hw h=>
  have hg:J5 ops o.guard A'=J5 ops o.guard A:=JBz fun l hl=>ha l Zs
  exact .lend rs' ws (hg.trans hw) (h.agree fun l hl=>ha l Zs)
 |wk _ ws0 _ hw h hk=>
  have hg:J5 ops o.guard A'=J5 ops o.guard A:=JBz fun l hl=>ha l (Ev.run_acc _ _ h l hl)
  exact .wk rs ws0 ws (hg.trans hw) (Ev.run_agree _ _ h ha) fun A'' h''=>hk A'' fun l hl=>JD9 (ha l hl) (h'' l hl)
 |sem rs' _ hw h=>
  have hg:J5 ops o.guard A'=J5 ops o.guard A:=JBz fun l hl=>ha l Zs
  exact .sem rs' ws (hg.trans hw) fun A'' h''=>h A'' fun l hl=>JD9 (ha l Zs) (h'' l hl)
theorem JCx:∀(ws:List Wr) (A:JE) (l:Loc),l ∉ YO ws→Mw.agree A (A.put ws) l
 |[],A,l,_=>by cases l<;>rfl
 |.slot s v::r,A,l,h=>by
  simp only [YO,List.mem_cons,not_or] at h
  have ih:=JCx r (A.put1 (.slot s v)) l h.2
  cases l with
  |slot t=>
   have hne:t≠s:=fun e=>h.1 (by rw [e])
   exact Eq.trans ih (by simp [JE.put1,JE.get,look,hne])
  |obj q=>exact Eq.trans ih rfl
 |.obj s v::r,A,l,h=>by
  simp only [YO,List.mem_cons,not_or] at h
  have ih:=JCx r (A.put1 (.obj s v)) l h.2
  cases l with
  |slot t=>exact Eq.trans ih rfl
  |obj q=>
   have hne:q≠s:=fun e=>h.1 (by rw [e])
   exact Eq.trans ih (by simp [JE.put1,JE.obj,look,hne])
theorem JFt:∀(ws:List Wr) {A A':JE} {l:Loc},(l∈YO ws∨Mw.agree A A' l)→Mw.agree (A.put ws) (A'.put ws) l
 |[],A,A',l,h=>by
  rcases h with h|h
  ·simp [YO] at h
  ·exact h
 |w::r,A,A',l,h=>by
  refine JFt r ?_
  by_cases hr:l∈YO r
  ·exact .inl hr
  ·refine .inr ?_
   cases w with
   |slot s v=>
    cases l with
    |slot t=>
     by_cases e:t=s
     ·subst e;simp [Mw.agree,JE.put1,JE.get,look]
     ·rcases h with h|h
      ·simp [YO,e] at h;exact absurd h hr
      ·simp only [Mw.agree,JE.put1,JE.get,look,if_neg e] at h ⊢;exact h
    |obj q=>
     rcases h with h|h
     ·simp [YO] at h;exact absurd h hr
     ·exact h
   |obj s v=>
    cases l with
    |slot t=>
     rcases h with h|h
     ·simp [YO] at h;exact absurd h hr
     ·exact h
    |obj q=>
     by_cases e:q=s
     ·subst e;simp [Mw.agree,JE.put1,JE.obj,look]
     ·rcases h with h|h
      ·simp [YO,e] at h;exact absurd h hr
      ·simp only [Mw.agree,JE.put1,JE.obj,look,if_neg e] at h ⊢;exact h
theorem Same.refl (A:JE):Same A A:=⟨fun l=>by cases l<;>rfl,rfl⟩
theorem JE1 {A B:JE}{l:Loc}(h:Mw.agree A B l):Mw.agree B A l:=by cases l<;>exact Eq.symm h
theorem JTg {A:JE}{wx wy:List Wr}(h:∀l∈YO wx,l ∉ YO wy):Same ((A.put wx).put wy) ((A.put wy).put wx):=by
 refine ⟨fun l=>?_,by simp only [JEb]⟩
 by_cases hx:l∈YO wx
 ·have hy:=h l hx
  -- both are what wx put
  have e1:Mw.agree (A.put wx) ((A.put wx).put wy) l:=JCx wy _ l hy
  have e2:Mw.agree (A.put wx) ((A.put wy).put wx) l:=JFt wx (.inl hx)
  exact JD9 (JE1 e1) e2
 ·have e1:Mw.agree (A.put wy) ((A.put wx).put wy) l:=by
   by_cases hy:l∈YO wy
   ·exact JFt wy (.inl hy)
   ·exact JFt wy (.inr (JCx wx A l hx))
  have e2:Mw.agree (A.put wy) ((A.put wy).put wx) l:=JCx wx _ l hx
  exact JD9 (JE1 e1) e2
end swap
structure Fp where
 rs:List Loc
 ws:List Loc
def JG3 (xs ys:List Loc):Bool:=xs.all fun l=>!ys.contains l
def Fp.clash (x y:Fp):Bool:= !(JG3 x.ws y.rs&&JG3 x.ws y.ws&&JG3 y.ws x.rs)
theorem JG4 {xs ys:List Loc}(h:JG3 xs ys=true):∀l∈xs,l ∉ ys:=by
 intro l hl hy
 have:=List.all_eq_true.1 h l hl
 simp [hy] at this
def Qe (P:Program)(ops:Array Oper):List Nat→JE→List Fp→JE→Prop
 |[],A,[],B=>Same A B
 |i::r,A,f::fs,B=>∃o ws,ops[i]? = some o∧YV P ops o A f.rs ws∧f.ws=YO ws∧Qe P ops r (A.put ws) fs B
 |_,_,_,_=>False
section front
variable {P:Program} {ops:Array Oper}
theorem Qe.same:∀ {l:List Nat} {A A':JE} {fs:List Fp} {B:JE},Qe P ops l A fs B→Same A A' → Qe P ops l A' fs B
 |[],A,A',[],B,h,hs=>⟨fun l=>JD9 (JE1 (hs.1 l)) (h.1 l),h.2.trans hs.2.symm⟩
 |[],_,_,_::_,_,h,_=>h.elim
 |_::_,_,_,[],_,h,_=>h.elim
 |i::r,A,A',f::fs,B,h,hs=>by
  obtain ⟨o,ws,h1,h2,h3,h4⟩:=h
  exact ⟨o,ws,h1,h2.agree fun l _=>hs.1 l,h3,h4.same ⟨fun l=>JFt ws (.inr (hs.1 l)),by rw [JEb,JEb];exact hs.2⟩⟩
theorem Qe.front:∀ {l1:List Nat} {i:Nat} {l2:List Nat} {A:JE} {f1:List Fp} {f:Fp} {f2:List Fp} {B:JE},l1.length=f1.length →
  Qe P ops (l1++i::l2) A (f1++f::f2) B→(∀g∈f1,g.clash f=false)→Qe P ops (i::(l1++l2)) A (f::(f1++f2)) B
 |[],i,l2,A,[],f,f2,B,_,h,_=>h
 |[],_,_,_,_::_,_,_,_,hl,_,_=>by simp at hl
 |_::_,_,_,_,[],_,_,_,hl,_,_=>by simp at hl
 |j::l1,i,l2,A,g::f1,f,f2,B,hl,h,hc=>by
  obtain ⟨oj,wj,h1,h2,h3,h4⟩:=h
  have ih:=Qe.front (l1:=l1) (f1:=f1) JB2 h4 fun g hg=>hc g (by simp [hg])
  obtain ⟨oi,wi,k1,k2,k3,k4⟩:=ih
  have hcl:=hc g (by simp)
  simp only [Fp.clash,Bool.not_eq_false',Bool.and_eq_true] at hcl
  obtain ⟨⟨c1,c2⟩,c3⟩:=hcl
  have c1:=JG4 c1
  have c2:=JG4 c2
  have c3:=JG4 c3
  rw [h3] at c1 c2
  rw [k3] at c2 c3
  have k2':YV P ops oi A f.rs wi:=k2.agree fun l hl=>JE1 (JCx wj A l fun hw=>c1 l hw hl)
  have h2':YV P ops oj (A.put wi) g.rs wj:=h2.agree fun l hl=>JCx wi A l fun hw=>c3 l hw hl
  exact ⟨oi,wi,k1,k2',k3,oj,wj,h1,h2',h3,k4.same (JTg c2)⟩
end front
def YR (ops:Array Oper):Nat→Nat→Nat→Bool
 |0,_,_=>false
 |n+1,i,j=>match ops[i]? with
  |some o=>o.after.any fun e=>Region.binds .any e&&(e.on==j || YR ops n e.on j)
  |none=>false
def ZJ (ops:Array Oper)(n:Nat):List (Nat × Fp)→Bool
 |[]=>true
 |(i,f)::r=>(r.all fun p=>!f.clash p.2 || YR ops n p.1 i)&&ZJ ops n r
end Go.Mw
namespace Go.Mw
open Go.RowKit
def JN (A A':JE):Prop:=∀(P:Program) (C:Ctx P) (a:Act) (w:World),J9 C A a w→J9 C A' a w
def WkP (x y:AV):Prop:=∀(S:Jc) (ι:Nat→Value) (H:Nat→Option AO) (w:World) (v:Value),Jk S ι H w x v→Jk S Yc JCJ w y v
def JEp (P:Program)(o:Oper)(A:JE)(K:JE→Prop):Prop:=∀(C:Ctx P) (a:Act) (w:World) (Q:Exit→Act→World→Prop),(∀d,o.dst=some d→C.can d)→J9 C A a w →
 o.wpIn (Qb C) 0 P a w (fun a' w'=>∃A',K A' ∧ J9 C A' a' w') Q
inductive JA (P:Program) (ops:Array Oper) (Φ:JE→Prop):List Oper→JE→Prop
 |nil {A:JE} (h:Φ A):JA P ops Φ [] A
 |eff {o:Oper} {r:List Oper} {A:JE} (rs:List Loc) (ws:List Wr) (h:Z7 P ops o A=some (rs,ws)) (h':JA P ops Φ r (A.put ws)):JA P ops Φ (o::r) A
 |call {o:Oper} {r:List Oper} {A:JE} (ws:List Wr) (hw:J5 ops o.guard A=some true) (h:JDs P o A ws) (h':JA P ops Φ r (A.put ws)):JA P ops Φ (o::r) A
 |geff {o:Oper} {r:List Oper} {A:JE} (b:Bool) (rs:List Loc) (d:Nat) (v:AV) (ho:o.dst=some d) (hw:J5 ops o.guard A=some b) (h:(Qg P o.op o.dst).runS b A (Qt ops o)=some (rs,[.slot d v]))
   (h':JA P ops Φ r (A.put [.slot d (.cnd b v)])):JA P ops Φ (o::r) A
 |gcall {o:Oper} {r:List Oper} {A:JE} (b:Bool) (d:Nat) (v:AV) (ho:o.dst=some d) (hw:J5 ops o.guard A=some b) (h:JDs P o (A.strip b) [.slot d v])
   (h':JA P ops Φ r (A.put [.slot d (.cnd b v)])):JA P ops Φ (o::r) A
 |cally {o:Oper} {r:List Oper} {A:JE} {d:Nat} {f:Operand} {as:List Operand} {g:FuncId} {caps:List AL} {args:List AV} {lend:List (Nat × Nat)} {pre:List (Nat × AO)} {b:Jh} {κ:AV→List (Nat × AO)→Jh}
   (hdst:o.dst=some d) (hw:J5 ops o.guard A=some true) (hop:Yy o.op=some (f,as)) (hf:JDp A (A.ev f) g caps) (hcan:JO P g=true)
   (hwk:JS (Jj (rn lend (1000*(d+1))) (Ql pre)) (as.map A.ev++caps.map .leaf) args) (hcon:Qq P g args pre b) (hok:Z0 A (1000*(d+1)) lend pre b) (hbh:A.bh=b.bind κ)
   (h':∀res obs,b.Leaf res obs→JA P ops Φ r (after A d (rn lend (1000*(d+1))) res obs (κ res obs))):JA P ops Φ (o::r) A
 |inv {o:Oper} {r:List Oper} {A:JE} {d:Nat} {cargs:Array Operand} {cty:Array TypeId} {recv:Operand} {name:String} {t:TypeId} {ag:Bool} {ds:List D} {g:FuncId} {args:List AV} {lend:List (Nat × Nat)} {pre:List (Nat × AO)} {b:Jh} {κ:AV→List (Nat × AO)→Jh}
   (hdst:o.dst=some d) (hw:J5 ops o.guard A=some true) (hop:o.op=.call { callee:=.invoke recv name,args:=cargs,argTypes:=cty }) (hf:A.ev recv=.leaf (.d (.ifc t ag ds))) (hmeth:JBQ P t name=some g) (hcan:JO P g=true)
   (hwk:JS (Jj (rn lend (1000*(d+1))) (Ql pre)) (.val ag (ds.map .d)::cargs.toList.map A.ev) args) (hcon:Qq P g args pre b) (hok:Z0 A (1000*(d+1)) lend pre b) (hbh:A.bh=b.bind κ)
   (h':∀res obs,b.Leaf res obs→JA P ops Φ r (after A d (rn lend (1000*(d+1))) res obs (κ res obs))):JA P ops Φ (o::r) A
 |yl {o:Oper} {r:List Oper} {A:JE} {d c:Nat} {f:Operand} {as:List Operand} {args:List AV} {k:Bool→Jh}
   (hdst:o.dst=some d) (hw:J5 ops o.guard A=some true) (hop:Yy o.op=some (f,as)) (hf:A.ev f=.leaf (.obj c)) (hc:A.obj c=some .yl)
   (hwk:JS WkP (as.map A.ev) args) (hbh:A.bh=.yld args k)
   (h':∀t,JA P ops Φ r ⟨(d,.bool t)::A.tm,A.ob,k t⟩):JA P ops Φ (o::r) A
 |ghost {l:List Oper} {A A':JE} (h:JN A A') (h':JA P ops Φ l A'):JA P ops Φ l A
 |sem {o:Oper} {r:List Oper} {A:JE} {K:JE→Prop} (hw:J5 ops o.guard A=some true) (h:JEp P o A K) (h':∀A',K A' → JA P ops Φ r A'):JA P ops Φ (o::r) A
section sound
variable {P:Program} {C:Ctx P} {M:J7} {A:JE} {a:Act} {w:World} {ops:Array Oper}
theorem Zj {S:Jc}{ι:Nat→Value}(hR:Jg C S M ι A a w){o:Oper}{b:Bool}(h:J5 ops o.guard A=some b):Region.wanted o (yielded ops a.tmps)=b:=by
 unfold J5 at h
 unfold Region.wanted
 cases hg:o.guard with
 |none=>simp only [hg,Option.some.injEq] at h;exact h
 |some p=>
  obtain ⟨j,want⟩:=p
  simp only [hg] at h ⊢
  cases hs:(ops[j]?).bind (·.dst) with
  |none=>simp [hs] at h
  |some s=>
   simp only [hs] at h
   have hrep:=hR.tms s
   unfold JKQ at h
   unfold yielded
   simp only [hs,Option.bind_some]
   split at h
   ·rename_i b' e
    rw [e] at hrep
    have hv:=Qm (Jl hrep)
    simp only [Option.some.injEq] at h
    have:a.tmps[s]? = some (.bool b'):=by
     rw [Array.getD_eq_getD_getElem?] at hv
     cases hq:a.tmps[s]? with
     |none=>simp [hq,undef] at hv
     |some v=>simpa [hq] using hv
    rw [this]
    subst h
    cases b' <;> cases want<;>rfl
   ·rename_i vs e
    rw [e] at hrep
    obtain ⟨us,hv,_⟩:=hrep
    simp only [Option.some.injEq] at h
    subst h
    cases hq:a.tmps[s]? with
    |none=>rfl
    |some v=>
     rw [Array.getD_eq_getD_getElem?,hq] at hv
     simp at hv
     subst hv
     rfl
   ·rename_i hc b' e
    rw [e] at hrep
    simp only [Option.some.injEq] at h
    cases hc with
    |true=>
     have hv:=Qm (Jl (hrep.1 rfl))
     have:a.tmps[s]? = some (.bool b'):=by
      rw [Array.getD_eq_getD_getElem?] at hv
      cases hq:a.tmps[s]? with
      |none=>simp [hq,undef] at hv
      |some v=>simpa [hq] using hv
     rw [this]
     subst h
     cases b' <;> cases want<;>rfl
    |false=>
     have hv:=hrep.2 rfl
     simp only [Bool.false_and] at h
     subst h
     cases hq:a.tmps[s]? with
     |none=>rfl
     |some v=>
      rw [Array.getD_eq_getD_getElem?,hq] at hv
      simp [undef] at hv
      subst hv
      rfl
   ·cases h
theorem JTw {S:Jc}{ι:Nat→Value}(hR:Jg C S M ι A a w){o:Oper}(hd:∀d,o.dst=some d→C.can d):J9 C (A.put (JF9 o)) (a.put o.dst undef) w:=by
 unfold JF9
 cases ho:o.dst with
 |none=>exact ⟨S,M,ι,hR⟩
 |some d=>exact ⟨S,M,ι,hR.slot (hd d ho) ⟨[],rfl,trivial⟩⟩
theorem JJv {A':JE}(hs:Same A A')(h:J9 C A a w):J9 C A' a w:=by
 obtain ⟨S,M,ι,hR⟩:=h
 have ho:A'.obj=A.obj:=funext fun o=>hs.1 (.obj o)
 refine ⟨S,M,ι,hR.sub,hR.new,hR.inn,hR.minn,hR.sz,fun s=>?_,?_,?_,?_,?_,?_,hR.fixed,hR.marks,hR.rdok,?_,hR.pinN⟩
 ·have e:A'.get s=A.get s:=hs.1 (.slot s)
  rw [ho,e];exact hR.tms s
 ·rw [ho];exact hR.objs
 ·rw [ho];exact hR.dis
 ·rw [ho];exact hR.own
 ·rw [hs.2];exact hR.env
 ·rw [ho];exact hR.tok
 ·rw [ho];exact hR.pinned
theorem JCF {A A':JE}(hv:∀(S:Jc) (ι:Nat→Value) (w:World) (s:Nat) (v:Value),Jk S ι A.obj w (A.get s) v→Jk S ι A'.obj w (A'.get s) v)
  (ho:∀(S:Jc) (ι:Nat→Value) (w:World) (o:Nat) (x':AO),A'.obj o=some x' → ∃x,A.obj o=some x∧(Yw S ι A.obj w o x→Yw S ι A'.obj w o x')∧(x'=.yl→x=.yl)∧∀u v n,x.pinned u v n→x'.pinned u v n) (hb:A'.bh=A.bh:=by rfl):JN A A':=by
 intro P C a w ⟨S,M,ι,hR⟩
 refine ⟨S,M,ι,hR.sub,hR.new,hR.inn,hR.minn,hR.sz,fun s=>hv S ι w s _ (hR.tms s),fun o x' h=>?_,fun o o' x x' b h h'=>?_,fun o x b h=>?_,?_,fun o h=>?_,hR.fixed,hR.marks,hR.rdok,fun q u n x h1 h2=>?_,hR.pinN⟩
 ·obtain ⟨x,hx,hok,_⟩:=ho S ι w o x' h
  exact hok (hR.objs o x hx)
 ·obtain ⟨y,hy,_⟩:=ho S ι w o x h
  obtain ⟨y',hy',_⟩:=ho S ι w o' x' h'
  exact hR.dis o o' y y' b hy hy'
 ·obtain ⟨y,hy,_⟩:=ho S ι w o x h
  exact hR.own o y b hy
 ·rw [hb];exact hR.env
 ·obtain ⟨y,hy,_,ht,_⟩:=ho S ι w o _ h
  rw [ht rfl] at hy
  exact hR.tok o hy
 ·obtain ⟨y,hy,_,_,hp⟩:=ho S ι w q _ h2
  exact hp _ _ _ (hR.pinned q u n y h1 hy)
theorem JMK (A:JE):JN A (A.strip true):=
 JCF (fun S ι w s v h=>by rw [JHO];exact JKJ rfl h) fun S ι w o x' h=>⟨x',h,fun h=>h,fun h=>h,fun _ _ _ h=>h⟩
theorem JVb {S:Jc}{ι:Nat→Value}{H:Nat→Option AO}{w:World}{x:AV}{v:Value}(h:Jk S ι H w (x.strip true) v):Jk S ι H w x v:=by
 cases x with
 |cnd c y=>
  simp only [AV.strip] at h
  split at h
  ·rename_i e;exact ⟨fun _=>h,fun hf=>by rw [e] at hf;cases hf⟩
  ·exact h
 |_=>exact h
theorem JML (A:JE)(d:Nat)(v:AV):JN ((A.strip true).put [.slot d v]) (A.put [.slot d (.cnd true v)]):=by
 refine JCF (fun S ι w s u h=>?_) fun S ι w o x' h=>⟨x',h,fun h=>h,fun h=>h,fun _ _ _ h=>h⟩
 by_cases hs:s=d
 ·subst hs
  have e1:((A.strip true).put [.slot s v]).get s=v:=by simp [JE.put,JE.put1,JE.get,look]
  have e2:(A.put [.slot s (.cnd true v)]).get s=.cnd true v:=by simp [JE.put,JE.put1,JE.get,look]
  rw [e1] at h;rw [e2]
  exact ⟨fun _=>h,fun hf=>by cases hf⟩
 ·have e1:((A.strip true).put [.slot d v]).get s=(A.get s).strip true:=by rw [←JHO];simp [JE.put,JE.put1,JE.get,look,hs]
  have e2:(A.put [.slot d (.cnd true v)]).get s=A.get s:=by simp [JE.put,JE.put1,JE.get,look,hs]
  rw [e1] at h;rw [e2]
  exact JVb h
theorem Jg.kept {S:Jc}{ι:Nat→Value}{w':World}{b:Jh}(hR:Jg C S M ι A a w)(hk:JEn S M w w')(hJ:C.E.J b S M w'):Jg C S M ι ⟨A.tm,A.ob,b⟩ a w':=by
 have hm:Mv S ι A.obj w S ι A.obj w':=⟨fun _ _ h=>h.mono (fun _ _ h=>h) fun b o h=>hk.cell b o h,fun o ls h=>⟨⟨ls,h⟩,rfl⟩,fun o e k es h=>⟨es,h,Nat.le_refl _,fun _=>rfl⟩,fun _ _ h=>⟨h,hk.cell _ _ h⟩,fun o x h hx=>⟨⟨x,h,hx⟩,rfl⟩⟩
 exact ⟨hR.sub,hR.new,fun b o h=>Nat.lt_of_lt_of_le (hR.inn b o h) hk.size,fun b h=>Nat.lt_of_lt_of_le (hR.minn b h) hk.size,hR.sz,fun s=>hm.v (hR.tms s),
  fun o x h=>(hR.objs o x h).other hm rfl (fun b hb=>hk.block b (hR.own o x b h hb)) fun _ _ _ h=>h,hR.dis,hR.own,hJ,hR.tok,hR.fixed,
  (by obtain ⟨rs,h1,h2,h3⟩:=hR.marks;exact ⟨rs,h1,h2,fun r hr=>⟨(h3 r hr).1,(hk.block r (h3 r hr).1).trans (h3 r hr).2⟩⟩),
  fun l r h=>⟨(hR.rdok l r h).1,(hk.block l (hR.rdok l r h).1).trans (hR.rdok l r h).2⟩,hR.pinned,hR.pinN⟩
theorem JU4 {S:Jc}{ι:Nat→Value}(hR:Jg C S M ι A a w){o:Oper}(hd:∀d,o.dst=some d→C.can d){d c:Nat}{f:Operand}{as:List Operand}{args:List AV}{k:Bool→Jh}
  (hdst:o.dst=some d) (hop:Yy o.op=some (f,as)) (hf:A.ev f=.leaf (.obj c)) (hc:A.obj c=some .yl) (hwk:JS WkP (as.map A.ev) args) (hbh:A.bh=.yld args k) (Q:Exit→Act→World→Prop) :
  o.wpIn (Qb C) 0 P a w (fun a' w'=>∃t,J9 C ⟨(d,.bool t)::A.tm,A.ob,k t⟩ a' w') Q:=by
 have hfv:=QF hR f
 rw [hf] at hfv
 obtain ⟨_,hfv,_⟩:=Jl hfv
 rw [hR.tok c hc] at hfv
 cases hop':o.op<;>rw [hop'] at hop<;>try (simp [Yy] at hop;done)
 rename_i cl
 obtain ⟨callee,cargs,cty⟩:=cl
 cases callee<;>simp only [Yy,reduceCtorEq,Option.some.injEq,Prod.mk.injEq] at hop
 rename_i f'
 obtain ⟨rfl,rfl⟩:=hop
 have hargs:JS (Jk S Yc JCJ w) args (cargs.toList.map a.eval):=by
  have h3:=JBT hR cargs.toList
  generalize (cargs.toList.map A.ev)=l1 at hwk h3
  generalize (cargs.toList.map a.eval)=l2 at h3 ⊢
  clear hbh
  induction args generalizing l1 l2 with
  |nil=>cases l1 with
   |nil=>cases l2 with
    |nil=>trivial
    |cons _ _=>exact h3.elim
   |cons _ _=>exact hwk.elim
  |cons y ys ih=>cases l1 with
   |nil=>exact hwk.elim
   |cons x xs=>cases l2 with
    |nil=>exact h3.elim
    |cons v vs=>exact ⟨hwk.1 S ι A.obj w v h3.1,ih xs hwk.2 vs h3.2⟩
 have hJ:=hR.env
 rw [hbh] at hJ
 obtain ⟨fn,tmps,assign,body,hy,hRd⟩:=C.E.yld hJ hargs
 have e1:cargs.map a.eval=(cargs.toList.map a.eval).toArray:=by apply Array.ext';simp
 have hexec:(execOp a.eval o).run P w=.ok (.round C.E.l fn tmps assign body) w:=by
  simp only [execOp,hop',resolve,hfv,Deferred.ofValue,invoke,e1]
  simpa using hy
 refine JBZ hexec JBE ?_
 rw [Oper.uponIn_round]
 refine ⟨JDP C,JT2 C (hRd.mono fun e w' ⟨t,he,hk,hJ'⟩=>?_)⟩
 subst he
 refine ⟨t,?_⟩
 rw [hdst]
 exact ⟨S,M,ι,(hR.kept hk hJ').slot (av:=.bool t) (hd d hdst) (Ye rfl)⟩
theorem JBx {Q:Exit→Act→World→Prop}{o:Oper}{K:Act→World→Prop}{rs:List Loc}{ws:List Wr}(hR:J9 C A a w)(hd:∀d,o.dst=some d→C.can d)
  (h:YV P ops o A rs ws) (hK:∀a' w',J9 C (A.put ws) a' w' → K a' w') :
  if Region.wanted o (yielded ops a.tmps) then o.wpIn (Qb C) 0 P a w K Q else (∀f,o.about P w a.eval=some f→(Qb C).fn f)∧K (a.put o.dst undef) w:=by
 have hR0:=hR
 obtain ⟨S,M,ι,hR⟩:=hR
 have hfn:∀f,o.about P w a.eval=some f→(Qb C).fn f:=fun f _=>JEM C f
 cases h with
 |geff _ b d v ho hw h=>
  cases b with
  |false=>rw [if_neg (by rw [Zj hR hw];simp),ho];exact ⟨hfn,hK _ _ ⟨S,M,ι,hR.slot (hd d ho) ⟨(fun h=>by cases h),fun _=>rfl⟩⟩⟩
  |true=>
   rw [if_pos (Zj hR hw)]
   obtain ⟨S',M',ι',hR'⟩:=JMK A P C a w hR0
   exact Oper.wpIn_mono (fun a' w' h=>hK a' w' (JML A d v P C a' w' h)) (JC6 (JKF hR' hd h) Q)
 |gcall rs' b d v ho hw h=>
  cases b with
  |false=>rw [if_neg (by rw [Zj hR hw];simp),ho];exact ⟨hfn,hK _ _ ⟨S,M,ι,hR.slot (hd d ho) ⟨(fun h=>by cases h),fun _=>rfl⟩⟩⟩
  |true=>
   rw [if_pos (Zj hR hw)]
   obtain ⟨S',M',ι',hR'⟩:=JMK A P C a w hR0
   exact Oper.wpIn_mono (fun a' w' h=>hK a' w' (JML A d v P C a' w' h)) (JOE hR' hd h.plain Q)
 |eff _ _ hw h=>rw [if_pos (Zj hR hw)];exact Oper.wpIn_mono hK (JC6 (JKF hR hd h) Q)
 |call rs' _ hw h=>rw [if_pos (Zj hR hw)];exact Oper.wpIn_mono hK (JOE hR hd h.plain Q)
 |skip hw=>rw [if_neg (by rw [Zj hR hw];simp)];exact ⟨hfn,hK _ _ (JTw hR hd)⟩
 |lend rs' _ hw h=>
  rw [if_pos (Zj hR hw)]
  obtain ⟨d,f,as,g,ds,args,res,q,n,x,h1,h2,h3,h4,h5,h6,⟨h7,hfl⟩,rfl,rfl⟩:=h
  refine Oper.wpIn_mono (fun a' w' h=>hK a' w' ?_) (JHs hR hd h1 h2 (.inl ⟨ds,h3,rfl⟩) h4 (by rw [List.map_map];exact h5) h6 (JQ1 h7 hfl) (κ:=fun _ _=>A.bh) rfl Q)
  obtain ⟨res',obs',hl,hR'⟩:=h
  obtain ⟨e1,e2⟩:=hl.inv
  subst e1 e2
  have hr:rn [(q,n)] (1000*(d+1)) q=n:=by simp [rn,look]
  have:after A d (rn [(q,n)] (1000*(d+1))) res' [(q,x)] A.bh=A.put [.obj n x,.slot d (res'.ren (rn [(q,n)] (1000*(d+1))))]:=by
   simp [after,hr,(AO.flat_ok hfl (rn [(q,n)] (1000*(d+1))) []).1,JE.put,JE.put1]
  rw [←this];exact hR'
 |wk _ ws0 _ hw h hg=>rw [if_pos (Zj hR hw)];exact Oper.wpIn_mono (fun a' w' h2=>hK a' w' (hg A (fun l _=>by cases l<;>rfl) C a w a' w' hR0 h2)) (JC6 (JKF hR hd h) Q)
 |sem rs' _ hw h=>rw [if_pos (Zj hR hw)];exact Oper.wpIn_mono hK (h A (fun l _=>by cases l<;>rfl) C a w Q hd hR0)
theorem JDs.full {o:Oper}{ws:List Wr}(h:JDs P o A ws):∃rs,JCP P o A rs ws:=by
 obtain ⟨d,f,as,g,ds,args,res,obs,h1,h2,h3,h4,h5,h6,h7,h8⟩:=h
 exact ⟨_,d,f,as,g,ds,args,res,obs,h1,h2,h3,h4,h5,h6,h7,h8,rfl⟩
theorem JHv {o:Oper}{rs:List Loc}{ws:List Wr}(h:Z7 P ops o A=some (rs,ws)):YV P ops o A rs ws:=by
 unfold Z7 at h
 split at h
 ·rename_i hw;exact .eff rs ws hw h
 ·rename_i hw
  simp only [Option.some.injEq,Prod.mk.injEq] at h
  obtain ⟨rfl,rfl⟩:=h
  exact .skip hw
 ·cases h
theorem JN1 {Q:Exit→Act→World→Prop}{Φ:JE→Prop}{l:List Oper}(h:JA P ops Φ l A) :
  (∀o∈l,∀d,o.dst=some d→C.can d)→∀(a:Act) (w:World),J9 C A a w→(∀A' a' w',Φ A' → J9 C A' a' w' → Q .normal a' w')→wpListIn (Qb C) 0 P ops Q l a w:=by
 induction h with
 |nil h=>exact fun _ a w hR hQ=>hQ _ a w h hR
 |eff rs ws h _ ih=>
  intro hd a w hR hQ
  unfold wpListIn
  exact JBx hR (hd _ (by simp)) (JHv h) fun a' w' hR'=>ih (fun o ho=>hd o (by simp [ho])) a' w' hR' hQ
 |call ws hw h _ ih=>
  intro hd a w hR hQ
  obtain ⟨rs,h⟩:=h.full
  unfold wpListIn
  exact JBx hR (hd _ (by simp)) (.call rs ws hw h) fun a' w' hR'=>ih (fun o ho=>hd o (by simp [ho])) a' w' hR' hQ
 |geff b rs d v ho hw h _ ih=>
  intro hd a w hR hQ
  unfold wpListIn
  exact JBx hR (hd _ (by simp)) (.geff rs b d v ho hw (by rw [←Ev.runS_eq];exact h)) fun a' w' hR'=>ih (fun o ho=>hd o (by simp [ho])) a' w' hR' hQ
 |gcall b d v ho hw h _ ih=>
  intro hd a w hR hQ
  obtain ⟨rs,h⟩:=h.full
  unfold wpListIn
  exact JBx hR (hd _ (by simp)) (.gcall rs b d v ho hw h) fun a' w' hR'=>ih (fun o ho=>hd o (by simp [ho])) a' w' hR' hQ
 |cally hdst hw hop hf hcan hwk hcon hok hbh _ ih=>
  intro hd a w hR hQ
  obtain ⟨S,M,ι,hR⟩:=hR
  unfold wpListIn
  rw [if_pos (Zj hR hw)]
  refine Oper.wpIn_mono (fun a' w' h=>?_) (JHs hR (hd _ (by simp)) hdst hop hf hcan hwk hcon hok hbh Q)
  obtain ⟨res,obs,hl,hR'⟩:=h
  exact ih res obs hl (fun o ho=>hd o (by simp [ho])) a' w' hR' hQ
 |inv hdst hw hop hf hmeth hcan hwk hcon hok hbh _ ih=>
  intro hd a w hR hQ
  obtain ⟨S,M,ι,hR⟩:=hR
  unfold wpListIn
  rw [if_pos (Zj hR hw)]
  refine Oper.wpIn_mono (fun a' w' h=>?_) (JOH hR (hd _ (by simp)) hdst hop hf hmeth hcan hwk hcon hok hbh Q)
  obtain ⟨res,obs,hl,hR'⟩:=h
  exact ih res obs hl (fun o ho=>hd o (by simp [ho])) a' w' hR' hQ
 |yl hdst hw hop hf hc hwk hbh _ ih=>
  intro hd a w hR hQ
  obtain ⟨S,M,ι,hR⟩:=hR
  unfold wpListIn
  rw [if_pos (Zj hR hw)]
  refine Oper.wpIn_mono (fun a' w' h=>?_) (JU4 hR (hd _ (by simp)) hdst hop hf hc hwk hbh Q)
  obtain ⟨t,hR'⟩:=h
  exact ih t (fun o ho=>hd o (by simp [ho])) a' w' hR' hQ
 |ghost h _ ih=>exact fun hd a w hR hQ=>ih hd a w (h P C a w hR) hQ
 |sem hw h _ ih=>
  intro hd a w hR hQ
  have hR0:=hR
  obtain ⟨S,M,ι,hR⟩:=hR
  unfold wpListIn
  rw [if_pos (Zj hR hw)]
  refine Oper.wpIn_mono (fun a' w' h=>?_) (h C a w Q (hd _ (by simp)) hR0)
  obtain ⟨A',hk,hR'⟩:=h
  exact ih A' hk (fun o ho=>hd o (by simp [ho])) a' w' hR' hQ
def down (ops:Array Oper):Bool:=(List.range ops.size).all fun i=>match ops[i]? with
 |some o=>o.after.all fun e=>!Region.binds .any e || e.on<i
 |none=>true
def JO6 (P:Program)(ops:Array Oper)(Φ:JE→Prop)(A:JE):Prop:=
 ∃(n p:Nat) (op:Oper) (fs:List Fp) (B:JE) (K:JE→Prop),ops[p]? = some op∧ops.size=p+1∧Qe P ops (List.range p) A fs B∧fs.length=p∧down ops=true∧ZJ ops n ((List.range p).zip fs)=true ∧
  (∀i,i<p→YR ops n p i=true)∧J5 ops op.guard B=some true∧JEp P op B K∧∀B',K B' → Φ B'
def Open (P:Program)(ops:Array Oper)(Φ:JE→Prop)(A:JE):Prop:=
 (∃(n:Nat) (fs:List Fp) (B:JE),Qe P ops (List.range ops.size) A fs B∧fs.length=ops.size∧down ops=true∧ZJ ops n ((List.range ops.size).zip fs)=true∧Φ B)∨JO6 P ops Φ A
theorem JDL {listed:Array Bool}(hclosed:∀i o,ops[i]? = some o→listed.getD i false=true→∀e∈o.after,Region.binds .any e=true→listed.getD e.on false=true) :
  ∀(n i j:Nat) (o:Oper),ops[i]? = some o→(∀e∈o.after,Region.binds .any e=true→listed.getD e.on false=true)→YR ops n i j=true→listed.getD j false=true
 |0,_,_,_,_,_,h=>by simp [YR] at h
 |n+1,i,j,o,ho,ha,h=>by
  simp only [YR,ho] at h
  obtain ⟨k,hk,h⟩:=Array.any_eq_true.1 h
  have he:o.after[k]∈o.after:=Array.getElem_mem hk
  generalize o.after[k]=e at he h
  simp only [Bool.and_eq_true,Bool.or_eq_true,beq_iff_eq] at h
  obtain ⟨hb,h⟩:=h
  have hl:=ha e he hb
  rcases h with h|h
  ·rw [←h];exact hl
  ·cases hoe:ops[e.on]? with
   |none=>cases n<;>simp [YR,hoe] at h
   |some oe=>exact JDL hclosed n e.on j oe hoe (hclosed e.on oe hoe hl) h
theorem JFo {n:Nat}:∀ {l1:List (Nat × Fp)} {p:Nat × Fp} {l2:List (Nat × Fp)},ZJ ops n (l1++p::l2)=true→(∀q∈l1,q.2.clash p.2=true→YR ops n p.1 q.1=true)∧ZJ ops n (l1++l2)=true
 |[],p,l2,h=>by
  simp only [List.nil_append,ZJ,Bool.and_eq_true] at h
  exact ⟨by simp,h.2⟩
 |(j,g)::l1,p,l2,h=>by
  simp only [List.cons_append,ZJ,Bool.and_eq_true,List.all_append,List.all_cons] at h
  obtain ⟨⟨h1,h2,h3⟩,h4⟩:=h
  obtain ⟨k1,k2⟩:=JFo h4
  refine ⟨fun q hq hc=>?_,?_⟩
  ·rcases List.mem_cons.1 hq with rfl|hq
   ·simpa [hc] using h2
   ·exact k1 q hq hc
  ·simp only [List.cons_append,ZJ,Bool.and_eq_true,List.all_append]
   exact ⟨⟨h1,h3⟩,k2⟩
theorem JG5 (h:down ops=true){i:Nat}{o:Oper}(ho:ops[i]? = some o):∀e∈o.after,Region.binds .any e=true→e.on<i:=by
 intro e he hb
 have hi:i<ops.size:=(Array.getElem?_eq_some_iff.1 ho).1
 have:=List.all_eq_true.1 h i (List.mem_range.2 hi)
 simp only [ho] at this
 have:=Array.all_eq_true_iff_forall_mem.1 this e he
 simpa [hb] using this
theorem JSi {Q:Exit→Act→World→Prop}{B:JE}{n:Nat}(hdown:down ops=true)(hd:∀(i:Nat) (o:Oper),ops[i]? = some o→∀d,o.dst=some d→C.can d)(hQ:∀a' w',J9 C B a' w' → Q .normal a' w') :
  ∀(fuel:Nat) (listed:Array Bool) (l:List Nat) (fs:List Fp) (A:JE) (a:Act) (w:World),l.length=fuel→fs.length=fuel→listed.size=ops.size →
  (∀i,i∈l↔i<ops.size∧listed.getD i true=false)→l.Pairwise (· < ·) →
  (∀(i:Nat) (o:Oper),ops[i]? = some o→listed.getD i false=true→∀e∈o.after,Region.binds .any e=true→listed.getD e.on false=true) →
  Qe P ops l A fs B→ZJ ops n (l.zip fs)=true→J9 C A a w→(∀k,fuel≤k→wpAnyIn (Qb C) 0 P .any ops Q k listed a w):=by
 intro fuel
 induction fuel with
 |zero=>
  intro listed l fs A a w hl hf hsz hmem hnd hcl hrun hord hR k _
  have hl0:l=[]:=List.eq_nil_of_length_eq_zero hl
  have hf0:fs=[]:=List.eq_nil_of_length_eq_zero hf
  subst hl0 hf0
  have hr:Region.ready .any ops listed=[]:=by
   apply List.eq_nil_iff_forall_not_mem.2
   intro i hi
   obtain ⟨h0,o,ho,_⟩:=mem_ready.1 hi
   have:=(hmem i).2 ⟨(Array.getElem?_eq_some_iff.1 ho).1,h0⟩
   simp at this
  exact wpAnyIn_done hr (hQ a w (JJv hrun hR)) k
 |succ m ih=>
  intro listed l fs A a w hl hf hsz hmem hnd hcl hrun hord hR k hk
  obtain ⟨k,rfl⟩:∃k',k=k'+1:=⟨k-1,by omega⟩
  have hgd:∀j d,j<ops.size→listed.getD j d=listed.getD j true:=fun j d hj=>by
   simp [Array.getD_eq_getD_getElem?,Array.getElem?_eq_getElem (show j<listed.size by omega)]
  refine ⟨fun hr=>?_,fun i hi=>?_⟩
  ·exfalso
   cases l with
   |nil=>simp at hl
   |cons i l=>
   have hi:=(hmem i).1 (by simp)
   have:i∈Region.ready .any ops listed:=by
    refine mem_ready.2 ⟨hi.2,ops[i]'hi.1,Array.getElem?_eq_getElem hi.1,fun e he hb=>?_⟩
    have hlt:=JG5 hdown (Array.getElem?_eq_getElem hi.1) e he hb
    have hlt':e.on<ops.size:=by omega
    rw [hgd _ _ hlt']
    cases hv:listed.getD e.on true with
    |true=>rfl
    |false=>
     have hm:=(hmem e.on).2 ⟨hlt',hv⟩
     rcases List.mem_cons.1 hm with h|h
     ·omega
     ·have:=(List.pairwise_cons.1 hnd).1 _ h;omega
   rw [hr] at this
   simp at this
  ·obtain ⟨h0,o,ho,haft⟩:=mem_ready.1 hi
   have hil:i∈l:=(hmem i).2 ⟨(Array.getElem?_eq_some_iff.1 ho).1,h0⟩
   obtain ⟨l1,l2,rfl⟩:=List.append_of_mem hil
   -- the footprints, in the same parts
   have hf1:(fs.take l1.length).length=l1.length:=by simp at hl ⊢;omega
   obtain ⟨f,f2,hf2⟩:∃f f2,fs.drop l1.length=f::f2:=by
    cases hq:fs.drop l1.length with
    |nil=>have:=congrArg List.length hq;simp at this hl;omega
    |cons f f2=>exact ⟨f,f2,rfl⟩
   have hfs:fs=fs.take l1.length++f::f2:=by rw [←hf2,List.take_append_drop]
   generalize fs.take l1.length=f1 at hf1 hfs
   subst hfs
   have hzip:(l1++i::l2).zip (f1++f::f2)=l1.zip f1++(i,f)::l2.zip f2:=by
    rw [List.zip_append hf1.symm];rfl
   rw [hzip] at hord
   obtain ⟨hclash,hord'⟩:=JFo hord
   have hnone:∀g∈f1,g.clash f=false:=by
    intro g hg
    obtain ⟨q,hq⟩:=List.getElem?_of_mem hg
    have hql:q<l1.length:=by rw [←hf1];exact (List.getElem?_eq_some_iff.1 hq).1
    have hz:(l1[q],g)∈l1.zip f1:=by
     refine List.mem_of_getElem? (i:=q) ?_
     rw [List.getElem?_zip_eq_some]
     exact ⟨List.getElem?_eq_getElem hql,hq⟩
    cases hc:g.clash f with
    |false=>rfl
    |true=>
     have hdep:=hclash _ hz hc
     have:=JDL hcl n i l1[q] o ho haft hdep
     have hm:=(hmem l1[q]).1 (by simp)
     rw [hgd _ _ hm.1,hm.2] at this
     cases this
   obtain ⟨o',ws,ho',hst,hws,hrest⟩:=Qe.front hf1.symm hrun hnone
   rw [ho] at ho'
   simp only [Option.some.injEq] at ho'
   subst ho'
   have hpw:=List.pairwise_append.1 hnd
   have hnd':(l1++l2).Pairwise (· < ·):=List.pairwise_append.2 ⟨hpw.1,(List.pairwise_cons.1 hpw.2.1).2,fun x hx y hy=>hpw.2.2 x hx y (by simp [hy])⟩
   have hni:i ∉ l1++l2:=by
    intro hin
    rcases List.mem_append.1 hin with h|h
    ·have:=hpw.2.2 i h i (by simp);omega
    ·have:=(List.pairwise_cons.1 hpw.2.1).1 i h;omega
   have hmem':∀j,j∈l1++l2↔j<ops.size∧(listed.setIfInBounds i true).getD j true=false:=by
    intro j
    by_cases hji:i=j
    ·subst hji
     have hilt:i<listed.size:=by rw [hsz];exact (Array.getElem?_eq_some_iff.1 ho).1
     have ht:(listed.setIfInBounds i true).getD i true=true:=by simp [Array.getD_eq_getD_getElem?,hilt]
     rw [ht]
     exact ⟨fun h=>absurd h hni,fun h=>by cases h.2⟩
    ·rw [getD_set_ne true hji,←hmem j]
     simp [Ne.symm hji]
   have hcl':∀(j:Nat) (oj:Oper),ops[j]? = some oj→(listed.setIfInBounds i true).getD j false=true→∀e∈oj.after,Region.binds .any e=true→(listed.setIfInBounds i true).getD e.on false=true:=by
    intro j oj hj hlj e he hb
    by_cases hji:i=j
    ·subst hji
     rw [ho] at hj;simp only [Option.some.injEq] at hj;subst hj
     exact getD_set_true (haft e he hb)
    ·rw [getD_set_ne false hji] at hlj
     exact getD_set_true (hcl j oj hj hlj e he hb)
   unfold wpOpIn
   rw [ho]
   have:=JBx (Q:=Q) (K:=wpAnyIn (Qb C) 0 P .any ops Q k (listed.setIfInBounds i true)) hR (hd i o ho) hst fun a' w' hR'=>
    ih (listed.setIfInBounds i true) (l1++l2) (f1++f2) _ a' w' (by simp at hl ⊢;omega) (by simp at hf ⊢;omega) (by simpa using hsz) hmem' hnd' hcl' hrest (by rw [List.zip_append hf1.symm];exact hord') hR' k (by omega)
   exact this
theorem JSj {Q:Exit→Act→World→Prop}{B:JE}{n p:Nat}{op:Oper}{K0:JE→Prop}(hop:ops[p]? = some op)(hsz0:ops.size=p+1)(hall:∀i,i<p→YR ops n p i=true)(hw0:J5 ops op.guard B=some true)(hsem:JEp P op B K0)(hdown:down ops=true)(hd:∀(i:Nat) (o:Oper),ops[i]? = some o→∀d,o.dst=some d→C.can d)(hQ:∀B' a' w',K0 B' → J9 C B' a' w' → Q .normal a' w') :
  ∀(fuel:Nat) (listed:Array Bool) (l:List Nat) (fs:List Fp) (A:JE) (a:Act) (w:World),l.length=fuel→fs.length=fuel→listed.size=ops.size →
  (∀i,i∈l↔i<p∧listed.getD i true=false)→listed.getD p true=false→l.Pairwise (· < ·) →
  (∀(i:Nat) (o:Oper),ops[i]? = some o→listed.getD i false=true→∀e∈o.after,Region.binds .any e=true→listed.getD e.on false=true) →
  Qe P ops l A fs B→ZJ ops n (l.zip fs)=true→J9 C A a w→(∀k,fuel+1≤k→wpAnyIn (Qb C) 0 P .any ops Q k listed a w):=by
 intro fuel
 induction fuel with
 |zero=>
  intro listed l fs A a w hl hf hsz hmem hpl hnd hcl hrun hord hR k hk
  obtain ⟨k,rfl⟩:∃k',k=k'+1:=⟨k-1,by omega⟩
  have hl0:l=[]:=List.eq_nil_of_length_eq_zero hl
  have hf0:fs=[]:=List.eq_nil_of_length_eq_zero hf
  subst hl0 hf0
  have hgd:∀j d,j<ops.size→listed.getD j d=listed.getD j true:=fun j d hj=>by
   simp [Array.getD_eq_getD_getElem?,Array.getElem?_eq_getElem (show j<listed.size by omega)]
  have hon:∀j,j<p→listed.getD j true=true:=fun j hj=>by
   cases h:listed.getD j true with
   |true=>rfl
   |false=>exact absurd ((hmem j).2 ⟨hj,h⟩) (by simp)
  refine ⟨fun hr=>?_,fun i hi=>?_⟩
  ·exfalso
   have:p∈Region.ready .any ops listed:=mem_ready.2 ⟨hpl,op,hop,fun e he hb=>by
    have hlt:=JG5 hdown hop e he hb
    rw [hgd _ _ (by omega)];exact hon _ hlt⟩
   rw [hr] at this;simp at this
  ·obtain ⟨h0,o,ho,haft⟩:=mem_ready.1 hi
   have hil:=(Array.getElem?_eq_some_iff.1 ho).1
   have hip:i=p:=by
    rcases Nat.lt_or_ge i p with h|h
    ·rw [hon i h] at h0;cases h0
    ·omega
   subst hip
   rw [hop] at ho;simp only [Option.some.injEq] at ho;subst ho
   have hRB:=JJv hrun hR
   have hRB0:=hRB
   obtain ⟨S,M,ι,hRL⟩:=hRB0
   unfold wpOpIn
   rw [hop]
   have hres:op.wpIn (Qb C) 0 P a w (wpAnyIn (Qb C) 0 P .any ops Q k (listed.setIfInBounds i true)) Q:=by
    refine Oper.wpIn_mono (fun a' w' h=>?_) (hsem C a w Q (hd i op hop) hRB)
    obtain ⟨B',hk,hR'⟩:=h
    have hr:Region.ready .any ops (listed.setIfInBounds i true)=[]:=by
     apply List.eq_nil_iff_forall_not_mem.2
     intro j hj
     obtain ⟨h1,o,ho,_⟩:=mem_ready.1 hj
     have hjl:=(Array.getElem?_eq_some_iff.1 ho).1
     by_cases hji:i=j
     ·subst hji
      have hilt:i<listed.size:=by omega
      have:(listed.setIfInBounds i true).getD i true=true:=by simp [Array.getD_eq_getD_getElem?,hilt]
      rw [this] at h1;cases h1
     ·rw [getD_set_ne true hji] at h1
      rw [hon j (by omega)] at h1;cases h1
    exact wpAnyIn_done hr (hQ B' a' w' hk hR') k
   first
    |exact hres
    |(simp only [];rw [if_pos (Zj hRL hw0)];exact hres)
    |(show (if _ then _ else _:Prop);rw [if_pos (Zj hRL hw0)];exact hres)
 |succ m ih=>
  intro listed l fs A a w hl hf hsz hmem hpl hnd hcl hrun hord hR k hk
  obtain ⟨k,rfl⟩:∃k',k=k'+1:=⟨k-1,by omega⟩
  have hgd:∀j d,j<ops.size→listed.getD j d=listed.getD j true:=fun j d hj=>by
   simp [Array.getD_eq_getD_getElem?,Array.getElem?_eq_getElem (show j<listed.size by omega)]
  refine ⟨fun hr=>?_,fun i hi=>?_⟩
  ·exfalso
   cases l with
   |nil=>simp at hl
   |cons i l=>
   have hi:=(hmem i).1 (by simp)
   have:i∈Region.ready .any ops listed:=by
    have hi1:i<ops.size:=by omega
    refine mem_ready.2 ⟨hi.2,ops[i]'hi1,Array.getElem?_eq_getElem hi1,fun e he hb=>?_⟩
    have hlt:=JG5 hdown (Array.getElem?_eq_getElem hi1) e he hb
    have hlt':e.on<ops.size:=by omega
    rw [hgd _ _ hlt']
    cases hv:listed.getD e.on true with
    |true=>rfl
    |false=>
     have hm:=(hmem e.on).2 ⟨by omega,hv⟩
     rcases List.mem_cons.1 hm with h|h
     ·omega
     ·have:=(List.pairwise_cons.1 hnd).1 _ h;omega
   rw [hr] at this
   simp at this
  ·obtain ⟨h0,o,ho,haft⟩:=mem_ready.1 hi
   have hisz:=(Array.getElem?_eq_some_iff.1 ho).1
   have hip:i<p:=by
    rcases Nat.lt_or_ge i p with h|h
    ·exact h
    ·exfalso
     have hip:i=p:=by omega
     subst hip
     cases l with
     |nil=>simp at hl
     |cons j l=>
      have hj:=(hmem j).1 (by simp)
      have:=JDL hcl n i j o ho haft (hall j hj.1)
      rw [hgd _ _ (by omega),hj.2] at this
      cases this
   have hil:i∈l:=(hmem i).2 ⟨hip,h0⟩
   obtain ⟨l1,l2,rfl⟩:=List.append_of_mem hil
   -- the footprints, in the same parts
   have hf1:(fs.take l1.length).length=l1.length:=by simp at hl ⊢;omega
   obtain ⟨f,f2,hf2⟩:∃f f2,fs.drop l1.length=f::f2:=by
    cases hq:fs.drop l1.length with
    |nil=>have:=congrArg List.length hq;simp at this hl;omega
    |cons f f2=>exact ⟨f,f2,rfl⟩
   have hfs:fs=fs.take l1.length++f::f2:=by rw [←hf2,List.take_append_drop]
   generalize fs.take l1.length=f1 at hf1 hfs
   subst hfs
   have hzip:(l1++i::l2).zip (f1++f::f2)=l1.zip f1++(i,f)::l2.zip f2:=by
    rw [List.zip_append hf1.symm];rfl
   rw [hzip] at hord
   obtain ⟨hclash,hord'⟩:=JFo hord
   have hnone:∀g∈f1,g.clash f=false:=by
    intro g hg
    obtain ⟨q,hq⟩:=List.getElem?_of_mem hg
    have hql:q<l1.length:=by rw [←hf1];exact (List.getElem?_eq_some_iff.1 hq).1
    have hz:(l1[q],g)∈l1.zip f1:=by
     refine List.mem_of_getElem? (i:=q) ?_
     rw [List.getElem?_zip_eq_some]
     exact ⟨List.getElem?_eq_getElem hql,hq⟩
    cases hc:g.clash f with
    |false=>rfl
    |true=>
     have hdep:=hclash _ hz hc
     have:=JDL hcl n i l1[q] o ho haft hdep
     have hm:=(hmem l1[q]).1 (by simp)
     rw [hgd _ _ (by omega),hm.2] at this
     cases this
   obtain ⟨o',ws,ho',hst,hws,hrest⟩:=Qe.front hf1.symm hrun hnone
   rw [ho] at ho'
   simp only [Option.some.injEq] at ho'
   subst ho'
   have hpw:=List.pairwise_append.1 hnd
   have hnd':(l1++l2).Pairwise (· < ·):=List.pairwise_append.2 ⟨hpw.1,(List.pairwise_cons.1 hpw.2.1).2,fun x hx y hy=>hpw.2.2 x hx y (by simp [hy])⟩
   have hni:i ∉ l1++l2:=by
    intro hin
    rcases List.mem_append.1 hin with h|h
    ·have:=hpw.2.2 i h i (by simp);omega
    ·have:=(List.pairwise_cons.1 hpw.2.1).1 i h;omega
   have hmem':∀j,j∈l1++l2↔j<p∧(listed.setIfInBounds i true).getD j true=false:=by
    intro j
    by_cases hji:i=j
    ·subst hji
     have hilt:i<listed.size:=by rw [hsz];exact (Array.getElem?_eq_some_iff.1 ho).1
     have ht:(listed.setIfInBounds i true).getD i true=true:=by simp [Array.getD_eq_getD_getElem?,hilt]
     rw [ht]
     exact ⟨fun h=>absurd h hni,fun h=>by cases h.2⟩
    ·rw [getD_set_ne true hji,←hmem j]
     simp [Ne.symm hji]
   have hpl':(listed.setIfInBounds i true).getD p true=false:=by rw [getD_set_ne true (by omega)];exact hpl
   have hcl':∀(j:Nat) (oj:Oper),ops[j]? = some oj→(listed.setIfInBounds i true).getD j false=true→∀e∈oj.after,Region.binds .any e=true→(listed.setIfInBounds i true).getD e.on false=true:=by
    intro j oj hj hlj e he hb
    by_cases hji:i=j
    ·subst hji
     rw [ho] at hj;simp only [Option.some.injEq] at hj;subst hj
     exact getD_set_true (haft e he hb)
    ·rw [getD_set_ne false hji] at hlj
     exact getD_set_true (hcl j oj hj hlj e he hb)
   unfold wpOpIn
   rw [ho]
   have:=JBx (Q:=Q) (K:=wpAnyIn (Qb C) 0 P .any ops Q k (listed.setIfInBounds i true)) hR (hd i o ho) hst fun a' w' hR'=>
    ih (listed.setIfInBounds i true) (l1++l2) (f1++f2) _ a' w' (by simp at hl ⊢;omega) (by simp at hf ⊢;omega) (by simpa using hsz) hmem' hpl' hnd' hcl' hrest (by rw [List.zip_append hf1.symm];exact hord') hR' k (by omega)
   exact this
theorem JSl {Q:Exit→Act→World→Prop}{Φ:JE→Prop}(hm:P.follows .mixedOrders=true)(h:Open P ops Φ A)(hd:∀(i:Nat) (o:Oper),ops[i]? = some o→∀d,o.dst=some d→C.can d)
  {id:Nat} (hR:J9 C A a w) (hQ:∀A' a' w',Φ A' → J9 C A' a' w' → Q .normal a' w'):(Code.region id ops true).wpIn (Qb C) 0 P Q a w:=by
 have hR':J9 C A a { w with drawn:=w.drawn+1 }:=by
  obtain ⟨S,M,ι,hR⟩:=hR
  exact ⟨S,M,ι,hR.kept (b:=A.bh) ⟨rfl,rfl,rfl,Nat.le_refl _,fun _ _=>rfl,fun _ _ _=>rfl⟩ (C.E.step hR.env ⟨rfl,rfl,rfl,Nat.le_refl _,fun _ _ _=>rfl,fun _ _ _=>rfl⟩ (fun _ h=>h) (fun _ h=>.inl h) (fun _ _ h=>h) fun _ _ h=>.inl h)⟩
 refine wpIn_region_any hm ?_
 rcases h with ⟨n,fs,B,hrun,hf,hdown,hord,hB⟩|⟨n,p,op,fs,B,K,hop,hsz,hrun,hf,hdown,hord,hall,hw0,hsem,hK⟩
 rotate_left
 ·refine JSj hop hsz hall hw0 hsem hdown hd (fun B' a' w' hk h=>hQ B' a' w' (hK B' hk) h) p _ (List.range p) fs A a _ (by simp) hf (by simp) ?_ ?_ List.pairwise_lt_range ?_ hrun hord hR' _ (by omega)
  ·intro i
   simp only [List.mem_range,Array.getD_eq_getD_getElem?,Array.getElem?_replicate]
   constructor
   ·intro h;simp [show i<ops.size by omega];omega
   ·intro h;exact h.1
  ·simp [Array.getD_eq_getD_getElem?,Array.getElem?_replicate,show p<ops.size by omega]
  ·intro i o ho hli
   have hi:i<ops.size:=(Array.getElem?_eq_some_iff.1 ho).1
   simp [Array.getD_eq_getD_getElem?,Array.getElem?_replicate,hi] at hli
 refine JSi hdown hd (fun a' w' h=>hQ B a' w' hB h) ops.size _ (List.range ops.size) fs A a _ (by simp) hf (by simp) ?_ List.pairwise_lt_range ?_ hrun hord hR' _ (Nat.le_refl _)
 ·intro i
  simp only [List.mem_range,Array.getD_eq_getD_getElem?,Array.getElem?_replicate]
  constructor
  ·intro h;simp [h]
  ·intro h;exact h.1
 ·intro i o ho hli
  have hi:i<ops.size:=(Array.getElem?_eq_some_iff.1 ho).1
  simp [Array.getD_eq_getD_getElem?,Array.getElem?_replicate,hi] at hli
end sound
end Go.Mw
namespace Go.Mw
open Go.RowKit
section far
variable {P:Program} {C:Ctx P} {S:Jc} {M:J7} {ι:Nat→Value} {A:JE} {a:Act} {w w':World}
theorem JNi {S S':Jc}{ι:Nat→Value}{H:Nat→Option AO}{w w':World}{x:AV}{v:Value}(hS:∀b o,S b o→S' b o)(hc:∀b o,S b o→w'.cell? ⟨b,o,none⟩=w.cell? ⟨b,o,none⟩)
  (h:Jk S Yc JCJ w x v):Jk S' ι H w' x v:=
 Mv.v (S:=S) (ι:=Yc) (H:=JCJ) (w:=w) ⟨fun _ _ h=>h.mono hS hc,fun o ls h=>by simp [JCJ] at h,fun o e k es h=>by simp [JCJ] at h,fun b o h=>⟨hS b o h,hc b o h⟩,fun o x h=>by simp [JCJ] at h⟩ h
theorem JJS {rs rs':List Nat}(h:rs.map mark=rs'.map mark):rs=rs':=by
 induction rs generalizing rs' with
 |nil=>cases rs' with
  |nil=>rfl
  |cons _ _=>simp at h
 |cons r rs ih=>cases rs' with
  |nil=>simp at h
  |cons r' rs'=>
   simp only [List.map_cons,List.cons.injEq] at h
   have e:r=r':=by
    have:=h.1
    simp only [mark,Deferred.mk.injEq,Target.collected.injEq,and_true] at this
    exact this
   rw [e,ih h.2]
theorem Jg.far {U:J7}(hR:Jg C S M ι A a w)(hobj:∀o x k,A.obj o=some x→blk (ι o)=some k→U k)(hmk:∀r,mark r∈a.defers→U r)(hrd:∀l r,C.rd=some (l,r)→U l)
  (hk:∀k,U k→w'.heap[k]? = w.heap[k]?) (hsz:w.heap.size≤w'.heap.size) (hc:∀b o,S b o→w'.cell? ⟨b,o,none⟩=w.cell? ⟨b,o,none⟩)
  {S':Jc} {M':J7} (hS:∀b o,S b o→S' b o) (hM:∀k,M k→M' k) (hN:∀b o,S' b o→S b o∨(M' b∧¬U b)) (hin:∀b o,S' b o→b<w'.heap.size) (hmin:∀k,M' k→k<w'.heap.size)
  {b:Jh} (hJ:C.E.J b S' M' w'):Jg C S' M' ι ⟨A.tm,A.ob,b⟩ a w':=by
 have _:=hsz
 have hm:Mv S ι A.obj w S' ι A.obj w':=⟨fun _ _ h=>h.mono hS hc,fun o ls h=>⟨⟨ls,h⟩,rfl⟩,fun o e k es h=>⟨es,h,Nat.le_refl _,fun _=>rfl⟩,fun b o h=>⟨hS b o h,hc b o h⟩,fun o x h hx=>⟨⟨x,h,hx⟩,rfl⟩⟩
 exact {
  sub:=fun b o h=>hS _ _ (hR.sub b o h)
  new:=fun b o h=>by
   rcases hN b o h with h|h
   ·exact (hR.new b o h).imp id (hM b)
   ·exact .inr h.1
  inn:=hin
  minn:=hmin
  sz:=hR.sz
  tms:=fun s=>hm.v (hR.tms s)
  objs:=fun o x h=>(hR.objs o x h).other hm rfl (fun k hk'=>hk k (hobj o x k h hk')) fun k off hk' hs=>by
   rcases hN k off hs with h1|h1
   ·exact h1
   ·exact absurd (hobj o x k h hk') h1.2
  dis:=hR.dis
  own:=fun o x k h hk'=>hM k (hR.own o x k h hk')
  env:=hJ
  tok:=hR.tok
  fixed:=hR.fixed
  marks:=by
   obtain ⟨rs,h1,h2,h3⟩:=hR.marks
   exact ⟨rs,h1,h2,fun r hr=>⟨hM r (h3 r hr).1,(hk r (hmk r (by rw [h1];exact List.mem_map_of_mem hr))).trans (h3 r hr).2⟩⟩
  rdok:=fun l r h=>⟨hM l (hR.rdok l r h).1,(hk l (hrd l r h)).trans (hR.rdok l r h).2⟩
  pinned:=hR.pinned
  pinN:=hR.pinN }
theorem JDJ {l:Nat}{r r':Loop}(hl:w.heap[l]? = some (.loop r))(p:Addr):(w.putObj l (.loop r')).cell? p=w.cell? p:=by
 by_cases e:p.block=l
 ·unfold World.cell?
  rw [e,World.putObj_heap_same (Array.getElem?_eq_some_iff.1 hl).1,hl]
 ·exact World.cell?_of_block (World.putObj_heap_other e)
theorem JIw {l:Nat}{r r':Loop}(hl:w.heap[l]? = some (.loop r))(hM:M l):Fr S M w (w.putObj l (.loop r')):=
 ⟨rfl,rfl,rfl,by simp,fun b _ hb=>World.putObj_heap_other fun e=>hb (e▸hM),fun b o _=>JDJ hl _⟩
theorem Jg.putLoop (hR:Jg C S M ι A a w){l:Nat}{r:Loop}(r':Loop)(hl:C.rd=some (l,r)):Jg { C with rd:=some (l,r') } S M ι A a (w.putObj l (.loop r')):=by
 obtain ⟨hM,hheap⟩:=hR.rdok l r hl
 have hlt:=(Array.getElem?_eq_some_iff.1 hheap).1
 have hm:Mv S ι A.obj w S ι A.obj (w.putObj l (.loop r')):=⟨fun _ _ h=>h.mono (fun _ _ h=>h) fun b o _=>JDJ hheap _,fun o ls h=>⟨⟨ls,h⟩,rfl⟩,fun o e k es h=>⟨es,h,Nat.le_refl _,fun _=>rfl⟩,fun b o h=>⟨h,JDJ hheap _⟩,fun o x h hx=>⟨⟨x,h,hx⟩,rfl⟩⟩
 exact {
  sub:=hR.sub
  new:=hR.new
  inn:=fun b o h=>by simpa using hR.inn b o h
  minn:=fun k h=>by simpa using hR.minn k h
  sz:=hR.sz
  tms:=fun s=>hm.v (hR.tms s)
  objs:=fun o x h=>(hR.objs o x h).other hm rfl (fun k hk=>World.putObj_heap_other fun e=>by
   obtain ⟨_,_,z,hz,hd⟩:=(hR.objs o x h).blk_ge hk
   rw [e,hheap] at hz;cases hz;cases hd) fun _ _ _ h=>h
  dis:=hR.dis
  own:=hR.own
  env:=C.E.step hR.env (JIw hheap hM) (fun _ h=>h) (fun _ h=>.inl h) (fun _ _ h=>h) fun _ _ h=>.inl h
  tok:=hR.tok
  fixed:=hR.fixed
  marks:=by
   obtain ⟨rs,h1,h2,h3⟩:=hR.marks
   exact ⟨rs,h1,h2,fun r1 hr=>⟨(h3 r1 hr).1,(World.putObj_heap_other fun e=>by
    have:=(h3 r1 hr).2
    rw [e,hheap] at this;cases this).trans (h3 r1 hr).2⟩⟩
  rdok:=fun l1 r1 h=>by
   simp only [Option.some.injEq,Prod.mk.injEq] at h
   obtain ⟨rfl,rfl⟩:=h
   exact ⟨hM,World.putObj_heap_same hlt⟩
  pinned:=hR.pinned
  pinN:=hR.pinN }
theorem run_enterLoop_inner {l0:Nat}{r0:Loop}(h0:w.heap[l0]? = some (.loop r0))(fn:FuncId)(tmps:Array Value)(ps:Array Tmp)(assign body:Code) :
  (Instr.enterLoop fn tmps ps assign body (some l0)).run P w =
   .ok (w.heap.size,[]) (w.alloc (.loop { state:=.ready,pending:=none,fn,tmps,params:=ps,assign,body,defers:=r0.defers })):=by
 unfold Instr.enterLoop
 simp only [Sem.run_bind,run_getLoop h0,run_newObj_alloc,Result.andThen,Sem.run_pure]
end far
end Go.Mw
namespace Go.Mw
open Go.RowKit
def JE.lim (A:JE)(ss:List Nat):JE:=⟨ss.map fun s=>(s,A.get s),A.ob,A.bh⟩
theorem JMh (A:JE)(s:Nat):∀(ss:List Nat),look (ss.map fun s=>(s,A.get s)) s=if s∈ss then some (A.get s) else none
 |[]=>by simp [look]
 |q::ss=>by
  simp only [List.map_cons,look,JMh A s ss,List.mem_cons]
  by_cases h:s=q
  ·subst h;simp
  ·simp [h]
theorem JMJ (A:JE)(ss:List Nat)(s:Nat):(A.lim ss).get s=if s∈ss then A.get s else .dead:=by
 show ((look (ss.map fun s=>(s,A.get s)) s).getD .dead)=_
 rw [JMh]
 split<;>rfl
def JI6:Exit→Option Code
 |.ret=>some .ret
 |.exit i=>some (.exit i)
 |_=>none
structure JH8 {P:Program} (C:Ctx P) (a1:Act) (l:Nat) (rc:LoopState→Option Code→Loop) (St:Jh→JE) (X:Jh→Prop) (Φ:Exit→JE→Prop) (b:Jh) (S:Jc) (M:J7) (w:World)
  (Sc:Jc) (Mt U:J7) (ι:Nat→Value) (A3:JE) (st:LoopState) (pe:Option Code):Prop where
 rel:Jg C Sc Mt ι A3 a1 w
 umt:∀k,U k→Mt k
 apart:∀k,U k→¬M k
 mmt:∀k,M k→Mt k
 uobj:∀o x k,A3.obj o=some x→blk (ι o)=some k→U k
 umark:∀r,mark r∈a1.defers→U r
 urd:∀l0 r,C.rd=some (l0,r)→U l0∧l0≠l
 ul:U l
 hl:w.heap[l]? = some (.loop (rc st pe))
 ssc:∀b o,S b o→Sc b o
 scs:∀b o,Sc b o→M b→S b o
 mode:(st=.ready∧pe=none∧X b∧A3=St b)∨((∃res obs,b=.ret res obs)∧st=.done∧∃e c,JI6 e=some c∧pe=some c∧Φ e A3)
def Jit {P:Program}(C:Ctx P)(a1:Act)(l:Nat)(rc:LoopState→Option Code→Loop)(St:Jh→JE)(X:Jh→Prop)(Φ:Exit→JE→Prop)(b:Jh)(S:Jc)(M:J7)(w:World):Prop:=
 ∃Sc Mt U ι A3 st pe,JH8 C a1 l rc St X Φ b S M w Sc Mt U ι A3 st pe
section jit
variable {P:Program} {C:Ctx P} {a1:Act} {l:Nat} {rc:LoopState→Option Code→Loop} {St:Jh→JE} {X:Jh→Prop} {Φ:Exit→JE→Prop}
theorem Jit.step {b:Jh}{S:Jc}{M:J7}{w:World}{S':Jc}{M':J7}{w':World}(h:Jit C a1 l rc St X Φ b S M w)(hf:Fr S M w w')(hM:∀k,M k→M' k)
  (hN:∀k,M' k→M k∨(w.heap.size≤k∧k<w'.heap.size)) (hS:∀k o,S k o→S' k o) (hT:∀k o,S' k o→S k o∨M' k):Jit C a1 l rc St X Φ b S' M' w':=by
 obtain ⟨Sc,Mt,U,ι,A3,st,pe,h⟩:=h
 have hR:=h.rel
 have hU:∀k,U k→w'.heap[k]? = w.heap[k]? :=fun k hk=>hf.block k (hR.minn k (h.umt k hk)) (h.apart k hk)
 have hcell:∀b o,Sc b o→w'.cell? ⟨b,o,none⟩=w.cell? ⟨b,o,none⟩:=fun b o hs=>by
  by_cases hb:M b
  ·exact hf.cell b o (h.scs b o hs hb)
  ·exact World.cell?_of_block (hf.block b (hR.inn b o hs) hb)
 have hap:∀k,U k→¬M' k:=fun k hk hm=>by
  rcases hN k hm with h1|h1
  ·exact h.apart k hk h1
  ·have:=hR.minn k (h.umt k hk);omega
 have hlt:∀k,M' k→k<w'.heap.size:=fun k hk=>by
  rcases hN k hk with h1|h1
  ·exact Nat.lt_of_lt_of_le (hR.minn k (h.mmt k h1)) hf.size
  ·exact h1.2
 have hJ:C.E.J A3.bh (fun b o=>Sc b o∨S' b o) (fun k=>Mt k∨M' k) w':=by
  refine C.E.step hR.env ⟨hf.os,hf.tape,hf.output,hf.size,fun k hk hn=>hf.block k hk fun hm=>hn (h.mmt k hm),hcell⟩ (fun _ h=>.inl h) (fun k hk=>?_) (fun _ _ h=>.inl h) (fun k o hk=>?_)
  ·rcases hk with hk|hk
   ·exact .inl hk
   ·exact (hN k hk).imp (h.mmt k) id
  ·rcases hk with hk|hk
   ·exact .inl hk
   ·rcases hT k o hk with h1|h1
    ·exact .inl (h.ssc k o h1)
    ·exact .inr (.inr h1)
 refine ⟨fun b o=>Sc b o∨S' b o,fun k=>Mt k∨M' k,U,ι,A3,st,pe,{
  rel:=hR.far (U:=U) h.uobj h.umark (fun l0 r hl0=>(h.urd l0 r hl0).1) hU hf.size hcell (fun _ _ h=>.inl h) (fun _ h=>.inl h) (fun b o hs=>?_) (fun b o hs=>?_) (fun k hk=>?_) hJ
  umt:=fun k hk=>.inl (h.umt k hk)
  apart:=hap
  mmt:=fun k hk=>.inr hk
  uobj:=h.uobj
  umark:=h.umark
  urd:=h.urd
  ul:=h.ul
  hl:=(hU l h.ul).trans h.hl
  ssc:=fun b o hs=>.inr hs
  scs:=fun b o hs hm=>?_
  mode:=h.mode }⟩
 ·rcases hs with hs|hs
  ·exact .inl hs
  ·rcases hT b o hs with h1|h1
   ·exact .inl (h.ssc b o h1)
   ·exact .inr ⟨.inr h1,fun hu=>hap b hu h1⟩
 ·rcases hs with hs|hs
  ·exact Nat.lt_of_lt_of_le (hR.inn b o hs) hf.size
  ·rcases hT b o hs with h1|h1
   ·exact Nat.lt_of_lt_of_le (hR.inn b o (h.ssc b o h1)) hf.size
   ·exact hlt b h1
 ·rcases hk with hk|hk
  ·exact Nat.lt_of_lt_of_le (hR.minn k hk) hf.size
  ·exact hlt k hk
 ·rcases hs with hs|hs
  ·rcases hN b hm with h1|h1
   ·exact hS b o (h.scs b o hs h1)
   ·have:=hR.inn b o hs;omega
  ·exact hs
theorem JOA {R:AV→Value→Prop}(N:Nat):∀ {ps:List Nat} {vals:List AV} {vs:List Value} {tmps:Array Value},JS R vals vs→ps.length=vals.length→ps.Nodup→(∀p∈ps,p<N)→tmps.size=N →
  ((ps.zip vs).foldl (fun t q=>t.setIfInBounds q.1 q.2) tmps).size=N ∧
  ∀s,(∃x,s∈ps∧look (ps.zip vals) s=some x∧R x (((ps.zip vs).foldl (fun t q=>t.setIfInBounds q.1 q.2) tmps).getD s undef)) ∨
   (s ∉ ps∧look (ps.zip vals) s=none∧((ps.zip vs).foldl (fun t q=>t.setIfInBounds q.1 q.2) tmps).getD s undef=tmps.getD s undef)
 |[],vals,vs,tmps,_,_,_,_,hN=>by
  simp [look,hN]
 |p::ps,[],_,_,_,hl,_,_,_=>by simp at hl
 |p::ps,x::vals,[],_,h,_,_,_,_=>h.elim
 |p::ps,x::vals,v::vs,tmps,h,hl,hnd,hlt,hN=>by
  obtain ⟨hnp,hnd'⟩:=List.nodup_cons.1 hnd
  have hp:p<N:=hlt p (by simp)
  obtain ⟨h1,h2⟩:=JOA N (tmps:=tmps.setIfInBounds p v) h.2 JB2 hnd' (fun q hq=>hlt q (by simp [hq])) (by simpa using hN)
  simp only [List.zip_cons_cons,List.foldl_cons]
  refine ⟨h1,fun s=>?_⟩
  rcases h2 s with ⟨y,hy1,hy2,hy3⟩|⟨hy1,hy2,hy3⟩
  ·refine .inl ⟨y,by simp [hy1],?_,hy3⟩
   have:s≠p:=fun e=>hnp (e▸hy1)
   simp [look,this,hy2]
  ·by_cases e:s=p
   ·subst e
    refine .inl ⟨x,by simp,by simp [look],?_⟩
    rw [hy3]
    have:(tmps.setIfInBounds s v).getD s undef=v:=by simp [Array.getD_eq_getD_getElem?,hN,hp]
    rw [this];exact h.1
   ·refine .inr ⟨by simp [e,hy1],by simp [look,e,hy2],?_⟩
    rw [hy3]
    simp [Array.getD_eq_getD_getElem?,Ne.symm e]
theorem JMg {α:Type}(s:Nat):∀(l m:List (Nat × α)),look (l++m) s=match look l s with|some x=>some x|none=>look m s
 |[],m=>rfl
 |(k,v)::l,m=>by
  simp only [List.cons_append,look]
  by_cases h:s=k
  ·simp [h]
  ·simp [h,JMg s l m]
end jit
end Go.Mw
namespace Go.Mw
open Go.RowKit
def Z3 (pv:Value):List PanicEntry:=[{ v:=pv,recovered:=false }]
def Qr (P:Program)(pv:Value)(f:FuncId)(args:List AV)(pre:List (Nat × AO)):Prop:=
 ∀(l:Nat) (S:Jc) (M:J7) (ι:Nat→Value) (w:World) (vs:List Value),Zk P S w→(∀b o,S b o→b<w.heap.size)→(∀k,M k→k<w.heap.size) →
  (∀o x,look pre o=some x→Yw S ι (look pre) w o x) →
  (∀o o' x x' b,look pre o=some x→look pre o'=some x' → o≠o' → blk (ι o)=some b→blk (ι o')≠some b) →
  (∀o x b,look pre o=some x→blk (ι o)=some b→M b) →
  (∀o,look pre o=some .yl→ι o=.func (.yield l) #[] #[]) →
  JS (Jk S ι (look pre) w) args vs →
  CallsIn Fence.wide 0 P f vs.toArray w fun e w'=>e=.panicked (Z3 pv)∧Fr S M w w'
theorem JBP {α:Type}:∀ {l:List (Nat × α)} {q:Nat} {x:α},look l q=some x→(q,x)∈l
 |[],_,_,h=>by cases h
 |(k,v)::l,q,x,h=>by
  unfold look at h
  split at h
  ·rename_i e;cases h;subst e;simp
  ·exact List.mem_cons_of_mem _ (JBP h)
section pan
variable {P:Program} {C:Ctx P} {S:Jc} {M:J7} {ι:Nat→Value} {A:JE} {a:Act} {w w':World} {o:Oper} {pv:Value}
theorem Jg.forget (hR:Jg C S M ι A a w){U:J7}(hU:∀k,U k→∃o x,A.obj o=some x∧blk (ι o)=some k)(hf:Fr S U w w'):J9 C ⟨[],[],A.bh⟩ a w':=by
 have hUM:∀k,U k→M k:=fun k hk=>by obtain ⟨o,x,h1,h2⟩:=hU k hk;exact hR.own o x k h1 h2
 have hstay:∀k y,M k→w.heap[k]? = some y→JFe y=false→w'.heap[k]? = some y:=fun k y hm hy hd=>by
  refine (hf.block k (hR.minn k hm) fun hu=>?_).trans hy
  obtain ⟨o,x,h1,h2⟩:=hU k hu
  obtain ⟨_,_,z,hz,hdz⟩:=(hR.objs o x h1).blk_ge h2
  rw [hy] at hz;cases hz;rw [hd] at hdz;cases hdz
 refine ⟨S,M,ι,{
  sub:=hR.sub
  new:=hR.new
  inn:=fun b o h=>Nat.lt_of_lt_of_le (hR.inn b o h) hf.size
  minn:=fun k h=>Nat.lt_of_lt_of_le (hR.minn k h) hf.size
  sz:=hR.sz
  tms:=fun s=>trivial
  objs:=fun o x h=>by cases h
  dis:=fun o o' x x' b h=>by cases h
  own:=fun o x b h=>by cases h
  env:=C.E.step hR.env ⟨hf.os,hf.tape,hf.output,hf.size,fun b hb hn=>hf.block b hb fun hu=>hn (hUM b hu),hf.cell⟩ (fun _ h=>h) (fun _ h=>.inl h) (fun _ _ h=>h) fun _ _ h=>.inl h
  tok:=fun o h=>by cases h
  fixed:=hR.fixed
  marks:=?_
  rdok:=fun l r h=>⟨(hR.rdok l r h).1,hstay l _ (hR.rdok l r h).1 (hR.rdok l r h).2 rfl⟩
  pinned:=fun q u n x _ h=>by cases h
  pinN:=hR.pinN }⟩
 obtain ⟨rs,h1,h2,h3⟩:=hR.marks
 exact ⟨rs,h1,h2,fun r hr=>⟨(h3 r hr).1,hstay r _ (h3 r hr).1 (h3 r hr).2 rfl⟩⟩
theorem JUw (hR:Jg C S M ι A a w){g:FuncId}{B:Nat}{avs args:List AV}{us:List Value}{lend:List (Nat × Nat)}{pre:List (Nat × AO)}
  (hexec:(execOp a.eval o).run P w=.ok (.enter g us.toArray) w) (h3:JS (Jk S ι A.obj w) avs us) (hwk:JS (Jj (rn lend B) (Ql pre)) avs args)
  (hpan:Qr P pv g args pre) (htg:(pre.all fun p=>(ZF (p.1%1000)).isNone)=true) (lent:∀q x,look pre q=some x→∃n y,look lend q=some n∧A.obj n=some y∧QI y (x.ren (rn lend B))∧x.inn (Ql pre)=true) (inj:∀q q' n,look lend q=some n→look lend q'=some n→q=q')
  (K:Act→World→Prop) (Q:Exit→Act→World→Prop) (hQ:∀a' w',J9 C ⟨[],[],A.bh⟩ a' w' → Q (.panic (Z3 pv)) a' w') :
  o.wpIn (Qb C) 0 P a w K Q:=by
 refine JBZ hexec JBE ?_
 rw [Oper.uponIn_enter]
 refine ⟨JDP C,JEF C ?_⟩
 have rlent:∀q n,look lend q=some n→rn lend B q=n:=fun q n h=>by unfold rn;rw [h]
 have hH:∀q∈Ql pre,∃x y,look pre q=some x∧A.obj (rn lend B q)=some y∧QI y (x.ren (rn lend B)):=by
  intro q hq
  obtain ⟨p,hp,rfl⟩:=List.mem_map.1 hq
  obtain ⟨x,hx⟩:=JFg hp
  obtain ⟨n,y,hn,hy,hle,_⟩:=lent p.1 x hx
  exact ⟨x,y,hx,by rw [rlent _ n hn];exact hy,hle⟩
 have hargs:JS (Jk S (fun q=>ι (rn lend B q)) (look pre) w) args us:=by
  clear hpan hexec
  induction args generalizing avs us with
  |nil=>cases avs with
   |nil=>cases us with
    |nil=>trivial
    |cons _ _=>exact h3.elim
   |cons _ _=>exact hwk.elim
  |cons y ys ih=>cases avs with
   |nil=>exact hwk.elim
   |cons x xs=>cases us with
    |nil=>exact h3.elim
    |cons v vs=>exact ⟨JJz hH hwk.1.1 (hwk.1.2 S ι A.obj w v h3.1),ih h3.2 hwk.2⟩
 have hb2:∀k,JCI ι lend pre k→∃o x,A.obj o=some x∧blk (ι o)=some k:=by
  rintro k ⟨q,n,x,hx,hn,hb⟩
  obtain ⟨n',y,hn',hy,_⟩:=lent q x hx
  rw [hn] at hn';cases hn'
  exact ⟨n,y,hy,hb⟩
 have hcall:=hpan C.E.l S (JCI ι lend pre) (fun q=>ι (rn lend B q)) w us (C.E.glob hR.env) hR.inn (fun k hk=>by obtain ⟨o,x,h1,h2⟩:=hb2 k hk;exact hR.minn k (hR.own o x k h1 h2)) ?_ ?_ ?_ ?_ hargs
 ·refine hcall.mono fun e w' ⟨he,hf⟩=>?_
  subst he
  exact hQ a w' (hR.forget hb2 hf)
 ·intro q x hx
  obtain ⟨n,y,hn,hy,hle,hin⟩:=lent q x hx
  have hy':A.obj (rn lend B q)=some y:=by rw [rlent q n hn];exact hy
  exact JMw hH (fun ls e t ht=>by have:=List.all_eq_true.1 htg _ (JBP hx);simp [ht] at this) hle hin (hR.objs _ y hy')
 ·intro q q' x x' k hx hx' hne hb
  obtain ⟨n,y,hn,hy,_⟩:=lent q x hx
  obtain ⟨n',y',hn',hy',_⟩:=lent q' x' hx'
  simp only [rlent q n hn] at hb
  simp only [rlent q' n' hn']
  exact hR.dis n n' y y' k hy hy' (fun e=>hne (inj q q' n hn (e▸hn'))) hb
 ·intro q x k hx hb
  obtain ⟨n,y,hn,hy,_⟩:=lent q x hx
  simp only [rlent q n hn] at hb
  exact ⟨q,n,x,hx,hn,hb⟩
 ·intro q hx
  obtain ⟨n,y,hn,hy,hle,_⟩:=lent q _ hx
  simp only [AO.ren,QI] at hle
  subst hle
  simp only [rlent q n hn]
  exact hR.tok n hy
def JEq (P:Program)(pv:Value)(o:Oper)(A:JE)(rs:List Loc):Prop:=
 ∃(f:Operand) (as:List Operand) (g:FuncId) (ds:List D) (B:Nat) (args:List AV) (lend:List (Nat × Nat)) (pre:List (Nat × AO)),
  Yy o.op=some (f,as)∧A.ev f=.leaf (.d (.fn g ds))∧JO P g=true∧JS (Jj (rn lend B) (Ql pre)) (as.map A.ev++ds.map fun x=>.leaf (.d x)) args∧(Qr P pv g args pre∧(pre.all fun p=>(ZF (p.1%1000)).isNone)=true) ∧
  (∀q x,look pre q=some x→∃n y,look lend q=some n∧A.obj n=some y∧QI y (x.ren (rn lend B))∧x.inn (Ql pre)=true)∧(∀q q' n,look lend q=some n→look lend q'=some n→q=q') ∧
  rs=Q1 (f::as)++lend.map fun p=>.obj p.2
theorem JUu (hR:Jg C S M ι A a w){rs:List Loc}(h:JEq P pv o A rs)(K:Act→World→Prop)(Q:Exit→Act→World→Prop)(hQ:∀a' w',J9 C ⟨[],[],A.bh⟩ a' w' → Q (.panic (Z3 pv)) a' w') :
  o.wpIn (Qb C) 0 P a w K Q:=by
 obtain ⟨f,as,g,ds,B,args,lend,pre,hop,hf,hcan,hwk,⟨hpan,htg⟩,lent,inj,_⟩:=h
 obtain ⟨us,hfv,hus⟩:=JDp.rep (caps:=ds.map .d) hR (.inl ⟨ds,hf,rfl⟩) (QF hR f)
 cases hop':o.op<;>rw [hop'] at hop<;>try (simp [Yy] at hop;done)
 rename_i c
 obtain ⟨callee,cargs,cty⟩:=c
 cases callee<;>simp only [Yy,reduceCtorEq,Option.some.injEq,Prod.mk.injEq] at hop
 rename_i f'
 obtain ⟨rfl,rfl⟩:=hop
 have hexec:(execOp a.eval o).run P w=.ok (.enter g (cargs.map a.eval++us.toArray)) w:=by
  simp [execOp,hop',resolve,hfv,Deferred.ofValue,invoke,JCN hcan]
 have e1:cargs.map a.eval++us.toArray=(cargs.toList.map a.eval++us).toArray:=by apply Array.ext';simp
 have h1:=JBT hR cargs.toList
 have h2:JS (Jk S ι A.obj w) (ds.map fun x=>AV.leaf (.d x)) us:=by
  have:=Ya (R:=Jd S ι A.obj w) AV.leaf (fun _ _ h=>Qk h) hus
  rwa [List.map_map] at this
 exact JUw hR (by rw [←e1];exact hexec) (h1.append h2) hwk hpan htg lent inj K Q hQ
theorem JEq.agree {A':JE}{rs:List Loc}(h:JEq P pv o A rs)(ha:∀l∈rs,Mw.agree A A' l):JEq P pv o A' rs:=by
 obtain ⟨f,as,g,ds,B,args,lend,pre,h1,h2,h3,h4,h5,h6,h7,rfl⟩:=h
 have ef:A'.ev f=A.ev f:=JA1 fun l hl=>ha l JAT
 have eas:as.map A'.ev=as.map A.ev:=JCi fun l hl=>ha l JAT
 refine ⟨f,as,g,ds,B,args,lend,pre,h1,ef.trans h2,h3,by rw [eas];exact h4,h5,fun q x hx=>?_,h7,rfl⟩
 obtain ⟨n,y,hn,hy,hr⟩:=h6 q x hx
 obtain ⟨n',hm⟩:=JEW hn
 have hn2:∃m,(m,n)∈lend:=by
  clear hm hr hy h6 h7 h4 ha eas ef
  induction lend with
  |nil=>cases hn
  |cons p r ih=>
   obtain ⟨k,v⟩:=p
   by_cases e:q=k
   ·subst e;simp only [look,if_true,Option.some.injEq] at hn;subst hn;exact ⟨q,by simp⟩
   ·simp only [look,if_neg e] at hn
    obtain ⟨m,hm⟩:=ih hn
    exact ⟨m,by simp [hm]⟩
 obtain ⟨m,hm2⟩:=hn2
 have e:Mw.agree A A' (.obj n):=ha (.obj n) (List.mem_append.2 (.inr (List.mem_map.2 ⟨(m,n),hm2,rfl⟩)))
 exact ⟨n,y,hn,Eq.trans e hy,hr⟩
def JKZ (pv:Value)(o:Oper)(A:JE)(rs:List Loc):Prop:=∃(x:Operand) (d:D) (t:TypeId) (v:Value),o.op=.panic x∧A.ev x=.leaf (.d d)∧pv=.iface t v∧(∀S w u,RepD S w d u→u=pv)∧rs=Q1 [x]
theorem JUv (hR:Jg C S M ι A a w){rs:List Loc}(h:JKZ pv o A rs)(K:Act→World→Prop)(Q:Exit→Act→World→Prop)(hQ:∀a' w',J9 C ⟨[],[],A.bh⟩ a' w' → Q (.panic (Z3 pv)) a' w') :
  o.wpIn (Qb C) 0 P a w K Q:=by
 obtain ⟨x,d,t,v,hop,hx,rfl,hd,_⟩:=h
 have hv:=QF hR x
 rw [hx] at hv
 have hv:=hd _ _ _ (Jl hv)
 refine ⟨fun f _=>JEM C f,?_⟩
 have hr:(execOp a.eval o).run P w=.halt (.panic (.iface t v)) w:=by
  simp [execOp,hop,hv,Instr.panic,goPanic]
 rw [Oper.semAt_eq _ _ _ (fun c hc=>by rw [hop] at hc;cases hc),hr]
 exact hQ a w (hR.forget (U:=fun _=>False) (fun _ h=>h.elim) ⟨rfl,rfl,rfl,Nat.le_refl _,fun _ _ _=>rfl,fun _ _ _=>rfl⟩)
def JAk (P:Program)(ops:Array Oper)(pv:Value)(o:Oper)(A:JE)(rs:List Loc):Prop:=J5 ops o.guard A=some true∧∃rs',rs=Qt ops o++rs' ∧ (JEq P pv o A rs' ∨ JKZ pv o A rs')
theorem JAk.agree {A':JE}{ops:Array Oper}{rs:List Loc}(h:JAk P ops pv o A rs)(ha:∀l∈rs,Mw.agree A A' l):JAk P ops pv o A' rs:=by
 obtain ⟨hw,rs',rfl,h⟩:=h
 refine ⟨(JBz fun l hl=>ha l Zs).trans hw,rs',rfl,?_⟩
 rcases h with h|⟨x,d,t,v,h1,h2,h3,h4,rfl⟩
 ·exact .inl (h.agree fun l hl=>ha l Zs)
 ·exact .inr ⟨x,d,t,v,h1,(JA1 fun l hl=>ha l Zs).trans h2,h3,h4,rfl⟩
theorem JOJ {ops:Array Oper}{rs:List Loc}(hR:J9 C A a w)(h:JAk P ops pv o A rs):Region.wanted o (yielded ops a.tmps)=true∧∀(K:Act→World→Prop) (Q:Exit→Act→World→Prop),(∀a' w',J9 C ⟨[],[],A.bh⟩ a' w' → Q (.panic (Z3 pv)) a' w')→o.wpIn (Qb C) 0 P a w K Q:=by
 obtain ⟨S,M,ι,hR⟩:=hR
 obtain ⟨hw,rs',_,h⟩:=h
 refine ⟨Zj hR hw,fun K Q hQ=>?_⟩
 rcases h with h|h
 ·exact JUu hR h K Q hQ
 ·exact JUv hR h K Q hQ
end pan
theorem JVn {F:Fence}{n:Nat}{P:Program}{o:Oper}{a:Act}{w:World}{K K':Act→World→Prop}{Q Q':Exit→Act→World→Prop}(h:∀a w,K a w→K' a w)(h1:∀c a w,Q (.panic c) a w→Q' (.panic c) a w)(h2:∀a w,Q .outgrown a w→Q' .outgrown a w)
  (hh:o.wpIn F n P a w K Q):o.wpIn F n P a w K' Q':=by
 unfold Oper.wpIn at *
 refine ⟨hh.1,?_⟩
 have hh:=hh.2
 generalize (o.semAt F.round a.eval).run P w=r at *
 have h3:LetsOut Q→LetsOut Q':=fun ⟨a,w,h⟩=>⟨a,w,h2 a w h⟩
 cases r with
 |ok x w'=>
  cases x<;>simp only [Oper.uponIn] at hh ⊢ <;>
   first
    |exact h _ _ hh
    |exact ⟨hh.1,CallsIn.mono hh.2 (fun e w'' he=>by cases e<;>first|exact h _ _ he|exact h1 _ _ _ he|exact h3 he)⟩
    |exact ⟨hh.1,RowsIn.mono hh.2 (fun _ _ he=>h _ _ he)⟩
    |exact ⟨hh.1,RoundIn.mono hh.2 (fun e w'' he=>by cases e<;>first|exact h _ _ he|exact h1 _ _ _ he|exact h3 he)⟩
    |exact hh.elim
 |halt e w'=>
  cases e<;>simp only [Oper.uponIn] at hh ⊢<;>first|exact h1 _ _ _ hh|exact hh.elim
theorem JKU {F:Fence}{n:Nat}{P:Program}{ops:Array Oper}{Q:Exit→Act→World→Prop}{l2:List Oper}:∀(l1:List Oper) (a:Act) (w:World),
  wpListIn F n P ops (fun e a w=>match e with |.normal=>wpListIn F n P ops Q l2 a w|e=>Q e a w) l1 a w→wpListIn F n P ops Q (l1++l2) a w
 |[],_,_,h=>h
 |o::l1,a,w,h=>by
  rw [List.cons_append]
  unfold wpListIn at h ⊢
  split at h
  ·rename_i hw
   rw [if_pos hw]
   exact JVn (fun a w h=>JKU l1 a w h) (fun _ _ _ h=>h) (fun _ _ h=>h) h
  ·rename_i hw
   rw [if_neg hw]
   exact ⟨h.1,JKU l1 _ w h.2⟩
def JDr (P:Program)(ops:Array Oper)(Φ:Value→JE→Prop)(A:JE):Prop:=
 ∃(pv:Value) (l1:List Oper) (o:Oper) (l2:List Oper),ops.toList=l1++o::l2∧JA P ops (fun B=>(∃rs,JAk P ops pv o B rs)∧Φ pv ⟨[],[],B.bh⟩) l1 A
theorem JT7 {P:Program}{C:Ctx P}{ops:Array Oper}{A:JE}{Q:Exit→Act→World→Prop}{Φ:Value→JE→Prop}(h:JDr P ops Φ A)(hd:∀o∈ops.toList,∀d,o.dst=some d→C.can d)(a:Act)(w:World)(hR:J9 C A a w)
  (hQ:∀pv A' a' w',Φ pv A' → J9 C A' a' w' → Q (.panic (Z3 pv)) a' w'):wpListIn (Qb C) 0 P ops Q ops.toList a w:=by
 obtain ⟨pv,l1,o,l2,e,h⟩:=h
 rw [e] at hd ⊢
 refine JKU l1 a w (JN1 h (fun o ho=>hd o (by simp [ho])) a w hR fun A' a' w' ⟨⟨rs,h1⟩,h2⟩ hR'=>?_)
 show wpListIn _ _ _ _ _ (o::l2) a' w'
 obtain ⟨hw,hp⟩:=JOJ hR' h1
 unfold wpListIn
 rw [if_pos hw]
 exact hp _ _ fun a2 w2 h=>hQ pv _ a2 w2 h2 h
def JBs (ops:Array Oper)(n p:Nat):List Nat:=(List.range ops.size).filter fun i=>!(i==p) && !YR ops n i p
def JEH (ops:Array Oper)(n p:Nat):Bool:= !YR ops n p p&&(List.range ops.size).all fun i=>match ops[i]? with
 |some o=>o.after.all fun e=>!Region.binds .any e || !(e.on==p || YR ops n e.on p) || YR ops n i p
 |none=>true
def JDq (P:Program)(ops:Array Oper)(Φ:Value→JE→Prop)(A:JE):Prop:=
 ∃(pv:Value) (n p:Nat) (o:Oper) (fs:List Fp) (B:JE) (rs:List Loc),ops[p]? = some o∧Qe P ops (JBs ops n p) A fs B∧JAk P ops pv o B rs∧fs.length=(JBs ops n p).length∧down ops=true ∧
  ZJ ops n ((JBs ops n p).zip fs++[(p,⟨rs,[]⟩)])=true∧JEH ops n p=true∧Φ pv ⟨[],[],A.bh⟩
theorem Qe.keeps {P:Program}{ops:Array Oper}{rs:List Loc}:∀ {l:List Nat} {A:JE} {fs:List Fp} {B:JE},Qe P ops l A fs B→(∀f∈fs,∀x∈f.ws,x ∉ rs)→∀x∈rs,Mw.agree A B x
 |[],_,[],_,h,_,x,_=>h.1 x
 |[],_,_::_,_,h,_,_,_=>h.elim
 |_::_,_,[],_,h,_,_,_=>h.elim
 |i::r,A,f::fs,B,h,hd,x,hx=>by
  obtain ⟨o,ws,h1,h2,h3,h4⟩:=h
  exact JD9 (JCx ws A x fun hw=>hd f (by simp) x (h3▸hw) hx) (Qe.keeps h4 (fun g hg=>hd g (by simp [hg])) x hx)
section openp
variable {P:Program} {C:Ctx P} {ops:Array Oper}
theorem JRM {n p:Nat}(h:JEH ops n p=true):YR ops n p p=false∧∀(i:Nat) (o:Oper),ops[i]? = some o→∀e∈o.after,Region.binds .any e=true→(e.on=p∨YR ops n e.on p=true)→YR ops n i p=true:=by
 simp only [JEH,Bool.and_eq_true,Bool.not_eq_true'] at h
 refine ⟨h.1,fun i o ho e he hb hd=>?_⟩
 have hi:i<ops.size:=(Array.getElem?_eq_some_iff.1 ho).1
 have:=List.all_eq_true.1 h.2 i (List.mem_range.2 hi)
 simp only [ho] at this
 have:=Array.all_eq_true_iff_forall_mem.1 this e he
 rcases hd with hd|hd<;>simpa [hb,hd] using this
theorem JSk {Q:Exit→Act→World→Prop}{B:JE}{b0:Jh}{n p:Nat}{op:Oper}{pv:Value}{rs:List Loc}(hop:ops[p]? = some op)(hB:JAk P ops pv op B rs)(hdown:down ops=true)(hdead:JEH ops n p=true)(hd:∀(i:Nat) (o:Oper),ops[i]? = some o→∀d,o.dst=some d→C.can d)
  (hQ:∀a' w',J9 C ⟨[],[],b0⟩ a' w' → Q (.panic (Z3 pv)) a' w') :
  ∀(fuel:Nat) (listed:Array Bool) (l:List Nat) (fs:List Fp) (A:JE) (a:Act) (w:World),l.length=fuel→fs.length=fuel→listed.size=ops.size→A.bh=b0 →
  (∀i,i∈l↔i<ops.size∧listed.getD i true=false∧i≠p∧YR ops n i p=false)→listed.getD p false=false→l.Pairwise (· < ·) →
  (∀(i:Nat) (o:Oper),ops[i]? = some o→listed.getD i false=true→∀e∈o.after,Region.binds .any e=true→listed.getD e.on false=true) →
  Qe P ops l A fs B→ZJ ops n (l.zip fs++[(p,⟨rs,[]⟩)])=true→J9 C A a w→(∀k,fuel+1≤k→wpAnyIn (Qb C) 0 P .any ops Q k listed a w):=by
 intro fuel
 obtain ⟨hpp,hdep⟩:=JRM hdead
 have hpsz:p<ops.size:=(Array.getElem?_eq_some_iff.1 hop).1
 induction fuel using Nat.strongRecOn with
 |_ fuel ih=>
  intro listed l fs A a w hl hf hsz hbh hmem hpl hnd hcl hrun hord hR k hk
  obtain ⟨k,rfl⟩:∃k',k=k'+1:=⟨k-1,by omega⟩
  have hgd:∀j d,j<ops.size→listed.getD j d=listed.getD j true:=fun j d hj=>by
   simp [Array.getD_eq_getD_getElem?,Array.getElem?_eq_getElem (show j<listed.size by omega)]
  have hpl':listed.getD p true=false:=by rw [←hgd p false hpsz];exact hpl
  -- an operation that is not listed, nor hangs on p, is ready if what it hangs on is
  have hrdy:∀i,i<ops.size→listed.getD i true=false→(i=p∨YR ops n i p=false)→(∀j∈l,i≤j)→i∈Region.ready .any ops listed:=by
   intro i hi hli hip hmin
   refine mem_ready.2 ⟨hli,ops[i],Array.getElem?_eq_getElem hi,fun e he hb=>?_⟩
   have hlt:=JG5 hdown (Array.getElem?_eq_getElem hi) e he hb
   have hlt':e.on<ops.size:=by omega
   rw [hgd _ _ hlt']
   cases hv:listed.getD e.on true with
   |true=>rfl
   |false=>
    have hdi:∀h:e.on=p∨YR ops n e.on p=true,False:=fun h=>by
     have:=hdep i ops[i] (Array.getElem?_eq_getElem hi) e he hb h
     rcases hip with rfl|hip
     ·rw [hpp] at this;cases this
     ·rw [hip] at this;cases this
    have hm:=(hmem e.on).2 ⟨hlt',hv,fun h=>hdi (.inl h),by cases hq:YR ops n e.on p with
     |false=>rfl
     |true=>exact (hdi (.inr hq)).elim⟩
    have:=hmin _ hm
    omega
  refine ⟨fun hr=>?_,fun i hi=>?_⟩
  ·exfalso
   cases hl0:l with
   |nil=>
    have:=hrdy p hpsz hpl' (.inl rfl) (by rw [hl0];simp)
    rw [hr] at this;simp at this
   |cons i l'=>
    have hi:=(hmem i).1 (by rw [hl0];simp)
    have:=hrdy i hi.1 hi.2.1 (.inr hi.2.2.2) fun j hj=>by
     rw [hl0] at hj hnd
     rcases List.mem_cons.1 hj with rfl|hj
     ·exact Nat.le_refl _
     ·exact Nat.le_of_lt ((List.pairwise_cons.1 hnd).1 j hj)
    rw [hr] at this;simp at this
  ·obtain ⟨h0,o,ho,haft⟩:=mem_ready.1 hi
   by_cases hip:i=p
   ·subst hip
    rw [hop] at ho;simp only [Option.some.injEq] at ho;subst ho
    have hno:∀f∈fs,∀x∈f.ws,x ∉ rs:=by
     intro f hf' x hx hxr
     obtain ⟨q,hq⟩:=List.getElem?_of_mem hf'
     have hql:q<l.length:=by rw [hl,←hf];exact (List.getElem?_eq_some_iff.1 hq).1
     have hz:(l[q],f)∈l.zip fs:=by
      refine List.mem_of_getElem? (i:=q) ?_
      rw [List.getElem?_zip_eq_some]
      exact ⟨List.getElem?_eq_getElem hql,hq⟩
     have hc:f.clash ⟨rs,[]⟩=true:=by
      cases hc:f.clash ⟨rs,[]⟩ with
      |true=>rfl
      |false=>
       simp only [Fp.clash,Bool.not_eq_false',Bool.and_eq_true] at hc
       exact absurd hxr (JG4 hc.1.1 x hx)
     have hdp:=(JFo hord).1 _ hz hc
     have:=JDL hcl n i l[q] op hop haft hdp
     have hm:=(hmem l[q]).1 (by simp)
     rw [hgd _ _ hm.1,hm.2.1] at this
     cases this
    obtain ⟨hw,hp⟩:=JOJ hR (hB.agree fun x hx=>JE1 (hrun.keeps hno x hx))
    unfold wpOpIn
    rw [hop]
    simp only [hw,if_true]
    exact hp _ _ fun a' w' h=>hQ a' w' (hbh▸h)
   ·have hnd2:YR ops n i p=false:=by
     cases hq:YR ops n i p with
     |false=>rfl
     |true=>
      have:=JDL hcl n i p o ho haft hq
      rw [hpl] at this;cases this
    have hil:i∈l:=(hmem i).2 ⟨(Array.getElem?_eq_some_iff.1 ho).1,h0,hip,hnd2⟩
    obtain ⟨l1,l2,rfl⟩:=List.append_of_mem hil
    have hf1:(fs.take l1.length).length=l1.length:=by simp at hl ⊢;omega
    obtain ⟨f,f2,hf2⟩:∃f f2,fs.drop l1.length=f::f2:=by
     cases hq:fs.drop l1.length with
     |nil=>have:=congrArg List.length hq;simp at this hl;omega
     |cons f f2=>exact ⟨f,f2,rfl⟩
    have hfs:fs=fs.take l1.length++f::f2:=by rw [←hf2,List.take_append_drop]
    generalize fs.take l1.length=f1 at hf1 hfs
    subst hfs
    have hzip:(l1++i::l2).zip (f1++f::f2)++[(p,(⟨rs,[]⟩:Fp))]=l1.zip f1++(i,f)::(l2.zip f2++[(p,⟨rs,[]⟩)]):=by
     rw [List.zip_append hf1.symm,List.append_assoc];rfl
    rw [hzip] at hord
    obtain ⟨hclash,hord'⟩:=JFo hord
    have hnone:∀g∈f1,g.clash f=false:=by
     intro g hg
     obtain ⟨q,hq⟩:=List.getElem?_of_mem hg
     have hql:q<l1.length:=by rw [←hf1];exact (List.getElem?_eq_some_iff.1 hq).1
     have hz:(l1[q],g)∈l1.zip f1:=by
      refine List.mem_of_getElem? (i:=q) ?_
      rw [List.getElem?_zip_eq_some]
      exact ⟨List.getElem?_eq_getElem hql,hq⟩
     cases hc:g.clash f with
     |false=>rfl
     |true=>
      have hdep:=hclash _ hz hc
      have:=JDL hcl n i l1[q] o ho haft hdep
      have hm:=(hmem l1[q]).1 (by simp)
      rw [hgd _ _ hm.1,hm.2.1] at this
      cases this
    obtain ⟨o',ws,ho',hst,hws,hrest⟩:=Qe.front hf1.symm hrun hnone
    rw [ho] at ho'
    simp only [Option.some.injEq] at ho'
    subst ho'
    have hpw:=List.pairwise_append.1 hnd
    have hnd':(l1++l2).Pairwise (· < ·):=List.pairwise_append.2 ⟨hpw.1,(List.pairwise_cons.1 hpw.2.1).2,fun x hx y hy=>hpw.2.2 x hx y (by simp [hy])⟩
    have hni:i ∉ l1++l2:=by
     intro hin
     rcases List.mem_append.1 hin with h|h
     ·have:=hpw.2.2 i h i (by simp);omega
     ·have:=(List.pairwise_cons.1 hpw.2.1).1 i h;omega
    have hmem':∀j,j∈l1++l2↔j<ops.size∧(listed.setIfInBounds i true).getD j true=false∧j≠p∧YR ops n j p=false:=by
     intro j
     by_cases hji:i=j
     ·subst hji
      have hilt:i<listed.size:=by rw [hsz];exact (Array.getElem?_eq_some_iff.1 ho).1
      have ht:(listed.setIfInBounds i true).getD i true=true:=by simp [Array.getD_eq_getD_getElem?,hilt]
      rw [ht]
      exact ⟨fun h=>absurd h hni,fun h=>by cases h.2.1⟩
     ·rw [getD_set_ne true hji,←hmem j]
      simp [Ne.symm hji]
    have hcl':∀(j:Nat) (oj:Oper),ops[j]? = some oj→(listed.setIfInBounds i true).getD j false=true→∀e∈oj.after,Region.binds .any e=true→(listed.setIfInBounds i true).getD e.on false=true:=by
     intro j oj hj hlj e he hb
     by_cases hji:i=j
     ·subst hji
      rw [ho] at hj;simp only [Option.some.injEq] at hj;subst hj
      exact getD_set_true (haft e he hb)
     ·rw [getD_set_ne false hji] at hlj
      exact getD_set_true (hcl j oj hj hlj e he hb)
    unfold wpOpIn
    rw [ho]
    have hlen:(l1++l2).length<fuel:=by simp at hl ⊢;omega
    exact JBx (Q:=Q) (K:=wpAnyIn (Qb C) 0 P .any ops Q k (listed.setIfInBounds i true)) hR (hd i o ho) hst fun a' w' hR'=>
     ih (l1++l2).length hlen (listed.setIfInBounds i true) (l1++l2) (f1++f2) _ a' w' rfl (by simp at hf hl ⊢;omega) (by simpa using hsz) (by rw [JEb];exact hbh) hmem' (by rw [getD_set_ne false hip];exact hpl) hnd' hcl' hrest (by rw [List.zip_append hf1.symm,List.append_assoc];exact hord') hR' k (by omega)
theorem JSh {Q:Exit→Act→World→Prop}{Φ:Value→JE→Prop}{A:JE}{a:Act}{w:World}(hm:P.follows .mixedOrders=true)(h:JDq P ops Φ A)(hd:∀(i:Nat) (o:Oper),ops[i]? = some o→∀d,o.dst=some d→C.can d)
  {id:Nat} (hR:J9 C A a w) (hQ:∀pv A' a' w',Φ pv A' → J9 C A' a' w' → Q (.panic (Z3 pv)) a' w'):(Code.region id ops true).wpIn (Qb C) 0 P Q a w:=by
 obtain ⟨pv,n,p,o,fs,B,rs,hop,hrun,hB,hf,hdown,hord,hdead,hΦ⟩:=h
 have hR':J9 C A a { w with drawn:=w.drawn+1 }:=by
  obtain ⟨S,M,ι,hR⟩:=hR
  exact ⟨S,M,ι,hR.kept (b:=A.bh) ⟨rfl,rfl,rfl,Nat.le_refl _,fun _ _=>rfl,fun _ _ _=>rfl⟩ (C.E.step hR.env ⟨rfl,rfl,rfl,Nat.le_refl _,fun _ _ _=>rfl,fun _ _ _=>rfl⟩ (fun _ h=>h) (fun _ h=>.inl h) (fun _ _ h=>h) fun _ _ h=>.inl h)⟩
 have hpsz:p<ops.size:=(Array.getElem?_eq_some_iff.1 hop).1
 refine wpIn_region_any hm ?_
 have hlt:(JBs ops n p).length+1≤ops.size:=by
  have h1:(List.range ops.size).length=ops.size:=List.length_range
  have h2:(JBs ops n p).length<(List.range ops.size).length:=by
   refine List.length_filter_lt_length_iff_exists.2 ⟨p,List.mem_range.2 hpsz,by simp⟩
  omega
 have hrep:∀i,i<ops.size→∀d,(Array.replicate ops.size false).getD i d=false:=fun i hi d=>by simp [Array.getD_eq_getD_getElem?,Array.getElem?_replicate,hi]
 refine JSk hop hB hdown hdead hd (fun a' w' h=>hQ pv _ a' w' hΦ h) (JBs ops n p).length _ (JBs ops n p) fs A a _ rfl hf (by simp) rfl ?_ (hrep p hpsz _) ?_ ?_ hrun hord hR' _ hlt
 ·intro i
  simp only [JBs,List.mem_filter,List.mem_range,Bool.and_eq_true,Bool.not_eq_true',beq_eq_false_iff_ne,ne_eq]
  exact ⟨fun ⟨h1,h2,h3⟩=>⟨h1,hrep i h1 _,h2,h3⟩,fun ⟨h1,_,h2,h3⟩=>⟨h1,h2,h3⟩⟩
 ·exact List.Pairwise.filter _ List.pairwise_lt_range
 ·intro i o ho hli
  rw [hrep i (Array.getElem?_eq_some_iff.1 ho).1] at hli
  cases hli
end openp
end Go.Mw
namespace Go.Mw
open Go.RowKit
def Y6 (p:Nat→Bool):Code→Bool
 |.region _ ops _=>ops.all fun o=>match o.dst with|some d=>p d|none=>true
 |.seq x y=>Y6 p x&&Y6 p y
 |.cond _ x y=>Y6 p x&&Y6 p y
 |.block _ x=>Y6 p x
 |.loop x=>Y6 p x
 |.scope x=>Y6 p x
 |.rangeFunc _ ps x y=>ps.toList.all p&&(Y6 p x&&Y6 p y)
 |_=>true
def off (ss:List Nat)(d:Nat):Bool:= !ss.contains d
def JFi (ss:List Nat)(ps:Array Tmp)(x y:Code):Bool:=ps.toList.all (off ss)&&decide ps.toList.Nodup&&Y6 (off ss) x&&Y6 (off ss) y
def JB (P:Program):Code→(Exit→JE→Prop)→JE→Prop
 |.skip,Φ,A=>Φ .normal A
 |.region _ ops false,Φ,A=>JA P ops (Φ .normal) ops.toList A∨JDr P ops (fun pv=>Φ (.panic (Z3 pv))) A
 |.region _ ops true,Φ,A=>(∃A',JN A A' ∧ Open P ops (fun B=>∃B',JN B B' ∧ Φ .normal B') A')∨∃A',JN A A' ∧ JDq P ops (fun pv=>Φ (.panic (Z3 pv))) A'
 |.seq x y,Φ,A=>JB P x (fun e A'=>match e with |.normal=>∃B,JN A' B∧JB P y Φ B|e=>Φ e A') A
 |.cond c x y,Φ,A=>∃b,asBool (A.ev c)=some b∧(b=true→JB P x Φ A)∧(b=false→JB P y Φ A)
 |.block id body,Φ,A=>JB P body (fun e A'=>match e with |.exit j=>if j=id then Φ .normal A' else Φ (.exit j) A'|e=>Φ e A') A
 |.loop body,Φ,A=>∃I:Nat→JE→Prop,(∃n A',JN A A' ∧ I n A')∧∀n A1,I n A1→JB P body (fun e A2=>match e with |.normal=>∃m A3,m<n∧JN A2 A3∧I m A3|e=>Φ e A2) A1
 |.exit id,Φ,A=>Φ (.exit id) A
 |.ret,Φ,A=>Φ .ret A
 |.label _,Φ,A=>Φ .normal A
 |.scope body,Φ,A=>JB P body (fun e A'=>match e with |.goto _=>False|e=>Φ e A') A
 |.rangeFunc g ps assign body,Φ,A=>∃(gf:FuncId) (ds:List D) (args:List AV) (T:Nat) (b0:Jh) (tm:List (Nat × AV)) (ob:Jh→List (Nat × AO)) (bh:Jh→Jh) (X:Jh→Prop),
   (JE.mk tm (ob b0) (bh b0)).ev g=.leaf (.d (.fn gf ds))∧JO P gf=true∧JS WkP (ds.map fun x=>.leaf (.d x)) args∧Qq P gf (.leaf (.obj T)::args) [(T,.yl)] b0 ∧
   JN A ⟨tm,ob b0,bh b0⟩∧X b0∧JFi (tm.map Prod.fst) ps assign body=true ∧
   (∀vals k,X (.yld vals k)→vals.length=ps.size∧JB P assign (fun e A1=>e=.normal∧JB P body (fun e A2=>match e with
     |.normal=>JN (A2.lim (tm.map Prod.fst)) ⟨tm,ob (k true),bh (k true)⟩∧X (k true)
     |.ret=>(∃res obs,k false=.ret res obs)∧Φ .ret (A2.lim (tm.map Prod.fst))
     |.exit i=>(∃res obs,k false=.ret res obs)∧Φ (.exit i) (A2.lim (tm.map Prod.fst))
     |_=>False) A1) ⟨ps.toList.zip vals++tm,ob (.yld vals k),bh (.yld vals k)⟩) ∧
   (∀res obs,X (.ret res obs)→Φ .normal ⟨tm,ob (.ret res obs),bh (.ret res obs)⟩)
 |_,_,_=>False
def JIB (P:Program)(p:Nat→Bool)(c:Code):Prop:=∀(C:Ctx P) (Φ:Exit→JE→Prop) (A:JE) (a:Act) (w:World),(∀d,p d=true→C.can d)→JB P c Φ A→J9 C A a w →
 ∀Q:Exit→Act→World→Prop,(∀e A' a' w',Φ e A' → J9 C A' a' w' → Q e a' w')→c.wpIn (Qb C) 0 P Q a w
theorem JN.lim (A:JE)(ss:List Nat):JN A (A.lim ss):=
 JCF (fun S ι w s v h=>by rw [JMJ];split;exact h;trivial) fun S ι w o x' h=>⟨x',h,fun h=>h,fun h=>h,fun _ _ _ h=>h⟩
section round
variable {P:Program} {C:Ctx P} {a1:Act} {l:Nat} {fn:FuncId} {ps:Array Tmp} {assign body:Code} {D:Nat} {X:Jh→Prop} {Φ:Exit→JE→Prop}
def Zy (fn:FuncId)(tmps:Array Value)(ps:Array Tmp)(assign body:Code)(D:Nat)(st:LoopState)(pe:Option Code):Loop:={ state:=st,pending:=pe,fn,tmps,params:=ps,assign,body,defers:=D }
def JF0 (C:Ctx P)(Sc:Jc)(Mt L:J7)(w:World)(h0:∀k,Mt k→k<w.heap.size)(ss:List Nat)(tmps:Array Value)(l:Nat)(r:Loop):Ctx P:=
 { E:=C.E.frame id (fun _ _=>rfl) Sc Mt L w h0,S0:=Sc,N:=C.N,fix:=fun s=>if s∈ss then some (tmps.getD s undef) else C.fix s,rd:=some (l,r),pin:=C.pin,lim:=C.lim }
theorem JNp {St:Jh→JE}{b:Jh}{S:Jc}{M:J7}{w:World}{Sc:Jc}{Mt U:J7}{ι:Nat→Value}{A3:JE}{st:LoopState}{pe:Option Code}{rc:LoopState→Option Code→Loop}
  (h:JH8 C a1 l rc St X Φ b S M w Sc Mt U ι A3 st pe) {L:J7} (hL:∀k,L k↔((∃o x,A3.obj o=some x∧blk (ι o)=some k)∨k=l)) {ss:List Nat} {r r':Loop} {S3:Jc} {M3:J7} {ι3:Nat→Value} {A4:JE} {a2:Act} {w2:World}
  (hR:Jg (JF0 C Sc Mt L w h.rel.minn ss a1.tmps l r) S3 M3 ι3 A4 a2 w2) (hdead:∀s,s ∉ ss→A4.get s=.dead) {b':Jh} {st':LoopState} {pe':Option Code} (hr':r'=rc st' pe')
  (hmode:(st'=.ready∧pe'=none∧X b' ∧ A4=St b')∨((∃res obs,b'=.ret res obs)∧st'=.done∧∃e c,JI6 e=some c∧pe'=some c∧Φ e A4)) :
  JEn S M w (w2.putObj l (.loop r'))∧Jit C a1 l rc St X Φ b' S M (w2.putObj l (.loop r')):=by
 have hR0:=h.rel
 obtain ⟨hJ,hkeep,hM3,hsz,hcell,hos,htape,hout⟩:=hR.env
 have hLl:L l:=(hL l).2 (.inr rfl)
 obtain ⟨hMl,hl2⟩:=hR.rdok l r rfl
 have hLU:∀k,L k→U k:=fun k hk=>by
  rcases (hL k).1 hk with ⟨o,x,h1,h2⟩|rfl
  ·exact h.uobj o x k h1 h2
  ·exact h.ul
 have hML:∀k,M k→¬L k:=fun k hk hl=>h.apart k (hLU k hl) hk
 have hMl':∀k,M k→k≠l:=fun k hk e=>h.apart l h.ul (e▸hk)
 have hM3M:∀k,M3 k→¬M k:=fun k hk hm=>by
  rcases hM3 k hk with h1|h1
  ·exact hML k hm h1
  ·have:=hR0.minn k (h.mmt k hm);omega
 have hcell':∀b o,Sc b o→(w2.putObj l (.loop r')).cell? ⟨b,o,none⟩=w.cell? ⟨b,o,none⟩:=fun b o hs=>(JDJ hl2 _).trans (hcell b o hs).2
 -- other records and marks
 have hold:∀k y,U k→k≠l→w.heap[k]? = some y→JFe y=false→(w2.putObj l (.loop r')).heap[k]? = some y:=fun k y hu hne hy hd=>by
  refine (World.putObj_heap_other hne).trans ((hkeep k (h.umt k hu) fun hl=>?_).trans hy)
  rcases (hL k).1 hl with ⟨o,x,h1,h2⟩|e
  ·obtain ⟨_,_,z,hz,hdz⟩:=(hR0.objs o x h1).blk_ge h2
   rw [hy] at hz;cases hz;rw [hd] at hdz;cases hdz
  ·exact hne e
 have hm:Mv S3 ι3 A4.obj w2 S3 ι3 A4.obj (w2.putObj l (.loop r')):=⟨fun _ _ h=>h.mono (fun _ _ h=>h) fun b o _=>JDJ hl2 _,fun o ls h=>⟨⟨ls,h⟩,rfl⟩,fun o e k es h=>⟨es,h,Nat.le_refl _,fun _=>rfl⟩,fun b o hs=>⟨hs,JDJ hl2 _⟩,fun o x h hx=>⟨⟨x,h,hx⟩,rfl⟩⟩
 refine ⟨⟨hos,htape,hout,by simpa using hsz,fun k hk=>(World.putObj_heap_other (hMl' k hk)).trans (hkeep k (h.mmt k hk) (hML k hk)),fun b o hs=>hcell' b o (h.ssc b o hs)⟩,?_⟩
 refine ⟨S3,fun k=>Mt k∨M3 k,fun k=>U k∨M3 k,ι3,A4,st',pe',{
  rel:={
   sub:=fun b o hs=>(hcell b o (hR0.sub b o hs)).1
   new:=fun b o hs=>by
    rcases hR.new b o hs with h1|h1
    ·exact (hR0.new b o h1).imp id .inl
    ·exact .inr (.inr h1)
   inn:=fun b o hs=>by simpa using hR.inn b o hs
   minn:=fun k hk=>by
    rcases hk with hk|hk
    ·have:=hR0.minn k hk;simp;omega
    ·simpa using hR.minn k hk
   sz:=hR0.sz
   tms:=fun s=>by
    by_cases hs:s∈ss
    ·have h1:=hm.v (hR.tms s)
     have h2:=hR.fixed s (a1.tmps.getD s undef) (by simp [JF0,hs])
     rw [h2] at h1
     exact h1
    ·rw [hdead s hs];trivial
   objs:=fun o x ho=>(hR.objs o x ho).other hm rfl (fun k hk=>World.putObj_heap_other fun e=>by
    obtain ⟨_,_,z,hz,hd⟩:=(hR.objs o x ho).blk_ge hk
    rw [e,hl2] at hz;cases hz;cases hd) fun _ _ _ h=>h
   dis:=hR.dis
   own:=fun o x k ho hk=>.inr (hR.own o x k ho hk)
   env:=C.E.step hJ (JIw hl2 (.inr hMl)) (fun _ h=>h) (fun _ h=>.inl h) (fun _ _ h=>h) fun _ _ h=>.inl h
   tok:=hR.tok
   fixed:=hR0.fixed
   marks:=by
    obtain ⟨rs,h1,h2,h3⟩:=hR0.marks
    refine ⟨rs,h1,h2,fun q hq=>⟨.inl (h3 q hq).1,hold q _ (h.umark q (by rw [h1];exact List.mem_map_of_mem hq)) (fun e=>?_) (h3 q hq).2 rfl⟩⟩
    have:=(h3 q hq).2
    rw [e,h.hl] at this;cases this
   rdok:=fun l0 r0 hl0=>⟨.inl (hR0.rdok l0 r0 hl0).1,hold l0 _ (h.urd l0 r0 hl0).1 (h.urd l0 r0 hl0).2 (hR0.rdok l0 r0 hl0).2 rfl⟩
   pinned:=hR.pinned
   pinN:=hR0.pinN }
  umt:=fun k hk=>hk.imp (h.umt k) id
  apart:=fun k hk=>hk.elim (h.apart k) (hM3M k)
  mmt:=fun k hk=>.inl (h.mmt k hk)
  uobj:=fun o x k ho hk=>.inr (hR.own o x k ho hk)
  umark:=fun q hq=>.inl (h.umark q hq)
  urd:=fun l0 r0 hl0=>⟨.inl (h.urd l0 r0 hl0).1,(h.urd l0 r0 hl0).2⟩
  ul:=.inl h.ul
  hl:=by rw [World.putObj_heap_same (Array.getElem?_eq_some_iff.1 hl2).1,hr']
  ssc:=fun b o hs=>(hcell b o (h.ssc b o hs)).1
  scs:=fun b o hs hb=>by
   rcases hR.new b o hs with h1|h1
   ·exact h.scs b o h1 hb
   ·exact absurd hb (hM3M b h1)
  mode:=hmode }⟩
end round
end Go.Mw
namespace Go.Mw
open Go.RowKit
section round
variable {P:Program} {C:Ctx P} {a1:Act} {l:Nat} {fn:FuncId} {ps:Array Tmp} {assign body:Code} {D:Nat} {X:Jh→Prop} {Φ:Exit→JE→Prop}
theorem JSE {p:Nat→Bool}{tm:List (Nat × AV)}{ob:Jh→List (Nat × AO)}{bh:Jh→Jh}(hp:∀d,p d=true→C.can d)(hps:ps.toList.all p=true)(hld:JFi (tm.map Prod.fst) ps assign body=true)
  (hsa:JIB P (fun d=>p d&&off (tm.map Prod.fst) d) assign) (hsb:JIB P (fun d=>p d&&off (tm.map Prod.fst) d) body)
  (hX:∀vals k,X (.yld vals k)→vals.length=ps.size∧JB P assign (fun e A1=>e=.normal∧JB P body (fun e A2=>match e with
     |.normal=>JN (A2.lim (tm.map Prod.fst)) ⟨tm,ob (k true),bh (k true)⟩∧X (k true)
     |.ret=>(∃res obs,k false=.ret res obs)∧Φ .ret (A2.lim (tm.map Prod.fst))
     |.exit i=>(∃res obs,k false=.ret res obs)∧Φ (.exit i) (A2.lim (tm.map Prod.fst))
     |_=>False) A1) ⟨ps.toList.zip vals++tm,ob (.yld vals k),bh (.yld vals k)⟩)
  {vals:List AV} {k:Bool→Jh} {S:Jc} {M:J7} {w:World} {vs:List Value} (hJ:Jit C a1 l (Zy fn a1.tmps ps assign body D) (fun b=>⟨tm,ob b,bh b⟩) X Φ (.yld vals k) S M w) (hvs:JS (Jk S Yc JCJ w) vals vs) :
  YieldAt Fence.wide 0 P l vs.toArray w fun e w'=>∃r,e=.returned (.bool r)∧JEn S M w w' ∧ Jit C a1 l (Zy fn a1.tmps ps assign body D) (fun b=>⟨tm,ob b,bh b⟩) X Φ (k r) S M w':=by
 obtain ⟨Sc,Mt,U,ι,A3,st,pe,h⟩:=hJ
 have hR:=h.rel
 rcases h.mode with ⟨rfl,rfl,hx,rfl⟩|⟨⟨_,_,hb⟩,_⟩
 case inr=>cases hb
 obtain ⟨hlen,hexec⟩:=hX vals k hx
 have hsz:vs.toArray.size=ps.size:=by rw [List.size_toArray,←hvs.length,hlen]
 have hy:=run_yield (P:=P) (args:=vs.toArray) h.hl hsz
 refine ⟨_,_,_,_,hy,roundIn_of_wpIn trivial ?_⟩
 simp only [JFi,Bool.and_eq_true,List.all_eq_true,decide_eq_true_eq] at hld hps
 obtain ⟨⟨⟨hld1,hnd⟩,hld2⟩,hld3⟩:=hld
 have hfold:((Zy fn a1.tmps ps assign body D .ready none).params.zip vs.toArray).foldl (fun tmps x=>match x with|(t,a)=>tmps.setIfInBounds t a) (Zy fn a1.tmps ps assign body D .ready none).tmps =
   (ps.toList.zip vs).foldl (fun t q=>t.setIfInBounds q.1 q.2) a1.tmps:=by
  rw [←Array.foldl_toList,Array.toList_zip]
  rfl
 rw [hfold]
 let L:J7:=fun q=>(∃o x,(JE.mk tm (ob (.yld vals k)) (bh (.yld vals k))).obj o=some x∧blk (ι o)=some q)∨q=l
 have hL:∀q,L q↔((∃o x,(JE.mk tm (ob (.yld vals k)) (bh (.yld vals k))).obj o=some x∧blk (ι o)=some q)∨q=l):=fun q=>Iff.rfl
 have hLM:∀q,L q→Mt q:=fun q hq=>by
  rcases hq with ⟨o,x,h1,h2⟩|rfl
  ·exact hR.own o x q h1 h2
  ·exact h.umt _ h.ul
 have hset:=JOA (R:=fun x v=>Jk Sc ι (JE.mk tm (ob (.yld vals k)) (bh (.yld vals k))).obj w x v) C.N (tmps:=a1.tmps) (JS.mono (fun x v h1=>JNi h.ssc (fun _ _ _=>rfl) h1) hvs)
  (by simpa using hlen.symm) hnd (fun q hq=>(hp q (hps q hq)).1) hR.sz
 have hoff:∀q∈ps.toList,q ∉ tm.map Prod.fst:=fun q hq=>by
  have:=hld1 q hq
  simpa [off] using this
 let C1:=JF0 C Sc Mt L w hR.minn (tm.map Prod.fst) a1.tmps l (Zy fn a1.tmps ps assign body D .ready none)
 have hcan:∀(r:Loop) d,(p d&&off (tm.map Prod.fst) d)=true→(JF0 C Sc Mt L w hR.minn (tm.map Prod.fst) a1.tmps l r).can d:=fun r d hd=>by
  simp only [Bool.and_eq_true] at hd
  obtain ⟨h1,h2⟩:=hd
  obtain ⟨c1,c2,c3⟩:=hp d h1
  refine ⟨c1,?_,c3⟩
  have:d ∉ tm.map Prod.fst:=by simpa [off] using h2
  show (if d∈tm.map Prod.fst then _ else C.fix d)=none
  rw [if_neg this]
  exact c2
 have hget:∀s,(JE.mk (ps.toList.zip vals++tm) (ob (.yld vals k)) (bh (.yld vals k))).get s=match look (ps.toList.zip vals) s with|some x=>x|none=>(JE.mk tm (ob (.yld vals k)) (bh (.yld vals k))).get s:=fun s=>by
  show (look (ps.toList.zip vals++tm) s).getD .dead=_
  rw [JMg]
  cases look (ps.toList.zip vals) s<;>rfl
 have hR1:Jg C1 Sc L ι ⟨ps.toList.zip vals++tm,ob (.yld vals k),bh (.yld vals k)⟩ { tmps:=(ps.toList.zip vs).foldl (fun t q=>t.setIfInBounds q.1 q.2) a1.tmps,defers:=[] } w:={
  sub:=fun _ _ h=>h
  new:=fun _ _ h=>.inl h
  inn:=hR.inn
  minn:=fun q hq=>hR.minn q (hLM q hq)
  sz:=hset.1
  tms:=fun s=>by
   rw [hget]
   rcases hset.2 s with ⟨x,_,h2,h3⟩|⟨_,h2,h3⟩
   ·rw [h2];exact h3
   ·rw [h2]
    show Jk Sc ι _ w _ (((ps.toList.zip vs).foldl (fun t q=>t.setIfInBounds q.1 q.2) a1.tmps).getD s undef)
    rw [h3];exact hR.tms s
  objs:=hR.objs
  dis:=hR.dis
  own:=fun o x q ho hq=>.inl ⟨o,x,ho,hq⟩
  env:=⟨C.E.J_eqv hR.env (fun q hq=>.inl hq) (fun q hq=>hq.elim id (hLM q)) (fun _ _ h=>h) fun _ _ h=>.inl h,fun _ _ _=>rfl,fun q hq=>.inl hq,Nat.le_refl _,fun b o h=>⟨h,rfl⟩,rfl,rfl,rfl⟩
  tok:=hR.tok
  fixed:=fun s v hs=>by
   have hs':(if s∈tm.map Prod.fst then some (a1.tmps.getD s undef) else C.fix s)=some v:=hs
   show ((ps.toList.zip vs).foldl (fun t q=>t.setIfInBounds q.1 q.2) a1.tmps).getD s undef=v
   rcases hset.2 s with ⟨x,h1,_,_⟩|⟨_,_,h3⟩
   ·rw [if_neg (hoff s h1),(hp s (hps s h1)).2.1] at hs'
    cases hs'
   ·rw [h3]
    split at hs'
    ·simpa using hs'
    ·exact hR.fixed s v hs'
  marks:=⟨[],rfl,List.nodup_nil,by simp⟩
  rdok:=fun l' r hl=>by
   have hl':some (l,Zy fn a1.tmps ps assign body D .ready none)=some (l',r):=hl
   simp only [Option.some.injEq,Prod.mk.injEq] at hl'
   obtain ⟨rfl,rfl⟩:=hl'
   exact ⟨.inr rfl,h.hl⟩
  pinned:=hR.pinned
  pinN:=hR.pinN }
 refine hsa C1 _ _ _ _ (hcan _) hexec ⟨Sc,L,ι,hR1⟩ _ fun e A1 a1' w1 hE hRa=>?_
 obtain ⟨rfl,hE⟩:=hE
 obtain ⟨S1,M1,ι1,hRa⟩:=hRa
 show ∃w₂,(Instr.beginRound l).run P w1=.ok () w₂∧_
 refine ⟨_,run_beginRound (hRa.rdok l _ rfl).2 rfl,?_⟩
 have hRb:=hRa.putLoop (l:=l) (Zy fn a1.tmps ps assign body D .busy none) rfl
 refine hsb _ _ _ _ _ (hcan (Zy fn a1.tmps ps assign body D .busy none)) hE ⟨S1,M1,ι1,hRb⟩ _ fun e A2 a2 w2 hE2 hR2=>?_
 have hR2':J9 (JF0 C Sc Mt L w hR.minn (tm.map Prod.fst) a1.tmps l (Zy fn a1.tmps ps assign body D .busy none)) (A2.lim (tm.map Prod.fst)) a2 w2:=JN.lim A2 _ P _ a2 w2 hR2
 have hdead:∀s,s ∉ tm.map Prod.fst→(A2.lim (tm.map Prod.fst)).get s=.dead:=fun s hs=>by rw [JMJ,if_neg hs]
 have hjump:∀(e:Exit) (c:Code),JI6 e=some c→(∃res obs,k false=.ret res obs)→Φ e (A2.lim (tm.map Prod.fst))→∃v w',(Instr.endRound l (some c)).run P w2=.ok v w' ∧
   ∃r,Ending.returned v=.returned (.bool r)∧JEn S M w w' ∧ Jit C a1 l (Zy fn a1.tmps ps assign body D) (fun b=>⟨tm,ob b,bh b⟩) X Φ (k r) S M w':=fun e c hc hk hΦ=>by
  obtain ⟨S3,M3,ι3,hR3⟩:=hR2'
  refine ⟨_,_,run_endRound (some c) (hR3.rdok l _ rfl).2,false,rfl,?_⟩
  exact JNp h hL hR3 hdead (st':=.done) (pe':=some c) rfl (.inr ⟨hk,rfl,e,c,hc,rfl,hΦ⟩)
 cases e with
 |normal=>
  obtain ⟨hg,hx'⟩:=hE2
  obtain ⟨S3,M3,ι3,hR3⟩:=hg P _ a2 w2 hR2'
  refine ⟨_,_,run_endRound none (hR3.rdok l _ rfl).2,true,rfl,?_⟩
  refine JNp h hL hR3 (fun s hs=>?_) (st':=.ready) (pe':=none) rfl (.inl ⟨rfl,rfl,hx',rfl⟩)
  show (look tm s).getD .dead=.dead
  have:look tm s=none:=by
   cases hl:look tm s with
   |none=>rfl
   |some x=>
    obtain ⟨y,hy⟩:=JEW hl
    exact absurd (List.mem_map_of_mem (f:=Prod.fst) hy) hs
  rw [this];rfl
 |ret=>exact hjump .ret .ret rfl hE2.1 hE2.2
 |exit i=>exact hjump (.exit i) (.exit i) rfl hE2.1 hE2.2
 |goto _=>exact hE2.elim
 |panic _=>exact hE2.elim
 |outgrown=>exact hE2.elim
end round
end Go.Mw
namespace Go.Mw
open Go.RowKit
section enter
variable {P:Program} {C:Ctx P} {S:Jc} {M:J7} {ι:Nat→Value} {A:JE} {a:Act} {w:World}
theorem JJT {ds:List Deferred}{rs:List Nat}(h:ds=rs.map mark){r:Nat}(hr:mark r∈ds):r∈rs:=by
 subst h
 obtain ⟨q,hq,e⟩:=List.mem_map.1 hr
 simp only [mark,Deferred.mk.injEq,Target.collected.injEq,and_true] at e
 exact e▸hq
theorem Jg.laid (hR:Jg C S M ι A a w)(x:Obj):Jg C S (grow M w (w.alloc x)) ι A a (w.alloc x):=by
 have hk:∀k,k<w.heap.size→(w.alloc x).heap[k]? = w.heap[k]? :=fun k hk=>Below.heap_alloc w x k hk
 refine hR.far (U:=M) hR.own (fun r hr=>?_) (fun l r h=>(hR.rdok l r h).1) (fun k h=>hk k (hR.minn k h)) (by simp) (fun b o h=>World.cell?_of_block (hk b (hR.inn b o h))) (fun _ _ h=>h) (fun _=>.inl) (fun _ _ h=>.inl h)
  (fun b o h=>Nat.lt_of_lt_of_le (hR.inn b o h) (by simp)) (fun k h=>?_) (C.E.step hR.env ⟨rfl,rfl,rfl,by simp,fun k h _=>hk k h,fun b o h=>World.cell?_of_block (hk b (hR.inn b o h))⟩ (fun _=>.inl) (fun _=>id) (fun _ _ h=>h) fun _ _ h=>.inl h)
 ·obtain ⟨rs,h1,_,h3⟩:=hR.marks
  exact (h3 r (JJT h1 hr)).1
 ·rcases h with h|h
  ·exact Nat.lt_of_lt_of_le (hR.minn k h) (by simp)
  ·exact h.2
theorem JRX (hR:Jg C S M ι A a w)(fn:FuncId)(ps:Array Tmp)(assign body:Code):∃l D mk w1 M1,(Instr.enterLoop fn a.tmps ps assign body (Qb C).round).run P w=.ok (l,mk) w1 ∧
  Jg C S M1 ι A { a with defers:=mk++a.defers } w1∧w1.heap[l]? = some (.loop (Zy fn a.tmps ps assign body D .ready none))∧M1 l∧(∀l0 r,C.rd=some (l0,r)→l0≠l)∧(∀b o,S b o→w1.cell? ⟨b,o,none⟩=w.cell? ⟨b,o,none⟩):=by
 cases hrd:C.rd with
 |none=>
  have hf:(Qb C).round=none:=by unfold Qb;rw [hrd];rfl
  rw [hf]
  have h1:=(hR.laid (.deferred (some []))).laid (.loop (Zy fn a.tmps ps assign body w.heap.size .ready none))
  have hc:∀b o,S b o→((w.alloc (.deferred (some []))).alloc (.loop (Zy fn a.tmps ps assign body w.heap.size .ready none))).cell? ⟨b,o,none⟩=w.cell? ⟨b,o,none⟩:=fun b o h=>
   World.cell?_of_block ((Below.heap_alloc _ _ _ (by have:=hR.inn b o h;simp;omega)).trans (Below.heap_alloc w _ _ (hR.inn b o h)))
  refine ⟨w.heap.size+1,w.heap.size,_,_,_,run_enterLoop_outer fn a.tmps ps assign body,{ h1 with marks:=?_ },?_,?_,(by simp),hc⟩
  ·obtain ⟨rs,e1,e2,e3⟩:=h1.marks
   obtain ⟨rs',e1',e2',e3'⟩:=hR.marks
   have hrs:rs=rs':=JJS (e1.symm.trans e1')
   subst hrs
   refine ⟨w.heap.size::rs,by simp [e1,mark],List.nodup_cons.2 ⟨fun hm=>?_,e2⟩,fun r hr=>?_⟩
   ·have:=hR.minn _ (e3' _ hm).1;omega
   ·rcases List.mem_cons.1 hr with rfl|hr
    ·refine ⟨.inl (.inr ⟨by omega,by simp⟩),?_⟩
     exact (Below.heap_alloc _ _ _ (by simp)).trans (World.alloc_heap_new w _)
    ·exact e3 r hr
  ·have:=World.alloc_heap_new (w.alloc (.deferred (some []))) (.loop (Zy fn a.tmps ps assign body w.heap.size .ready none))
   rwa [World.size_alloc] at this
  ·exact .inr ⟨by simp,by simp⟩
 |some q=>
  obtain ⟨l0,r0⟩:=q
  have hf:(Qb C).round=some l0:=by unfold Qb;rw [hrd];rfl
  rw [hf]
  have hl0:=hR.rdok l0 r0 hrd
  have h1:=hR.laid (.loop (Zy fn a.tmps ps assign body r0.defers .ready none))
  refine ⟨w.heap.size,r0.defers,[],_,_,run_enterLoop_inner hl0.2 fn a.tmps ps assign body,h1,World.alloc_heap_new w _,.inr ⟨Nat.le_refl _,by simp⟩,fun l1 r1 e=>?_,fun b o h=>World.cell?_of_block (Below.heap_alloc w _ _ (hR.inn b o h))⟩
  simp only [Option.some.injEq,Prod.mk.injEq] at e
  have:=hR.minn _ hl0.1
  omega
end enter
theorem JBL {p q:Nat→Bool}:∀ {c:Code},Y6 p c=true→Y6 q c=true→Y6 (fun d=>p d&&q d) c=true
 |.skip,_,_=>rfl
 |.region _ ops _,h,h'=>by
  refine Array.all_eq_true_iff_forall_mem.2 fun o ho=>?_
  have h1:=Array.all_eq_true_iff_forall_mem.1 h o ho
  have h2:=Array.all_eq_true_iff_forall_mem.1 h' o ho
  cases hd:o.dst with
  |none=>rfl
  |some d=>simp only [hd] at h1 h2 ⊢;simp [h1,h2]
 |.seq x y,h,h'=>by
  simp only [Y6,Bool.and_eq_true] at h h' ⊢
  exact ⟨JBL h.1 h'.1,JBL h.2 h'.2⟩
 |.cond _ x y,h,h'=>by
  simp only [Y6,Bool.and_eq_true] at h h' ⊢
  exact ⟨JBL h.1 h'.1,JBL h.2 h'.2⟩
 |.block _ x,h,h'=>JBL (c:=x) h h'
 |.loop x,h,h'=>JBL (c:=x) h h'
 |.rangeFunc _ ps x y,h,h'=>by
  simp only [Y6,Bool.and_eq_true,List.all_eq_true] at h h' ⊢
  exact ⟨fun d hd=>⟨h.1 d hd,h'.1 d hd⟩,JBL h.2.1 h'.2.1,JBL h.2.2 h'.2.2⟩
 |.exit _,_,_=>rfl
 |.scope x,h,h'=>JBL (c:=x) h h'
 |.label _,_,_=>rfl
 |.goto _,_,_=>rfl
 |.ret,_,_=>rfl
 |.refuse _,_,_=>rfl
theorem JG6 {p:Nat→Bool}{id:Nat}{ops:Array Oper}{dr:Bool}(h:Y6 p (.region id ops dr)=true){o:Oper}(ho:o∈ops){d:Nat}(hd:o.dst=some d):p d=true:=by
 have:=Array.all_eq_true_iff_forall_mem.1 h o ho
 simpa [hd] using this
theorem least {p:Nat→Prop}(h:∃n,p n):∃n,p n∧∀m,p m→n≤m:=by
 obtain ⟨n,hn⟩:=h
 induction n using Nat.strongRecOn with
 |_ n ih=>
  by_cases hm:∃m,m<n∧p m
  ·obtain ⟨m,hlt,hm⟩:=hm
   exact ih m hlt hm
  ·exact ⟨n,hn,fun m hpm=>Nat.le_of_not_lt fun hlt=>hm ⟨m,hlt,hpm⟩⟩
theorem JSD {P:Program}{C:Ctx P}{a1:Act}{l:Nat}{rc:LoopState→Option Code→Loop}{St:Jh→JE}{X:Jh→Prop}{Φ:Exit→JE→Prop}{b:Jh}{S:Jc}{M:J7}{w:World}
  {Sc:Jc} {Mt U:J7} {ι:Nat→Value} {A3:JE} {st:LoopState} {pe:Option Code} (h:JH8 C a1 l rc St X Φ b S M w Sc Mt U ι A3 st pe) (r':Loop):J9 C A3 a1 (w.putObj l (.loop r')):=by
 have hR:=h.rel
 refine ⟨Sc,Mt,ι,hR.far (U:=fun k=>Mt k∧k≠l) (fun o x k ho hk=>⟨hR.own o x k ho hk,fun e=>?_⟩) (fun r hr=>?_) (fun l0 r0 h0=>⟨(hR.rdok l0 r0 h0).1,(h.urd l0 r0 h0).2⟩) (fun k hk=>World.putObj_heap_other hk.2) (by simp) (fun b o _=>JDJ h.hl _)
  (fun _ _ h=>h) (fun _ h=>h) (fun _ _ h=>.inl h) (fun b o hs=>by simpa using hR.inn b o hs) (fun k hk=>by simpa using hR.minn k hk) (C.E.step hR.env (JIw h.hl (h.umt l h.ul)) (fun _ h=>h) (fun _ h=>.inl h) (fun _ _ h=>h) fun _ _ h=>.inl h)⟩
 ·obtain ⟨_,_,z,hz,hd⟩:=(hR.objs o x ho).blk_ge hk
  rw [e,h.hl] at hz;cases hz;cases hd
 ·obtain ⟨rs,h1,_,h3⟩:=hR.marks
  have hm:=h3 r (JJT h1 hr)
  exact ⟨hm.1,fun e=>by rw [e,h.hl] at hm;cases hm.2⟩
section scope
variable {P:Program} {b:Frame} {a:Act} {k:List Item} {cs:List Frame} {w:World} {F:Fence} {n:Nat} {Q:Exit→Act→World→Prop}
theorem JEk {c:Code}:step P (lone (b.atR a (.code (.scope c)::k)) cs w)=.next (lone (b.atR a (.code c :: .inScope c::k)) cs w):=
 step_lone_go (by simp [stepG,stepG.exec,Frame.atR])
theorem JVB {c:Code}:step P (lone (b.atR a (.inScope c::k)) cs w)=.next (lone (b.atR a k) cs w):=
 step_lone_go (by simp [stepG,stepG.exec,Frame.atR])
theorem JVo {c:Code}(h:c.wpIn F n P (Exit.noGoto Q) a w):(Code.scope c).wpIn F n P Q a w:=by
 intro b k cs hro hb hr
 have h0:(lone (b.atR a (.code (.scope c)::k)) cs w).fenced P F:=fenced_calm hb hr rfl
 obtain ⟨e,a₁,w₁,hq,harr⟩:=h b (.inScope c::k) cs hro hb hr
 cases e with
 |normal=>exact ⟨.normal,a₁,w₁,hq,.head h0 JEk (StepsIn.trans harr (.one (fenced_calm hb hr rfl) JVB))⟩
 |exit id=>
  have hx:exitTo id (.inScope c::k)=exitTo id k:=by simp [exitTo]
  exact ⟨.exit id,a₁,w₁,hq,fun k' hk=>.head h0 JEk (harr.1 k' (by rw [hx];exact hk)),
   fun hr' hk=>let ⟨k₁,h1,h2⟩:=harr.2 hr' (by rw [hx];exact hk);⟨k₁,h1,.head h0 JEk h2⟩⟩
 |goto l=>exact hq.elim
 |ret=>exact ⟨_,a₁,w₁,hq,.of_steps (.one h0 JEk) harr⟩
 |panic ch=>exact ⟨_,a₁,w₁,hq,.of_steps (.one h0 JEk) harr⟩
 |outgrown=>exact ⟨_,a₁,w₁,hq,.of_steps (.one h0 JEk) harr⟩
end scope
theorem JA2 {P:Program}(hm:P.follows .mixedOrders=true):∀(c:Code) (p:Nat→Bool),Y6 p c=true→JIB P p c
 |.skip,_,_,C,Φ,A,a,w,_,h,hR,Q,hQ=>wpIn_skip (hQ _ _ _ _ h hR)
 |.region id ops false,p,hd,C,Φ,A,a,w,hp,h,hR,Q,hQ=>wpIn_region_list (by
  rcases h with h|h
  ·exact JN1 h (fun o ho d hod=>hp d (JG6 hd (by simpa using ho) hod)) a w hR fun A' a' w' h1 h2=>hQ _ _ _ _ h1 h2
  ·exact JT7 h (fun o ho d hod=>hp d (JG6 hd (by simpa using ho) hod)) a w hR fun pv A' a' w' h1 h2=>hQ _ _ _ _ h1 h2)
 |.region id ops true,p,hd,C,Φ,A,a,w,hp,h,hR,Q,hQ=>by
  rcases h with ⟨A',hg,h⟩|⟨A',hg,h⟩
  ·refine JSl hm h (fun i o ho d hod=>hp d (JG6 hd (Array.mem_of_getElem? ho) hod)) (hg P C a w hR) fun B a' w' h1 h2=>?_
   obtain ⟨B',hg',h1⟩:=h1
   exact hQ _ _ _ _ h1 (hg' P C a' w' h2)
  ·exact JSh hm h (fun i o ho d hod=>hp d (JG6 hd (Array.mem_of_getElem? ho) hod)) (hg P C a w hR) fun pv A' a' w' h1 h2=>hQ _ _ _ _ h1 h2
 |.seq x y,p,hd,C,Φ,A,a,w,hp,h,hR,Q,hQ=>by
  simp only [Y6,Bool.and_eq_true] at hd
  refine wpIn_seq (JA2 hm x p hd.1 C _ A a w hp h hR _ fun e A' a' w' h1 h2=>?_)
  cases e with
  |normal=>
   obtain ⟨B,hg,h1⟩:=h1
   exact JA2 hm y p hd.2 C _ B a' w' hp h1 (hg P C a' w' h2) Q hQ
  |_=>exact hQ _ _ _ _ h1 h2
 |.cond c x y,p,hd,C,Φ,A,a,w,hp,h,hR,Q,hQ=>by
  simp only [Y6,Bool.and_eq_true] at hd
  obtain ⟨b,hb,h1,h2⟩:=h
  obtain ⟨S,M,ι,hR'⟩:=id hR
  have hv:=JK1 hb (QF hR' c)
  exact wpIn_cond_split hv (fun e=>JA2 hm x p hd.1 C _ A a w hp (h1 e) hR Q hQ) (fun e=>JA2 hm y p hd.2 C _ A a w hp (h2 e) hR Q hQ)
 |.block id x,p,hd,C,Φ,A,a,w,hp,h,hR,Q,hQ=>by
  refine wpIn_block (JA2 hm x p hd C _ A a w hp h hR _ fun e A' a' w' h1 h2=>?_)
  cases e with
  |exit j=>
   simp only [Exit.inBlock]
   simp only at h1
   split
   ·rename_i hj;rw [if_pos hj] at h1;exact hQ _ _ _ _ h1 h2
   ·rename_i hj;rw [if_neg hj] at h1;exact hQ _ _ _ _ h1 h2
  |_=>exact hQ _ _ _ _ h1 h2
 |.loop x,p,hd,C,Φ,A,a,w,hp,h,hR,Q,hQ=>by
  obtain ⟨I,⟨n0,A0,hg0,h0⟩,hround⟩:=h
  let J:Act→World→Nat→Prop:=fun a w n=>∃A,I n A∧J9 C A a w
  classical
  let μ:Act→World→Nat:=fun a w=>if h:∃n,J a w n then Classical.choose (least h) else 0
  have hμ:∀ {a:Act} {w:World} {n:Nat},J a w n→μ a w≤n:=fun {a w n} hJ=>by
   have hex:∃n,J a w n:=⟨n,hJ⟩
   have:μ a w=Classical.choose (least hex):=by simp only [μ];rw [dif_pos hex]
   rw [this]
   exact (Classical.choose_spec (least hex)).2 n hJ
  refine wpIn_loop (fun a w=>∃n,J a w n) μ ⟨n0,A0,h0,hg0 P C a w hR⟩ fun a w hex=>?_
  have heq:μ a w=Classical.choose (least hex):=by simp only [μ];rw [dif_pos hex]
  have hmin:=Classical.choose_spec (least hex)
  rw [←heq] at hmin
  obtain ⟨A1,hI,hR1⟩:=hmin.1
  refine JA2 hm x p hd C _ A1 a w hp (hround _ A1 hI) hR1 _ fun e A2 a2 w2 h1 h2=>?_
  cases e with
  |normal=>
   obtain ⟨m,A3,hlt,hg,hI3⟩:=h1
   have hJ:J a2 w2 m:=⟨A3,hI3,hg P C a2 w2 h2⟩
   exact ⟨⟨m,hJ⟩,Nat.lt_of_le_of_lt (hμ hJ) hlt⟩
  |_=>exact hQ _ _ _ _ h1 h2
 |.exit id,_,_,C,Φ,A,a,w,_,h,hR,Q,hQ=>wpIn_exit (hQ _ _ _ _ h hR)
 |.ret,_,_,C,Φ,A,a,w,_,h,hR,Q,hQ=>wpIn_ret (hQ _ _ _ _ h hR)
 |.rangeFunc g ps assign body,p,hd,C,Φ,A,a,w,hp,h,hR,Q,hQ=>by
  obtain ⟨gf,ds,args,T,b0,tm,ob,bh,X,hg,hcan,hwk,hcon,hgh,hX0,hld,hX,hret⟩:=h
  simp only [Y6,Bool.and_eq_true] at hd
  have hld':=hld
  simp only [JFi,Bool.and_eq_true] at hld'
  have hsa:=JA2 hm assign (fun d=>p d&&off (tm.map Prod.fst) d) (JBL hd.2.1 hld'.1.2)
  have hsb:=JA2 hm body (fun d=>p d&&off (tm.map Prod.fst) d) (JBL hd.2.2 hld'.2)
  obtain ⟨S,M,ι,hR⟩:=hgh P C a w hR
  have hgv:=QF hR g
  rw [hg] at hgv
  obtain ⟨us,hgv,hus⟩:∃us:List Value,a.eval g=.func (.func gf) #[] us.toArray∧JS (RepD S w) ds us:=by
   have hgv:=Jl hgv
   cases hge:a.eval g<;>rw [hge] at hgv<;>try (cases hgv;done)
   cases hgv with
   |fn _ _ us hl hr=>exact ⟨us,rfl,JS.ofGet hl.symm fun i x v h1 h2=>hr i x v h1 h2⟩
  refine wpIn_rangeFunc fun fn _=>?_
  obtain ⟨l,D,mk,w1,M1,hent,hR1,hl,hMl,hrd,hcell⟩:=JRX hR fn ps assign body
  let a1:Act:={ a with defers:=mk++a.defers }
  let E1:Env P:={
   l:=l
   J:=fun b S M w=>Jit C a1 l (Zy fn a1.tmps ps assign body D) (fun b=>⟨tm,ob b,bh b⟩) X Φ b S M w∧Zk P S w
   glob:=fun h=>h.2
   step:=fun h hf hM hN hS hT=>⟨Jit.step h.1 hf hM hN hS hT,h.2.step hS hf.cell⟩
   yld:=fun hJ hvs=>by
    obtain ⟨fn,tmps,assign,body,hy,hR⟩:=JSE (p:=p) hp hd.1 hld hsa hsb hX hJ.1 hvs
    exact ⟨fn,tmps,assign,body,hy,hR.mono fun e w' ⟨r,he,hk,hJ'⟩=>⟨r,he,hk,hJ',hJ.2.step (fun _ _ h=>h) hk.cell⟩⟩ }
  have hargs:JS (Jk S (fun _=>.func (.yield l) #[] #[]) (look [(T,.yl)]) w1) (.leaf (.obj T)::args) (.func (.yield l) #[] #[]::us):=by
   refine ⟨Qk ⟨rfl,rfl,.yl,by simp [look],rfl⟩,?_⟩
   have h1:JS (Jk S ι (JE.mk tm (ob b0) (bh b0)).obj w) (ds.map fun x=>.leaf (.d x)) us:=Ya (R:=RepD S w) (fun x=>AV.leaf (.d x)) (fun _ _ h=>Qk h) hus
   generalize (ds.map fun x=>AV.leaf (.d x))=l1 at hwk h1
   clear hcon hgv hus
   induction args generalizing l1 us with
   |nil=>cases l1 with
    |nil=>cases us with
     |nil=>trivial
     |cons _ _=>exact h1.elim
    |cons _ _=>exact hwk.elim
   |cons y ys ih=>cases l1 with
    |nil=>exact hwk.elim
    |cons x xs=>cases us with
     |nil=>exact h1.elim
     |cons v vs=>exact ⟨JNi (fun _ _ h=>h) hcell (hwk.1 S ι _ w v h1.1),ih vs xs hwk.2 h1.2⟩
  refine ⟨l,mk,w1,{ target:=.fn (.func gf) us.toArray,args:=#[.func (.yield l) #[] #[]] },w1,gf,#[.func (.yield l) #[] #[]]++us.toArray,w1,hent,?_,fun _ _=>JEM C _,?_,JDP C,JEF C ?_⟩
  ·simp only [resolve,hgv]
   simp [go_sem]
  ·simp [invoke,JCN hcan]
  ·have e1:#[.func (.yield l) #[] #[]]++us.toArray=((.func (.yield l) #[] #[]::us):List Value).toArray:=by apply Array.ext';simp
   rw [e1]
   have hT:∀o x,look [(T,AO.yl)] o=some x→o=T∧x=.yl:=fun o x h=>by
    by_cases e:o=T
    ·subst e;simp [look] at h;exact ⟨rfl,h.symm⟩
    ·simp [look,e] at h
   refine (hcon E1 S (fun _=>False) (fun _=>.func (.yield l) #[] #[]) w1 _ hR1.inn (fun _ h=>h.elim) (fun o x h=>?_) (fun o o' x x' b _ _ _ h=>?_) (fun o x b _ h=>?_) (fun o _=>rfl) hargs ?_).mono fun e w' he=>?_
   ·obtain ⟨_,rfl⟩:=hT o x h;exact ⟨l,rfl⟩
   ·simp [blk] at h
   ·simp [blk] at h
   ·exact ⟨⟨S,M1,M1,ι,_,.ready,none,{
     rel:=hR1,umt:=fun _ h=>h,apart:=fun _ _ h=>h,mmt:=fun _ h=>h.elim,uobj:=hR1.own
     umark:=fun r hr=>by obtain ⟨rs,h1,_,h3⟩:=hR1.marks;exact (h3 r (JJT h1 hr)).1
     urd:=fun l0 r0 h0=>⟨(hR1.rdok l0 r0 h0).1,hrd l0 r0 h0⟩
     ul:=hMl,hl:=hl,ssc:=fun _ _ h=>h,scs:=fun _ _ _ h=>h.elim,mode:=.inl ⟨rfl,rfl,hX0,rfl⟩ }⟩,C.E.glob hR1.env⟩
   ·obtain ⟨v,res,obs,S',M',ι',rfl,_,⟨⟨Sc,Mt,U,ι3,A3,st,pe,hj⟩,_⟩,_⟩:=he
    have hend:=JSD hj
    rcases hj.mode with ⟨rfl,rfl,hx,rfl⟩|⟨_,rfl,e,c,hc,rfl,hΦ⟩
    ·exact ⟨none,_,run_endLoop hj.hl (by simp [Zy]),hQ _ _ _ _ (hret res obs hx) (hend _)⟩
    ·refine ⟨some c,_,run_endLoop hj.hl (by simp [Zy]),?_⟩
     cases e with
     |ret=>cases hc;exact wpIn_ret (hQ _ _ _ _ hΦ (hend _))
     |exit i=>cases hc;exact wpIn_exit (hQ _ _ _ _ hΦ (hend _))
     |_=>cases hc
 |.label l,_,_,C,Φ,A,a,w,_,h,hR,Q,hQ=>wpIn_label (hQ _ _ _ _ h hR)
 |.scope x,p,hd,C,Φ,A,a,w,hp,h,hR,Q,hQ=>by
  refine JVo (JA2 hm x p hd C _ A a w hp h hR _ fun e A' a' w' h1 h2=>?_)
  cases e with
  |goto l=>exact h1.elim
  |_=>exact hQ _ _ _ _ h1 h2
 |.goto _,_,_,_,_,_,_,_,_,h,_,_,_=>h.elim
 |.refuse _,_,_,_,_,_,_,_,_,h,_,_,_=>h.elim
end Go.Mw

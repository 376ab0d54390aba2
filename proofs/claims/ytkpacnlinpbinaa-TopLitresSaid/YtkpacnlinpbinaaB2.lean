/- append, len, min and max, and so every operation, do in the model what they do to an abstract state: lemmas; no condition but those in each. -/
import Derived.Test.YtkpacnlinpbinaaD1
import Derived.Test.YtkpacnlinpbinaaB1
import Derived.Maps.RangeRun
set_option linter.unusedSimpArgs false
set_option linter.unusedVariables false
set_option linter.unusedSectionVars false
set_option linter.deprecated false
namespace Go.Mw
open Go.RowKit
section ops
variable {P:Program} {C:Ctx P} {S:Settled} {M:Blocks} {ι:Nat→Value} {A:ASt} {a:Act} {w w':World} {o:Oper} {d:Nat}
theorem run_app_zero {t ty e:TypeId}{k B n:Nat}{v:Value}{xs:List Value}(ht:P.underlying t=some (.slice e))(hk:tySize P e=some k)(hown:w.ownsRow B e k v n xs)(p:Option Addr)(c:Nat) :
  (Builtin.append_ #[t,t] ty #[v,.slice p 0 c]).run P w=.ok v w:=by
 have hfc:(Builtin.firstCells k 0 (.slice p 0 c)).run P w=.ok #[] w:=by cases p<;>simp [Builtin.firstCells,loadCells,loadCellsFrom]
 rcases hown.2 with ⟨rfl,rfl⟩|⟨g,cap,cur,rfl,_,_,hnc,_⟩
 ·simp [Builtin.append_,run_underlying ht,run_size w hk,Builtin.lenOf,hfc]
 ·simp [Builtin.append_,run_underlying ht,run_size w hk,Builtin.lenOf,hfc,hnc,storeCells]
theorem run_app {t ty e:TypeId}{i:TypeInfo}{z:Value}{k bytes B n:Nat}{v:Value}{xs:List Value}(ht:P.underlying t=some (.slice e))(hi:P.info? e=some i)(hz:i.zero=some z)
  (hsize:i.size=k) (hby:i.bytes=bytes) (hzs:z.cells.size=k) (hsz:0<k) (hown:w.ownsRow B e k v n xs)
  {p:Option Addr} {m c:Nat} {news:List Value} (hl:news.length=m*k) (hp:0<m→∃ad,p=some ad∧∀j u,news[j]? = some u→w.cell? (ad.add j)=some u) (h1:∀u∈news,u.oneCell'=true)
  (hlen:n+m≤140737488355328) (hbytes:(n+m)*bytes≤140737488355328) (hB:B≤w.heap.size) :
  ∃v' w',(Builtin.append_ #[t,t] ty #[v,.slice p m c]).run P w=.ok v' w' ∧ w'.ownsRow B e k v' (n+m) (xs++news)∧w.grownBy w' (blk v) ∧
   (∀b,blk v'=some b→w.heap.size≤b∨blk v=some b)∧(m=0→v'=v):=by
 by_cases hm:m=0
 ·subst hm
  have hn:news=[]:=List.eq_nil_of_length_eq_zero V211
  subst hn
  refine ⟨v,w,run_app_zero ht (by simp [tySize,hi,hsize]) hown p c,by simpa using hown,⟨rfl,rfl,rfl,Nat.le_refl _,fun _ _ _=>rfl⟩,fun b hb=>.inr hb,fun _=>rfl⟩
 obtain ⟨ad,rfl,hnews⟩:=hp (by omega)
 have h63:n+m≤maxLen:=by simp only [maxLen];omega
 rcases hown.2 with ⟨rfl,rfl⟩|⟨g,cap,cur,rfl,hbg,hg,hnc,hcm,hcs,htake⟩
 ·have hx:xs=[]:=List.eq_nil_of_length_eq_zero (by simpa using hown.1)
  subst hx
  obtain ⟨v',w',hr,ho',hgr,_⟩:=run_append_own (P:=P) w w.heap.size t ty e i z k bytes ht hi hz hsize hby hzs hsz (.slice none 0 0) 0 [] (World.ownsRow_nil w _ e k) ad m c news hl hnews h1 h63 hbytes (Nat.le_refl _)
  have hlt:=ho'.lt
  refine ⟨v',w',hr,⟨ho'.1,?_⟩,hgr,fun b hb=>.inl ?_,fun h=>absurd h hm⟩
  ·rcases ho'.2 with h|⟨g,cap,cur,e1,e2,rest⟩
   ·exact .inl h
   ·exact .inr ⟨g,cap,cur,e1,Nat.le_trans hB e2,rest⟩
  ·rcases ho'.2 with ⟨h,_⟩|⟨g,cap,cur,e1,e2,rest⟩
   ·rw [h] at hb;simp [blk] at hb
   ·rw [e1] at hb;simp [blk] at hb;omega
 ·by_cases hroom:n+m≤cap
  ·obtain ⟨w',hr,ho',hgr⟩:=run_append_fits (P:=P) w B t ty e i k ht hi hsize g n cap xs hown ad m c news hl hnews h1 hroom
   exact ⟨_,w',hr,ho',hgr,fun b hb=>.inr hb,fun h=>absurd h hm⟩
  ·have holds:∀j u,xs[j]? = some u→w.cell? ((⟨g,0,none⟩:Addr).add j)=some u:=hown.cells (g:=g) rfl
   have hr:=run_append_grow (P:=P) w t ty e i z ht hi hz ⟨g,0,none⟩ n cap xs (by rw [hsize];exact hown.1) holds ad m c news (by rw [hsize];exact hl) hnews (by omega) (by omega) (growslice_fits (by omega) (by rw [hby];exact hbytes))
   have hge:=grownCap_ge w (n+m) cap e
   have hcm':grownCap w (n+m) cap e≤maxLen:=grownCap_le_maxLen w (n+m) cap e h63
   have hll:(xs++news).length=(n+m)*k:=by rw [List.length_append,hown.1,hl,Nat.add_mul]
   refine ⟨_,_,hr,⟨hll,.inr ⟨w.heap.size,_,_,rfl,hB,heap_alloc_new w.drew _,hge,hcm',?_,?_⟩⟩,⟨rfl,rfl,rfl,by simp,fun b hb _=>Below.heap_alloc w.drew _ b hb⟩,fun b hb=>.inl (by simp [blk] at hb;omega),fun h=>absurd h hm⟩
   ·simp only [Array.size_append,List.size_toArray,size_zeroCells,hzs,hown.1,hl,←Nat.add_mul]
    congr 1
    omega
   ·simp only [Array.toList_append,List.append_assoc]
    rw [←List.append_assoc,←hll]
    exact List.take_left
theorem see_rep (hR:RelC C S M ι A a w){k:Nat}{f:List (List D)→Ev}{av:AV}{xv:Value}(hx:RepV S ι A.obj w av xv){acc:List Loc}{r:List Loc × List Wr}(h:(seeSl k f av).run A acc=some r) :
  ∃es acc',(f es).run A acc'=some r∧((∀y∈es,y.length=k)→0<k→∃p c news,xv=.slice p es.length c∧news.length=es.length*k∧All2 (RepD S w) es.flatten news ∧
   (0<es.length→∃ad,p=some ad∧∀j u,news[j]? = some u→w.cell? (ad.add j)=some u)):=by
 unfold seeSl at h
 split at h
 ·rename_i k' es
  have hx:=rep_leaf hx
  split at h
  case isFalse=>simp [Ev.run] at h
  rename_i hk
  subst hk
  refine ⟨es,_,h,fun hlen hk0=>?_⟩
  cases hx with
  |nil=>exact ⟨_,_,[],rfl,by simp,by simp [All2],by simp⟩
  |sl _ _ b off _ vals hc hkl hS hw hr=>
   refine ⟨_,_,(List.range (es.length*k')).map (fun q=>vals (q / k') (q%k')),rfl,by simp,All2.ofGet (by simp [flat_len hlen]) fun q x v hq hv=>?_,fun _=>⟨_,rfl,fun j u hu=>?_⟩⟩
   ·obtain ⟨i,j,e,rfl,he,hj⟩:=flat_split hk0 hlen hq
    have hjk:j<k':=by rw [←hlen e (List.mem_of_getElem? he)];exact (List.getElem?_eq_some_iff.1 hj).1
    have hlt:i*k'+j<es.length*k':=by
     have:=(List.getElem?_eq_some_iff.1 hq).1
     rwa [flat_len hlen] at this
    simp only [List.getElem?_map,List.getElem?_range hlt,Option.map_some,Option.some.injEq] at hv
    subst hv
    have e1:(i*k'+j) / k'=i:=by rw [Nat.mul_comm,Nat.mul_add_div hk0,Nat.div_eq_of_lt hjk,Nat.add_zero]
    have e2:(i*k'+j)%k'=j:=by rw [Nat.mul_comm,Nat.mul_add_mod,Nat.mod_eq_of_lt hjk]
    rw [e1,e2]
    exact hr i e j x he hj
   ·have hj:j<es.length*k':=by have:=(List.getElem?_eq_some_iff.1 hu).1;simpa using this
    simp only [List.getElem?_map,List.getElem?_range hj,Option.map_some,Option.some.injEq] at hu
    subst hu
    have hi:j / k'<es.length:=(Nat.div_lt_iff_lt_mul hk0).2 hj
    have hm:j%k'<k':=Nat.mod_lt _ hk0
    have he:es[j / k']? = some es[j / k']:=List.getElem?_eq_getElem hi
    have hel:=hlen _ (List.getElem_mem hi)
    have:=hw (j / k') es[j / k'] (j%k') es[j / k'][j%k'] he (List.getElem?_eq_getElem (by omega))
    rw [Addr.add_lit]
    rwa [Nat.add_assoc,Nat.mul_comm,Nat.div_add_mod] at this
 ·have hx:=raw_eq (rep_leaf hx)
  exact ⟨[],_,h,fun _ _=>⟨none,0,[],by simpa using hx,by simp,by simp [All2],by simp⟩⟩
 ·rename_i ob off len tot
  obtain ⟨h1,e',k',es,hob,htl,hval⟩:=rep_leaf hx
  simp only [Ev.run,hob] at h
  split at h
  case isFalse=>simp [Ev.run] at h
  rename_i hc
  obtain ⟨rfl,htot⟩:=hc
  obtain ⟨xs,hown,hall,hk,hk0,_⟩:=hR.objs ob _ hob
  obtain ⟨hol,hval⟩:=hval htot
  refine ⟨_,_,h,fun hlen _=>?_⟩
  have hel:((es.drop off).take len).length=len:=by simp;omega
  obtain ⟨_,p,c,hv,_,hp⟩:=hval
  have hfl:((es.drop off).take len).flatten=(es.flatten.drop (off*k')).take (len*k'):=by
   have:∀(n:Nat) (l:List (List D)),(∀x∈l,x.length=k')→(l.drop n).flatten=l.flatten.drop (n*k'):=by
    intro n
    induction n with
    |zero=>intro l _;simp
    |succ n ih=>
     intro l hl
     cases l with
     |nil=>simp
     |cons x l=>
      have hx:x.length=k':=hl x (by simp)
      rw [List.drop_succ_cons,ih l (fun y hy=>hl y V216),List.flatten_cons,Nat.add_mul,Nat.one_mul,Nat.add_comm,←hx,List.drop_length_add_append]
   have ht:∀(n:Nat) (l:List (List D)),(∀x∈l,x.length=k')→(l.take n).flatten=l.flatten.take (n*k'):=by
    intro n
    induction n with
    |zero=>intro l _;simp
    |succ n ih=>
     intro l hl
     cases l with
     |nil=>simp
     |cons x l=>
      have hx:x.length=k':=hl x (by simp)
      rw [List.take_succ_cons,List.flatten_cons,ih l (fun y hy=>hl y V216),List.flatten_cons,Nat.add_mul,Nat.one_mul,Nat.add_comm,←hx,List.take_length_add_append]
   rw [ht len _ (fun x hx=>hk x (List.mem_of_mem_drop hx)),this off es hk]
  refine ⟨p,c,(xs.drop (off*k')).take (len*k'),by rw [hel];exact hv,?_,by rw [hfl];exact (hall.drop _).take _,fun h0=>?_⟩
  ·rw [hel,List.length_take,List.length_drop,hown.1,htot,←Nat.sub_mul]
   exact Nat.min_eq_left (Nat.mul_le_mul_right _ (by omega))
  ·rw [hel] at h0
   obtain ⟨b,c0,hτ,rfl,_⟩:=hp (by omega)
   refine ⟨_,rfl,fun j u hu=>?_⟩
   rw [List.getElem?_take] at hu
   split at hu
   ·rename_i hj
    rw [List.getElem?_drop] at hu
    rw [Addr.add_lit]
    have hown':=hown
    rw [hτ,htot] at hown'
    rw [hown'.cellAt]
    ·exact hu
    ·calc off*k'+j<off*k'+len*k':=by omega
      _=(off+len)*k':=by rw [Nat.add_mul]
      _≤tot*k':=Nat.mul_le_mul_right _ hol
   ·cases hu
 ·simp [Ev.run] at h
theorem all2_oneD {ds:List D}{vs:List Value}(h:All2 (RepD S w) ds vs):∀v∈vs,v.oneCell'=true:=by
 intro v hv
 obtain ⟨i,hi⟩:=List.getElem?_of_mem hv
 obtain ⟨l,_,hr⟩:=h.get2 hi
 exact hr.one
theorem flat_take {α:Type}{k:Nat}:∀(n:Nat) {l:List (List α)},(∀x∈l,x.length=k)→(l.take n).flatten=l.flatten.take (n*k)
 |0,l,_=>by simp
 |n+1,[],_=>by simp
 |n+1,x::l,h=>by
  have hx:x.length=k:=h x (by simp)
  rw [List.take_succ_cons,List.flatten_cons,flat_take n (fun y hy=>h y V216),List.flatten_cons,Nat.add_mul,Nat.one_mul,Nat.add_comm,←hx,List.take_length_add_append]
theorem flat_drop {α:Type}{k:Nat}:∀(n:Nat) {l:List (List α)},(∀x∈l,x.length=k)→(l.drop n).flatten=l.flatten.drop (n*k)
 |0,l,_=>by simp
 |n+1,[],_=>by simp
 |n+1,x::l,h=>by
  have hx:x.length=k:=h x (by simp)
  rw [List.drop_succ_cons,flat_drop n (fun y hy=>h y V216),List.flatten_cons,Nat.add_mul,Nat.one_mul,Nat.add_comm,←hx,List.drop_length_add_append]
theorem flat_splice {α:Type}{k:Nat}{es ys:List (List α)}(n:Nat)(hk:∀x∈es,x.length=k)(hy:∀x∈ys,x.length=k):(splice es n ys).flatten=splice es.flatten (n*k) ys.flatten:=by
 unfold splice
 rw [List.flatten_append,List.flatten_append,flat_take n hk,flat_drop _ hk,flat_len hy,Nat.add_mul]
theorem splice_len {α:Type}{es ys:List α}{n:Nat}(h:n+ys.length≤es.length):(splice es n ys).length=es.length:=by unfold splice;simp;omega
theorem splice_mem {α:Type}{es ys:List α}{n:Nat}{p:α→Prop}(h:∀x∈es,p x)(h':∀x∈ys,p x):∀x∈splice es n ys,p x:=by
 intro x hx
 unfold splice at hx
 rcases List.mem_append.1 hx with hx|hx
 ·rcases List.mem_append.1 hx with hx|hx
  ·exact h x (List.mem_of_mem_take hx)
  ·exact h' x hx
 ·exact h x (List.mem_of_mem_drop hx)
theorem RelC.row (hR:RelC C S M ι A a w){ob:Nat}{el:TypeId}{k b c0 p:Nat}{es es':List (List D)}{ds:List D}{vs:List Value}(hob:A.obj ob=some (.arr el k es))(hι:ι ob=.slice (some ⟨b,0,none⟩) es.length c0)
  (hlen:es'.length=es.length) (hk':∀x∈es',x.length=k) (hfl:es'.flatten=splice es.flatten p ds) (hds:All2 (RepD S w) ds vs) (hfit:p+vs.length≤es.length*k) :
  ∃(cur:Array Value) (t:TypeId),w.heap[b]? = some (.cells cur t (0,0))∧es.length*k≤cur.size ∧
   RelC C S (grow M w (w.setRow b (splice cur.toList p vs).toArray)) (upd ι ob (ι ob)) (A.put [.obj ob (.arr el k es')]) a (w.setRow b (splice cur.toList p vs).toArray):=by
 obtain ⟨xs0,hown,hall,hk,hk0,hS⟩:=hR.objs ob _ hob
 rcases hown.2 with ⟨hτ,_⟩|⟨g,cap,cur,hτ,hB,hheap,hcap,hmax,hcur,htake⟩
 ·rw [hι] at hτ;simp at hτ
 rw [hι] at hτ;simp only [Value.slice.injEq,Option.some.injEq,Addr.mk.injEq,and_true] at hτ
 obtain ⟨rfl,_,rfl⟩:=hτ
 have hcm:es.length*k≤cur.size:=by rw [hcur];exact Nat.mul_le_mul_right _ hcap
 refine ⟨cur,el,hheap,hcm,?_⟩
 have hon:Only ι A ob w (w.setRow b (splice cur.toList p vs).toArray):=only_row hob (by rw [hι];rfl) _
 have ht:Turns ι A ob (.arr el k es') (ι ob):=by unfold Turns;rw [hob];exact ⟨_,rfl,by omega,fun _=>rfl⟩
 have hm:=hon.mv hR ht
 have hxs:xs0.length=es.length*k:=hown.1
 refine hR.chg hon ht ⟨splice xs0 p vs,?_,?_,hk',hk0,fun b1 hb1=>hS b1 (by rw [upd_same] at hb1;exact hb1)⟩ fun b1 hb1=>.inr ⟨_,hob,hb1⟩
 ·rw [upd_same,hι,hlen]
  refine ⟨by unfold splice;simp;omega,.inr ⟨b,c0,_,rfl,hB,setRow_heap w b _ _ el _ hheap,hcap,hmax,?_,?_⟩⟩
  ·rw [List.size_toArray,←hcur]
   unfold splice;simp;omega
  ·unfold splice
   rw [←htake]
   apply List.ext_getElem?
   intro q
   have e2:min p cur.toList.length=p:=by simp;omega
   have e3:min (es.length*k) cur.toList.length=es.length*k:=by simp;omega
   have e4:min p (es.length*k)=p:=by omega
   simp only [List.getElem?_append,List.getElem?_take,List.getElem?_drop,List.length_append,List.length_take,e2,e3,e4]
   by_cases q1:q<p
   ·simp [q1,show q<es.length*k by omega,show q<p+vs.length by omega]
   ·by_cases q2:q<p+vs.length
    ·simp [q1,q2,show q<es.length*k by omega]
    ·by_cases q3:q<es.length*k
     ·simp [q1,q2,q3,show p+vs.length+(q-(p+vs.length))=q by omega]
     ·simp [q1,q2,q3,show p+vs.length+(q-(p+vs.length))=q by omega]
 ·rw [hfl]
  exact (all2_splice hall _ hds).mono fun _ _=>hm.d _ _
theorem run_news {k m l c:Nat}{p:Option Addr}{news:List Value}(hl:news.length=m*k)(hp:0<m→∃ad,p=some ad∧∀j u,news[j]? = some u→w.cell? (ad.add j)=some u) :
  (Builtin.firstCells k m (.slice p l c)).run P w=.ok news.toArray w:=by
 by_cases hm:m=0
 ·subst hm
  have hn:news=[]:=List.eq_nil_of_length_eq_zero V211
  subst hn
  cases p<;>simp [Builtin.firstCells,loadCells,loadCellsFrom]
 ·obtain ⟨ad,rfl,h⟩:=hp (by omega)
  exact run_firstCells_some (P:=P) (w:=w) k m ad l c news hl h
theorem execOp_append {t t':TypeId}{s x:Operand}(hop:o.op=.call { callee:=.builtin .append,args:=#[s,x],argTypes:=#[t,t'] }){v:Value}
  (h:(Builtin.append_ #[t,t'] o.type #[a.eval s,a.eval x]).run P w=.ok v w'):(execOp a.eval o).run P w=.ok (.value v) w':=by
 simp [execOp,hop,resolve,invoke,Go.builtin,h]
theorem snd_inplace (hR:RelC C S M ι A a w)(ho:o.dst=some d)(hd:C.can d){t e:TypeId}{s x:Operand}(hop:o.op=.call { callee:=.builtin .append,args:=#[s,x],argTypes:=#[t,t] })
  (ht:tyEl P t=some e) {k:Nat} (hk:tySize P e=some k) (hk0:0<k) {ob off len:Nat} {es ys:List (List D)} (hob:A.obj ob=some (.arr e k es)) (hs:OwnVal (ι ob) k es.length off len (a.eval s))
  {p:Option Addr} {c:Nat} {news:List Value} (hxv:a.eval x=.slice p ys.length c) (hnl:news.length=ys.length*k) (hnr:All2 (RepD S w) ys.flatten news)
  (hp:0<ys.length→∃ad,p=some ad∧∀j u,news[j]? = some u→w.cell? (ad.add j)=some u) (hlt:off+len+ys.length<es.length) (hyl:∀y∈ys,y.length=k) :
  Snd P C A [.slot d (.leaf (.own ob off (len+ys.length) es.length)),.obj ob (.arr e k (splice es (off+len) ys))] a w o:=by
 obtain ⟨_,p1,c1,hv,hlc,hp1⟩:=hs
 obtain ⟨b,c0,hι,rfl,hc0,rfl⟩:=hp1 (by omega)
 have hkk:=(hR.objs ob _ hob).choose_spec.2.2.1
 have hfit:(off+len)*k+news.length≤es.length*k:=by rw [hnl,←Nat.add_mul];exact Nat.mul_le_mul_right _ (by omega)
 obtain ⟨cur,t0,hheap,hcm,hR'⟩:=hR.row (es':=splice es (off+len) ys) (p:=(off+len)*k) hob hι (splice_len (by omega)) (splice_mem hkk hyl) (flat_splice _ hkk hyl) hnr hfit
 have hst:=run_storeCells_at P b ((off+len)*k) t0 news 0 cur w hheap (by omega) (all2_oneD hnr)
 have hst':(storeCells ((⟨b,off*k,none⟩:Addr).add (len*k)) news).run P w=.ok () (w.setRow b (splice cur.toList ((off+len)*k) news).toArray):=by
  rw [Addr.add_lit,←Nat.add_mul]
  exact hst
 refine snd_new ho hd (execOp_append hop (v:=.slice (some ⟨b,off*k,none⟩) (len+ys.length) (c0-off)) ?_) hR' (leaf_rep ⟨rfl,e,k,_,obj_same _ _ _,by rw [splice_len (by omega)];exact Nat.le_refl _,fun _=>⟨by omega,fun e1 e2=>by omega,_,_,rfl,by omega,fun _=>⟨b,c0,by rw [upd_same];exact hι,rfl,hc0,rfl⟩⟩⟩)
 have hfc:=run_news (P:=P) (k:=k) (l:=ys.length) (c:=c) hnl hp
 have hle:len+ys.length≤c0-off:=by omega
 simp [Builtin.append_,run_underlying (und_el ht),run_size w hk,Builtin.lenOf,hfc,hv,hxv,hle,hst']
theorem snd_append (hR:RelC C S M ι A a w)(ho:o.dst=some d)(hd:C.can d){t t':TypeId}{s x:Operand}(hop:o.op=.call { callee:=.builtin .append,args:=#[s,x],argTypes:=#[t,t'] }){acc:List Loc}{rs:List Loc}{ws:List Wr}
  (h:(evAppend P t t' d (A.ev s) (A.ev x)).run A acc=some (rs,ws)):Snd P C A ws a w o:=by
 have hs:=rep_ev hR s
 have hx:=rep_ev hR x
 unfold evAppend at h
 cases ht:tyEl P t with
 |none=>simp [ht,Ev.run] at h
 |some e=>
 cases hk:tySize P e with
 |none=>simp [ht,hk,Ev.run] at h
 |some k=>
 cases hb:tyBytes P e with
 |none=>simp [ht,hk,hb,Ev.run] at h
 |some bytes=>
 cases hz:zeroLs P e with
 |none=>simp [ht,hk,hb,hz,Ev.run] at h
 |some q=>
 obtain ⟨ag,zs⟩:=q
 simp only [ht,hk,hb,hz] at h
 split at h
 case isFalse=>simp [Ev.run] at h
 rename_i hc
 obtain ⟨rfl,hk0,hzl⟩:=hc
 obtain ⟨i,z,hi,hzz,_,rfl,_⟩:=zeroLs_some hz
 obtain ⟨i',hi',hik⟩:=info_of hk
 rw [hi] at hi';simp only [Option.some.injEq] at hi';subst hi'
 have hib:i.bytes=bytes:=by simpa [tyBytes,hi] using hb
 have hzk:z.cells.size=k:=by simpa using hzl
 unfold appV at h
 split at h
 ·rename_i ob off len tot es';rw [es'] at hs
  obtain ⟨h1,e',k',es,hob,htl,hval⟩:=rep_leaf hs
  simp only [Ev.run,hob] at h
  split at h
  case isFalse=>
   split at h
   case isFalse=>simp [Ev.run] at h
   rename_i hc
   obtain ⟨rfl,rfl,rfl⟩:=hc
   obtain ⟨ys,acc',h,hsee⟩:=see_rep hR hx h
   split at h
   case isFalse=>simp [Ev.run] at h
   rename_i hc
   obtain ⟨hlt,hyl⟩:=hc
   simp only [Ev.run,Option.some.injEq,Prod.mk.injEq] at h
   obtain ⟨_,rfl⟩:=h
   obtain ⟨p,c,news,hxv,hnl,hnr,hp⟩:=hsee hyl hk0
   exact snd_inplace hR ho hd hop ht hk hk0 hob (hval rfl).2 hxv hnl hnr hp hlt hyl
  rename_i hc
  obtain ⟨rfl,rfl,rfl,rfl,htot⟩:=hc
  obtain ⟨ys,acc',h,hsee⟩:=see_rep hR hx h
  split at h
  case isFalse=>simp [Ev.run] at h
  rename_i hc
  obtain ⟨hbb,hll,hyl⟩:=hc
  simp only [Ev.run,Option.some.injEq,Prod.mk.injEq] at h
  obtain ⟨_,rfl⟩:=h
  obtain ⟨p,c,news,hxv,hnl,hnr,hp⟩:=hsee hyl hk0
  obtain ⟨xs,hown,hall,hkk,_,hS⟩:=hR.objs ob _ hob
  have hv:a.eval s=ι ob:=(hval htot).2.1 rfl rfl
  obtain ⟨v',w',hr,ho',hgr,hbk,hm0⟩:=run_app (P:=P) (ty:=o.type) (und_el ht) hi hzz hik hib hzk hk0 hown (p:=p) (m:=ys.length) (c:=c) hnl hp (all2_oneD hnr) hll hbb (Nat.zero_le _)
  have hon:Only ι A ob w w':=only_grown hgr fun g hg=>⟨_,hob,hg⟩
  have hu1:v'.oneCell'=true:=by
   rcases ho'.2 with ⟨rfl,_⟩|⟨_,_,_,rfl,_⟩<;>rfl
  have ht':Turns ι A ob (.arr e' k' (es++ys)) v':=by
   unfold Turns
   rw [hob]
   exact ⟨_,rfl,by simp,fun he=>hm0 (by simp at he;simp [he])⟩
  have hm:=hon.mv hR ht'
  refine snd_new ho hd (execOp_append hop (by rw [hv,hxv];exact hr)) (hR.chg hon ht' ⟨xs++news,by rw [upd_same,List.length_append];exact ho',?_,?_,hk0,?_⟩ ?_)
   (leaf_rep ⟨hu1,e',k',es++ys,obj_same _ _ _,Nat.le_refl _,fun _=>⟨by omega,by rw [upd_same,List.length_append];exact OwnVal.tip ho'⟩⟩)
  ·rw [List.flatten_append]
   exact (hall.append hnr).mono fun _ _=>hm.d _ _
  ·intro y hy
   rcases List.mem_append.1 hy with hy|hy
   ·exact hkk y hy
   ·exact hyl y hy
  ·intro b hb off hs'
   rw [upd_same] at hb
   rcases hbk b hb with h2|h2
   ·have:=hR.inn _ _ hs';omega
   ·exact hS b h2 off hs'
  ·intro b hb
   rcases hbk b hb with h2|h2
   ·exact .inl h2
   ·exact .inr ⟨_,hob,h2⟩
 ·rename_i es';rw [es'] at hs
  have hs:=raw_eq (rep_leaf hs)
  simp only [Ev.run] at h
  cases hn:A.obj d with
  |some y=>simp [hn,Ev.run] at h
  |none=>
  simp only [hn] at h
  obtain ⟨ys,acc',h,hsee⟩:=see_rep hR hx h
  split at h
  case isFalse=>simp [Ev.run] at h
  rename_i hc
  obtain ⟨hbb,hll,hyl⟩:=hc
  simp only [Ev.run,Option.some.injEq,Prod.mk.injEq] at h
  obtain ⟨_,rfl⟩:=h
  obtain ⟨p,c,news,hxv,hnl,hnr,hp⟩:=hsee hyl hk0
  obtain ⟨v',w',hr,ho',hgr,hbk,_⟩:=run_app (P:=P) (ty:=o.type) (und_el ht) hi hzz hik hib hzk hk0 (World.ownsRow_nil w 0 e k) (p:=p) (m:=ys.length) (c:=c) hnl hp (all2_oneD hnr) (by omega) (by simpa using hbb) (Nat.zero_le _)
  refine snd_arr hR ho hd hn (u:=v') (xs:=news) (execOp_append hop (by rw [hs,hxv];exact hr)) (only_grown hgr fun g hg=>by simp [blk] at hg) (by simpa using ho') (fun b hb=>?_) hnr hyl hk0
  rcases hbk b hb with h2|h2
  ·exact h2
  ·simp [blk] at h2
 ·simp [Ev.run] at h
end ops
end Go.Mw
namespace Go.Mw
open Go.RowKit
section ops
variable {P:Program} {C:Ctx P} {S:Settled} {M:Blocks} {ι:Nat→Value} {A:ASt} {a:Act} {w w':World} {o:Oper} {d:Nat}
theorem run_bounds3 {len cap:Nat}{lo hi:Option Value}{l h m:Int}{km:IntKind}(hlo:(lo=none∧l=0)∨∃k,lo=some (.int k l))(hhi:∃k,hi=some (.int k h))
  (h0:0≤l) (h1:l≤h) (h2:h≤m) (h3:m≤cap):(Instr.sliceBounds true len cap lo hi (some (.int km m))).run P w=.ok (l.toNat,h.toNat,m.toNat) w:=by
 obtain ⟨kh,rfl⟩:=hhi
 have e1:=run_sliceBound (P:=P) w km m cap .slice3Acap (by omega) h3
 have e2:=run_sliceBound (P:=P) w kh h m.toNat .slice3B (by omega) (by omega)
 rcases hlo with ⟨rfl,rfl⟩|⟨k,rfl⟩
 ·simp [Instr.sliceBounds,e1,e2]
 ·have e3:=run_sliceBound (P:=P) w k l h.toNat .slice3C h0 (by omega)
  simp [Instr.sliceBounds,e1,e2,e3]
theorem snd_slice3 (hR:RelC C S M ι A a w)(ho:o.dst=some d)(hd:C.can d){t:TypeId}{x m:Operand}{lo hi:Option Operand}(hop:o.op=.slice t x lo hi (some m)){acc:List Loc}{rs:List Loc}{ws:List Wr}
  (h:(opd x fun a=>opdO lo fun l=>opdO hi fun h=>opd m fun c=>evSlice3 P t d a l h c).run A acc=some (rs,ws)):Snd P C A ws a w o:=by
 obtain ⟨_,h⟩:=run_opd h
 obtain ⟨_,h⟩:=run_opdO h
 obtain ⟨_,h⟩:=run_opdO h
 obtain ⟨_,h⟩:=run_opd h
 have hx:=rep_ev hR x
 have hm:=rep_ev hR m
 unfold evSlice3 at h
 cases ht:tyEl P t with
 |none=>simp [ht,Ev.run] at h
 |some el=>
 cases hk:tySize P el with
 |none=>simp [ht,hk,Ev.run] at h
 |some kk=>
 simp only [ht,hk] at h
 unfold slice3V at h
 split at h
 ·rename_i ob off len tot e;rw [e] at hx
  obtain ⟨h1,e',k,es,hob,htl,hval⟩:=rep_leaf hx
  simp only [Ev.run,hob] at h
  cases hl:bnd (lo.map A.ev) 0 with
  |none=>simp [hl,Ev.run] at h
  |some l=>
  cases hh:hi.map A.ev with
  |none=>simp [hl,hh,Ev.run] at h
  |some hv=>
  cases hh2:asInt hv with
  |none=>simp [hl,hh,hh2,Ev.run] at h
  |some r=>
  cases hmx:asInt (A.ev m) with
  |none=>simp [hl,hh,hh2,hmx,Ev.run] at h
  |some q=>
  obtain ⟨kq,mv⟩:=q
  obtain ⟨kr,rv⟩:=r
  simp only [hl,hh,hh2,hmx] at h
  split at h
  case isFalse=>simp [Ev.run] at h
  rename_i hc
  obtain ⟨h0,h1,h2,h3,htot⟩:=hc
  simp only [Ev.run,Option.some.injEq,Prod.mk.injEq] at h
  obtain ⟨_,rfl⟩:=h
  obtain ⟨hol,_,p,c,hv',hcl,hp⟩:=hval htot
  have hmv:=asInt_rep hmx hm
  have hl':=bnd_rep hR hl
  have hh':∃k,hi.map a.eval=some (.int k rv):=by
   cases hi with
   |none=>cases hh
   |some y=>
    simp only [Option.map_some,Option.some.injEq] at hh
    subst hh
    exact ⟨kr,by rw [Option.map_some,asInt_rep hh2 (rep_ev hR y)]⟩
  have hb:=run_bounds3 (P:=P) (w:=w) (len:=len) (cap:=c) (km:=kq) hl' hh' h0 h1 h2 (by omega)
  refine snd_pure hR ho hd (v:=.slice (if mv.toNat=l.toNat then p else p.map (·.add (l.toNat*kk))) (rv.toNat-l.toNat) (mv.toNat-l.toNat)) ?_ trivial
  simp only [execOp,hop,Option.map_some,hmv,Instr.sliceAt,Sem.run_bind,run_underlying (und_el ht),Result.andThen_ok,Instr.slice,hv',hb,run_size w hk,Sem.run_pure]
 ·simp [Ev.run] at h
theorem tyFldA_some {t:TypeId}{f off n:Nat}{ag:Bool}(h:tyFldA P t f=some (off,n,ag)):∃fs fd,P.underlying t=some (.struct fs)∧fs[f]? = some fd∧tySize P fd.type=some n∧tyAg P fd.type=some ag∧fd.offset=off:=by
 unfold tyFldA at h
 cases hu:P.underlying t with
 |none=>simp [hu] at h
 |some ds=>
 cases ds<;>simp only [hu,reduceCtorEq] at h
 rename_i fs
 cases hf:fs[f]? with
 |none=>simp [hf] at h
 |some fd=>
 simp only [hf] at h
 cases h1:tySize P fd.type with
 |none=>simp [h1] at h
 |some n'=>
 cases h2:tyAg P fd.type with
 |none=>simp [h1,h2] at h
 |some ag'=>
 simp only [h1,h2,Option.some.injEq,Prod.mk.injEq] at h
 obtain ⟨rfl,rfl,rfl⟩:=h
 exact ⟨fs,fd,rfl,hf,h1,h2,rfl⟩
theorem snd_field (hR:RelC C S M ι A a w)(ho:o.dst=some d)(hd:C.can d){t:TypeId}{x:Operand}{f:Nat}(hop:o.op=.field t x f){acc:List Loc}{rs:List Loc}{ws:List Wr}
  (h:(opd x fun a=>evField P t f d a).run A acc=some (rs,ws)):Snd P C A ws a w o:=by
 obtain ⟨_,h⟩:=run_opd h
 have hx:=rep_ev hR x
 unfold evField at h
 cases ht:tyFldA P t f with
 |none=>simp [ht,Ev.run] at h
 |some q=>
 obtain ⟨off,n,ag⟩:=q
 simp only [ht] at h
 obtain ⟨fs,fd,hu,hf,hsz,hag,rfl⟩:=tyFldA_some ht
 unfold fieldOf at h
 split at h
 ·rename_i ls e;rw [e] at hx
  obtain ⟨vs,hv,hall⟩:=hx
  split at h
  case isFalse=>simp [Ev.run] at h
  rename_i hc
  obtain ⟨h1,hfit⟩:=hc
  simp only [Ev.run,Option.some.injEq,Prod.mk.injEq] at h
  obtain ⟨_,rfl⟩:=h
  have hlen:=hall.length
  cases ag with
  |true=>
   have e2:(execOp a.eval o).run P w=.ok (.value (.agg (vs.toArray.extract fd.offset (fd.offset+n)))) w:=by
    simp [execOp,hop,Instr.field,run_underlying hu,hf,hv,asAgg,part,run_ag w hag,run_size w hsz]
   refine snd_pure hR ho hd e2 ⟨(vs.drop fd.offset).take n,?_,(hall.drop _).take _⟩
   congr 1
   apply Array.ext'
   simp [List.extract_eq_take_drop]
  |false=>
   have hn:n=1:=by simpa using h1
   subst hn
   obtain ⟨v,hvi⟩:∃v,vs[fd.offset]? = some v:=⟨_,List.getElem?_eq_getElem (by omega)⟩
   obtain ⟨l,hli,hr⟩:=hall.get2 hvi
   have hd1:(ls.drop fd.offset).take 1=[l]:=by
    rw [List.take_one,List.head?_drop,hli];rfl
   rw [hd1]
   refine snd_pure hR ho hd (v:=v) ?_ ⟨l,rfl,hr⟩
   simp [execOp,hop,Instr.field,run_underlying hu,hf,hv,asAgg,part,run_ag w hag,hvi]
 ·simp [Ev.run] at h
theorem snd_index (hR:RelC C S M ι A a w)(ho:o.dst=some d)(hd:C.can d){t:TypeId}{x ix:Operand}(hop:o.op=.index t x ix){acc:List Loc}{rs:List Loc}{ws:List Wr}
  (h:(opd x fun v=>opd ix fun u=>evIdx P t d v u).run A acc=some (rs,ws)):Snd P C A ws a w o:=by
 obtain ⟨_,h⟩:=run_opd h
 obtain ⟨_,h⟩:=run_opd h
 have hx:=rep_ev hR x
 have hi:=rep_ev hR ix
 unfold evIdx at h
 cases hai:asInt (A.ev ix) with
 |none=>simp [hai,Ev.run] at h
 |some q=>
 obtain ⟨ki,i⟩:=q
 simp only [hai] at h
 have hiv:=asInt_rep hai hi
 unfold idxOf at h
 split at h
 ·rename_i ls e;rw [e] at hx
  obtain ⟨vs,hv,hall⟩:=hx
  cases hta:tyArrA P t with
  |none=>simp [hta,Ev.run] at h
  |some p=>
  obtain ⟨n,k,ag⟩:=p
  obtain ⟨el,hu,hsz,hag⟩:=arrA_some hta
  simp only [hta] at h
  split at h
  case isFalse=>simp [Ev.run] at h
  rename_i hc
  obtain ⟨⟨h0,hn⟩,h1,hfit⟩:=hc
  simp only [Ev.run,Option.some.injEq,Prod.mk.injEq] at h
  obtain ⟨_,rfl⟩:=h
  have hlen:=hall.length
  cases ag with
  |true=>
   have e2:(execOp a.eval o).run P w=.ok (.value (.agg (vs.toArray.extract (i.toNat*k) (i.toNat*k+k)))) w:=by
    simp [execOp,hop,Instr.index,hiv,asIntOf,run_underlying hu,hv,h0,hn,part,run_ag w hag,run_size w hsz]
   refine snd_pure hR ho hd e2 ⟨(vs.drop (i.toNat*k)).take k,?_,(hall.drop _).take _⟩
   congr 1
   apply Array.ext'
   simp [List.extract_eq_take_drop]
  |false=>
   have hk:k=1:=by simpa using h1
   subst hk
   obtain ⟨v,hvi⟩:∃v,vs[i.toNat*1]? = some v:=⟨_,List.getElem?_eq_getElem (by omega)⟩
   obtain ⟨l,hli,hr⟩:=hall.get2 hvi
   have hd1:(ls.drop (i.toNat*1)).take 1=[l]:=by
    rw [List.take_one,List.head?_drop,hli];rfl
   rw [hd1]
   refine snd_pure hR ho hd (v:=v) ?_ ⟨l,rfl,hr⟩
   rw [Nat.mul_one] at hvi
   simp [execOp,hop,Instr.index,hiv,asIntOf,run_underlying hu,hv,h0,hn,part,run_ag w hag,run_size w hsz,hvi]
 ·rename_i s e;rw [e] at hx
  have hx:=raw_eq (rep_leaf hx)
  cases hs:s[i.toNat]? with
  |none=>simp [hs,Ev.run] at h
  |some b=>
  simp only [hs] at h
  split at h
  case isFalse=>simp [Ev.run] at h
  rename_i hc
  simp only [Ev.run,Option.some.injEq,Prod.mk.injEq] at h
  obtain ⟨_,rfl⟩:=h
  have hu:P.underlying t=some .string:=by
   have:=hc.2
   unfold tyStr at this
   split at this
   ·assumption
   ·cases this
  refine snd_pure hR ho hd (v:=.int .u8 b.toNat) ?_ (rep_raw rfl)
  simp [execOp,hop,Instr.index,hiv,asIntOf,run_underlying hu,hx,hc.1,hs]
 ·simp [Ev.run] at h
theorem snd_makeMap (hR:RelC C S M ι A a w)(ho:o.dst=some d)(hd:C.can d){t:TypeId}(hop:o.op=.makeMap t none){acc:List Loc}{rs:List Loc}{ws:List Wr}
  (h:(evMakeMap d).run A acc=some (rs,ws)):Snd P C A ws a w o:=by
 unfold evMakeMap at h
 simp only [Ev.run] at h
 cases hn:A.obj d with
 |some y=>simp [hn,Ev.run] at h
 |none=>
 simp only [hn,Ev.run,Option.some.injEq,Prod.mk.injEq] at h
 obtain ⟨_,rfl⟩:=h
 have hon:Only ι A d w (w.alloc (.map #[] 0)):=only_alloc A _
 have ht:Turns ι A d (.map []) (.map (some w.heap.size)):=turns_new hn _ _
 have hm:=hon.mv hR ht
 refine snd_new ho hd (v:=.map (some w.heap.size)) ?_ (hR.chg hon ht ⟨w.heap.size,[],0,upd_same _ _ _,heap_alloc_new w _,trivial,⟨rfl,rfl⟩,fun off hs=>by have:=hR.inn _ _ hs;omega⟩ fun b hb=>?_) (leaf_rep ⟨rfl,(upd_same _ _ _).symm,_,obj_same _ _ _,rfl⟩)
 ·simp [execOp,hop,Instr.makeMap]
 ·simp [blk] at hb;exact .inl (by omega)
theorem tyMap_some {t k e:TypeId}(h:tyMap P t=some (k,e)):P.underlying t=some (.map k e):=by
 unfold tyMap at h
 cases hu:P.underlying t with
 |none=>simp [hu] at h
 |some ds=>cases ds<;>simp_all
def tagOk (tg:Nat):TypeDesc→Prop
 |.int _=>tg=0
 |.string=>tg=1
 |.bool=>tg=2
 |_=>False
theorem tyKey_some {k:TypeId}{tg:Nat}(h:tyKey P k=some tg):∃ds,P.underlying k=some ds∧tagOk tg ds:=by
 unfold tyKey at h
 cases hu:P.underlying k with
 |none=>simp [hu] at h
 |some ds=>exact ⟨ds,rfl,by cases ds<;>simp_all [tagOk]⟩
theorem beq_bytes {a b:ByteArray}(h:(a==b)=true):a=b:=by
 rw [beq_toListBytes,ByteArray.toList_eq,ByteArray.toList_eq] at h
 obtain ⟨⟨x⟩⟩:=a
 obtain ⟨⟨y⟩⟩:=b
 simpa using h
theorem keyEq_now {tg:Nat}{ds:TypeDesc}(ht:tagOk tg ds){x y:Value}{b:Bool}(h:keyEq tg x y=some b):Instr.sameNow ds x y=some b∧(b=true→Instr.sameBits 10000 y x=true)∧x.oneCell'=true∧y.oneCell'=true:=by
 cases ds<;>simp only [tagOk] at ht<;>subst ht<;>cases x<;>cases y<;>simp only [keyEq,reduceCtorEq] at h
 all_goals
  first|(split at h;rotate_left;cases h;rename_i hk;subst hk)|skip
  simp only [Option.some.injEq] at h
  subst h
  refine ⟨by simp [Instr.sameNow],fun hb=>?_,rfl,rfl⟩
  have hb0:=hb
  first
   |(have hb:=eq_of_beq hb;subst hb;simp [Instr.sameBits])
   |(have hb:=beq_bytes hb;subst hb;simpa [Instr.sameBits] using hb0)
theorem find_rep {tg:Nat}{ds:TypeDesc}(ht:tagOk tg ds){kv:Value}{H:Nat→Option AO}:∀ {es:List (Value × Bool × List AL)} {qs:List MapEntry} (i:Nat) {r:Option (Bool × List AL)},All2 (RepE S ι H w) es qs→mapGet tg kv es=some r →
  (r=none∧Instr.findNow ds kv qs i=some none)∨∃p j q,r=some p∧Instr.findNow ds kv qs i=some (some (i+j,q.val))∧qs[j]? = some q∧RepC S ι H w p.1 p.2 q.val
 |[],[],i,r,_,h=>by
  simp only [mapGet,Option.some.injEq] at h
  exact .inl ⟨h.symm,rfl⟩
 |p::es,q::qs,i,r,ha,h=>by
  unfold mapGet at h
  cases hk:keyEq tg kv p.1 with
  |none=>simp [hk] at h
  |some b=>
   have hq:=(keyEq_now ht hk).1
   rw [←ha.1.1] at hq
   cases b with
   |true=>
    simp only [hk,Option.some.injEq] at h
    exact .inr ⟨p.2,0,q,h.symm,by simp [Instr.findNow,hq],rfl,ha.1.2⟩
   |false=>
    simp only [hk] at h
    rcases find_rep ht (i+1) ha.2 h with ⟨h1,h2⟩|⟨p',j,q',h1,h2,h3,h4⟩
    ·exact .inl ⟨h1,by simp [Instr.findNow,hq,h2]⟩
    ·exact .inr ⟨p',j+1,q',h1,by simp [Instr.findNow,hq,h2];omega,by simpa using h3,h4⟩
 |[],_::_,_,_,ha,_=>ha.elim
 |_::_,[],_,_,ha,_=>ha.elim
theorem run_checkKey {k:TypeId}{tg:Nat}(h:tyKey P k=some tg)(e:Bool)(v:Value):(Instr.checkKey e 10000 k v).run P w=.ok () w:=by
 obtain ⟨ds,hu,ht⟩:=tyKey_some h
 rw [show (10000:Nat)=9999+1 from rfl]
 unfold Instr.checkKey
 simp only [Sem.run_bind,run_underlying hu,Result.andThen_ok]
 cases ds<;>first|exact ht.elim|rfl
structure KeyAt (P:Program) (k:TypeId) (tg:Nat) (kv:Value) (w:World):Prop where
 chk:∀e,(Instr.checkKey e 10000 k kv).run P w=.ok () w
 get:∀ {S:Settled} {ι:Nat→Value} {H:Nat→Option AO} {es:List (Value × Bool × List AL)} {qs:List MapEntry} {r:Option (Bool × List AL)},All2 (RepE S ι H w) es qs→mapGet tg kv es=some r →
  (r=none∧(Instr.findKey k kv qs).run P w=.ok none w)∨∃p j q,r=some p∧(Instr.findKey k kv qs).run P w=.ok (some (j,q.val)) w∧qs[j]? = some q∧RepC S ι H w p.1 p.2 q.val
 set:∀ {S:Settled} {ι:Nat→Value} {H:Nat→Option AO} {val:Value} {x:Bool × List AL} {es es':List (Value × Bool × List AL)} {qs:List MapEntry} (ck:Nat),RepC S ι H w x.1 x.2 val→All2 (RepE S ι H w) es qs→mapSet tg kv x es=some es' →
  ((Instr.findKey k kv qs).run P w=.ok none w∧All2 (RepE S ι H w) es' (qs++[{ key:=kv,val:=val,born:=ck }])) ∨
  ∃j q,(Instr.findKey k kv qs).run P w=.ok (some (j,q.val)) w∧qs[j]? = some q∧Instr.sameBits 10000 q.key kv=true∧All2 (RepE S ι H w) es' (qs.modify j fun e=>{ e with key:=kv,val:=val })
theorem set_rep {tg:Nat}{ds:TypeDesc}(ht:tagOk tg ds){kv val:Value}{x:Bool × List AL}{H:Nat→Option AO}(hx:RepC S ι H w x.1 x.2 val)(ck:Nat):∀ {es es':List (Value × Bool × List AL)} {qs:List MapEntry} (i:Nat),All2 (RepE S ι H w) es qs→mapSet tg kv x es=some es' →
  (Instr.findNow ds kv qs i=some none∧All2 (RepE S ι H w) es' (qs++[{ key:=kv,val:=val,born:=ck }])) ∨
  ∃j q,Instr.findNow ds kv qs i=some (some (i+j,q.val))∧qs[j]? = some q∧Instr.sameBits 10000 q.key kv=true∧All2 (RepE S ι H w) es' (qs.modify j fun e=>{ e with key:=kv,val:=val })
 |[],es',[],i,_,h=>by
  simp only [mapSet,Option.some.injEq] at h
  subst h
  exact .inl ⟨rfl,⟨rfl,hx⟩,trivial⟩
 |p::es,es',q::qs,i,ha,h=>by
  unfold mapSet at h
  cases hk:keyEq tg kv p.1 with
  |none=>simp [hk] at h
  |some b=>
   have hq:=keyEq_now ht hk
   rw [←ha.1.1] at hq
   cases b with
   |true=>
    simp only [hk,Option.some.injEq] at h
    subst h
    exact .inr ⟨0,q,by simp [Instr.findNow,hq.1],rfl,hq.2.1 rfl,⟨rfl,hx⟩,ha.2⟩
   |false=>
    simp only [hk] at h
    cases hr:mapSet tg kv x es with
    |none=>simp [hr] at h
    |some r'=>
     simp only [hr,Option.some.injEq] at h
     subst h
     rcases set_rep ht hx ck (i+1) ha.2 hr with ⟨h1,h2⟩|⟨j,q',h1,h2,h3,h4⟩
     ·exact .inl ⟨by simp [Instr.findNow,hq.1,h1],ha.1,h2⟩
     ·exact .inr ⟨j+1,q',by simp [Instr.findNow,hq.1,h1];omega,by simpa using h2,h3,ha.1,h4⟩
 |[],_,_::_,_,ha,_=>ha.elim
 |_::_,_,[],_,ha,_=>ha.elim
theorem keyAt_tag {k:TypeId}{tg:Nat}(hk:tyKey P k=some tg)(kv:Value):KeyAt P k tg kv w:=by
 obtain ⟨ds,hu,ht⟩:=tyKey_some hk
 refine ⟨fun e=>run_checkKey hk e kv,fun ha hg=>?_,fun ck hx ha hg=>?_⟩
 ·rcases find_rep ht 0 ha hg with ⟨rfl,hf⟩|⟨p,j,q,rfl,hf,hj,hp⟩
  ·exact .inl ⟨rfl,by simp [Instr.findKey,run_underlying hu,hf]⟩
  ·exact .inr ⟨p,j,q,rfl,by simp [Instr.findKey,run_underlying hu,hf],hj,hp⟩
 ·rcases set_rep ht hx ck 0 ha hg with ⟨hf,h⟩|⟨j,q,hf,hj,hb,h⟩
  ·exact .inl ⟨by simp [Instr.findKey,run_underlying hu,hf],h⟩
  ·exact .inr ⟨j,q,by simp [Instr.findKey,run_underlying hu,hf],hj,hb,h⟩
def IntRow (n:Nat)(v:Value):Prop:=∃vs:List Value,v=.agg vs.toArray∧vs.length=n∧∀u∈vs,∃k a,u=Value.int k a
theorem rawInts_rep {H:Nat→Option AO}:∀ {ls:List AL} {vs us:List Value},rawInts ls=some vs→All2 (RepL S ι H w) ls us→us=vs∧∀u∈vs,∃k a,u=Value.int k a
 |[],vs,us,h,ha=>by
  simp only [rawInts,Option.some.injEq] at h
  subst h
  cases us with
  |nil=>exact ⟨rfl,fun u hu=>(by cases hu)⟩
  |cons _ _=>exact ha.elim
 |l::ls,vs,[],h,ha=>ha.elim
 |l::ls,vs,u::us,h,ha=>by
  unfold rawInts at h
  split at h
  ·rename_i e;cases e
  ·rename_i k a r e
   obtain ⟨rfl,rfl⟩:=List.cons.inj e
   cases hr:rawInts ls with
   |none=>simp [hr] at h
   |some ws=>
    simp only [hr,Option.some.injEq] at h
    subst h
    obtain ⟨e1,e2⟩:=rawInts_rep hr ha.2
    have e3:=raw_eq ha.1
    subst e1 e3
    exact ⟨rfl,fun x hx=>by
     rcases List.mem_cons.1 hx with rfl|hx
     ·exact ⟨k,a,rfl⟩
     ·exact e2 x hx⟩
  ·cases h
theorem keyRow_rep {H:Nat→Option AO}{n:Nat}{x:AV}{kv v:Value}(h:keyRow n x=some kv)(hr:RepV S ι H w x v):v=kv∧IntRow n kv:=by
 unfold keyRow at h
 split at h
 ·split at h
  ·rename_i vs hv
   split at h
   ·rename_i hn
    cases h
    obtain ⟨us,rfl,ha⟩:=hr
    obtain ⟨rfl,hi⟩:=rawInts_rep hv ha
    exact ⟨rfl,_,rfl,hn,hi⟩
   ·cases h
  ·cases h
 ·cases h
theorem run_checkRow {k:TypeId}{n:Nat}(hk:tyInts P k=some n){kv:Value}(hr:IntRow n kv)(e:Bool):(Instr.checkKey e 10000 k kv).run P w=.ok () w:=by
 obtain ⟨vs,rfl,hn,_⟩:=hr
 obtain ⟨hu,_,_,hsz,hf⟩:=tyInts_some hk
 rw [show (10000:Nat)=9998+1+1 from rfl]
 unfold Instr.checkKey
 simp only [Sem.run_bind,run_underlying hu,Result.andThen_ok]
 rw [←Array.forIn_toList]
 have key:∀(fs:List Field) (i:Nat),(∀p∈fs.zipIdx i,p.1.name ≠ "_" ∧ p.1.offset=p.2∧∃k,P.underlying p.1.type=some (.int k))→i+fs.length≤vs.length →
   (forIn (m:=Sem) fs PUnit.unit fun f _=>do
    if f.name ≠ "_" then
     let __do_lift ←part f.type vs.toArray f.offset
     Instr.checkKey e 9999 f.type __do_lift
     pure (ForInStep.yield PUnit.unit)
    else pure (ForInStep.yield PUnit.unit)).run P w=.ok PUnit.unit w:=by
  intro fs
  induction fs with
  |nil=>intro i _ _;simp
  |cons f fs ih=>
   intro i hf hl
   obtain ⟨h1,h2,k0,h3⟩:=hf (f,i) (by simp [List.zipIdx_cons])
   have h1:f.name ≠ "_" :=h1
   have h2:f.offset=i:=h2
   have hag:tyAg P f.type=some false:=by simp [tyAg,h3]
   have hp:=run_part_leaf (P:=P) (w:=w) (off:=i) (cs:=vs.toArray) (v:=vs[i]'(by simp at hl;omega)) hag (by simp)
   have hc:∀v,(Instr.checkKey e 9999 f.type v).run P w=.ok () w:=fun v=>by
    rw [show (9999:Nat)=9998+1 from rfl]
    unfold Instr.checkKey
    simp only [Sem.run_bind,run_underlying h3,Result.andThen_ok]
    rfl
   simp only [List.forIn_cons,Sem.run_bind,h1,ne_eq,not_false_eq_true,if_true,h2,hp,hc,Result.andThen_ok,Sem.run_pure]
   exact ih (i+1) (fun p hp=>hf p (by simp [List.zipIdx_cons,hp])) (by simp at hl;omega)
 have h3:=key (P.fieldsOf k).toList 0 hf (by rw [hn,←hsz];simp)
 rw [h3];rfl
theorem raws_rep {H:Nat→Option AO}:∀(vs:List Value),(∀u∈vs,∃k a,u=Value.int k a)→All2 (RepL S ι H w) (vs.map fun v=>AL.d (.raw v)) vs
 |[],_=>trivial
 |v::vs,h=>by
  obtain ⟨k,a,rfl⟩:=h v List.mem_cons_self
  exact ⟨RepD.raw _ rfl,raws_rep vs fun u hu=>h u (List.mem_cons_of_mem _ hu)⟩
theorem eqInts_ints:∀ {l m:List Value} {b:Bool},eqInts (l.map fun v=>AL.d (.raw v)) (m.map fun v=>AL.d (.raw v))=some b→(∀u∈l,∃k a,u=Value.int k a)→(∀u∈m,∃k a,u=Value.int k a)∧(b=true→l=m)
 |[],[],b,_,_=>⟨fun u hu=>(by cases hu),fun _=>rfl⟩
 |[],_::_,b,h,_=>by simp [eqInts] at h
 |_::_,[],b,h,hl=>by
  obtain ⟨k,a,rfl⟩:=hl _ List.mem_cons_self
  simp [eqInts] at h
 |u::l,v::m,b,h,hl=>by
  obtain ⟨k,a,rfl⟩:=hl u List.mem_cons_self
  simp only [List.map_cons] at h
  unfold eqInts at h
  split at h
  ·rename_i e _;cases e
  ·rename_i k1 a1 r k2 b2 s e1 e2
   obtain ⟨ea,rfl⟩:=List.cons.inj e1
   obtain ⟨eb,rfl⟩:=List.cons.inj e2
   cases ea
   simp only [AL.d.injEq,D.raw.injEq] at eb
   subst eb
   split at h
   case isFalse=>cases h
   rename_i hk
   subst hk
   cases hr:eqInts (l.map fun v=>AL.d (.raw v)) (m.map fun v=>AL.d (.raw v)) with
   |none=>simp [hr] at h
   |some q=>
    simp only [hr,Option.some.injEq] at h
    obtain ⟨g1,g2⟩:=eqInts_ints hr fun u hu=>hl u (List.mem_cons_of_mem _ hu)
    refine ⟨fun x hx=>?_,fun hb=>?_⟩
    ·rcases List.mem_cons.1 hx with rfl|hx
     ·exact ⟨_,_,rfl⟩
     ·exact g1 x hx
    ·subst h
     simp only [Bool.and_eq_true,beq_iff_eq] at hb
     rw [hb.1,g2 hb.2]
  ·cases h
theorem sameBits_ints (n:Nat):∀vs:List Value,(∀u∈vs,∃k a,u=Value.int k a)→((vs.zip vs).all fun (x,y)=>Instr.sameBits n x y)=true
 |[],_=>rfl
 |v::vs,h=>by
  obtain ⟨k,a,rfl⟩:=h v List.mem_cons_self
  rw [List.zip_cons_cons,List.all_cons,sameBits_ints n vs fun u hu=>h u (List.mem_cons_of_mem _ hu),Bool.and_true]
  cases n<;>simp [Instr.sameBits]
theorem keyEq_row {k:TypeId}{n:Nat}(hk:tyInts P k=some n){kv y:Value}{b:Bool}(hr:IntRow n kv)(h:keyEq 3 kv y=some b):(Op.equal k kv y).run P w=.ok b w∧Instr.sameNow (.struct (P.fieldsOf k)) kv y=none∧(b=true→Instr.sameBits 10000 y kv=true):=by
 obtain ⟨vs,rfl,hn,hi⟩:=hr
 cases y<;>simp only [keyEq,reduceCtorEq] at h
 rename_i ys
 split at h
 case isFalse=>cases h
 rename_i hsz
 obtain ⟨g1,g2⟩:=eqInts_ints h hi
 obtain ⟨hu,hst,_,hfs,hf⟩:=tyInts_some hk
 have hflds:=run_eqFields (P:=P) (S:=fun _ _=>True) (ι:=fun _=>.nilFunc) (w:=w) (dp:=9998) (H:=fun _=>none) (xs:=vs) (ys:=ys.toList) (P.fieldsOf k).toList 0 _ _ b hf (by simpa using raws_rep vs hi) (by simpa using raws_rep ys.toList g1) h (by rw [List.length_map,hn,←hfs];simp)
 have heq:=(run_equalIn_agg (P:=P) w 9999 k vs.toArray ys.toList.toArray hu hst).trans hflds
 refine ⟨by simpa [Op.equal,Op.maxDepth] using heq,rfl,fun hb=>?_⟩
 have e:=g2 hb
 rw [show (10000:Nat)=9999+1 from rfl]
 have hy:ys=vs.toArray:=by rw [e]
 subst hy
 simp only [Instr.sameBits,beq_self_eq_true,Bool.true_and]
 exact sameBits_ints 9999 vs hi
theorem find_row {k:TypeId}{n:Nat}(hk:tyInts P k=some n){kv:Value}(hr:IntRow n kv){H:Nat→Option AO}:∀ {es:List (Value × Bool × List AL)} {qs:List MapEntry} (i:Nat) {r:Option (Bool × List AL)},All2 (RepE S ι H w) es qs→mapGet 3 kv es=some r →
  (r=none∧(Instr.findAsking k kv qs i).run P w=.ok none w)∨∃p j q,r=some p∧(Instr.findAsking k kv qs i).run P w=.ok (some (i+j,q.val)) w∧qs[j]? = some q∧RepC S ι H w p.1 p.2 q.val
 |[],[],i,r,_,h=>by
  simp only [mapGet,Option.some.injEq] at h
  exact .inl ⟨h.symm,by simp [Instr.findAsking]⟩
 |p::es,q::qs,i,r,ha,h=>by
  unfold mapGet at h
  cases hq:keyEq 3 kv p.1 with
  |none=>simp [hq] at h
  |some b=>
   have he:=(keyEq_row (w:=w) hk hr hq).1
   rw [←ha.1.1] at he
   cases b with
   |true=>
    simp only [hq,Option.some.injEq] at h
    exact .inr ⟨p.2,0,q,h.symm,by simp [Instr.findAsking,he],rfl,ha.1.2⟩
   |false=>
    simp only [hq] at h
    rcases find_row hk hr (i+1) ha.2 h with ⟨h1,h2⟩|⟨p',j,q',h1,h2,h3,h4⟩
    ·exact .inl ⟨h1,by simp [Instr.findAsking,he,h2]⟩
    ·exact .inr ⟨p',j+1,q',h1,by simp [Instr.findAsking,he,h2];omega,by simpa using h3,h4⟩
 |[],_::_,_,_,ha,_=>ha.elim
 |_::_,[],_,_,ha,_=>ha.elim
theorem set_row {k:TypeId}{n:Nat}(hk:tyInts P k=some n){kv val:Value}(hr:IntRow n kv){x:Bool × List AL}{H:Nat→Option AO}(hx:RepC S ι H w x.1 x.2 val)(ck:Nat):∀ {es es':List (Value × Bool × List AL)} {qs:List MapEntry} (i:Nat),All2 (RepE S ι H w) es qs→mapSet 3 kv x es=some es' →
  ((Instr.findAsking k kv qs i).run P w=.ok none w∧All2 (RepE S ι H w) es' (qs++[{ key:=kv,val:=val,born:=ck }])) ∨
  ∃j q,(Instr.findAsking k kv qs i).run P w=.ok (some (i+j,q.val)) w∧qs[j]? = some q∧Instr.sameBits 10000 q.key kv=true∧All2 (RepE S ι H w) es' (qs.modify j fun e=>{ e with key:=kv,val:=val })
 |[],es',[],i,_,h=>by
  simp only [mapSet,Option.some.injEq] at h
  subst h
  exact .inl ⟨by simp [Instr.findAsking],⟨rfl,hx⟩,trivial⟩
 |p::es,es',q::qs,i,ha,h=>by
  unfold mapSet at h
  cases hq:keyEq 3 kv p.1 with
  |none=>simp [hq] at h
  |some b=>
   obtain ⟨he,_,hb⟩:=keyEq_row (w:=w) hk hr hq
   rw [←ha.1.1] at he hb
   cases b with
   |true=>
    simp only [hq,Option.some.injEq] at h
    subst h
    exact .inr ⟨0,q,by simp [Instr.findAsking,he],rfl,hb rfl,⟨rfl,hx⟩,ha.2⟩
   |false=>
    simp only [hq] at h
    cases hs:mapSet 3 kv x es with
    |none=>simp [hs] at h
    |some r'=>
     simp only [hs,Option.some.injEq] at h
     subst h
     rcases set_row hk hr hx ck (i+1) ha.2 hs with ⟨h1,h2⟩|⟨j,q',h1,h2,h3,h4⟩
     ·exact .inl ⟨by simp [Instr.findAsking,he,h1],ha.1,h2⟩
     ·exact .inr ⟨j+1,q',by simp [Instr.findAsking,he,h1];omega,by simpa using h2,h3,ha.1,h4⟩
 |[],_,_::_,_,ha,_=>ha.elim
 |_::_,_,[],_,ha,_=>ha.elim
theorem findKey_row {k:TypeId}{n:Nat}(hk:tyInts P k=some n){kv:Value}(hr:IntRow n kv)(qs:List MapEntry):(Instr.findKey k kv qs).run P w=(Instr.findAsking k kv qs 0).run P w:=by
 obtain ⟨hu,_⟩:=tyInts_some hk
 cases qs with
 |nil=>simp [Instr.findKey,run_underlying hu,Instr.findNow,Instr.findAsking]
 |cons q qs=>
  have e:Instr.sameNow (.struct (P.fieldsOf k)) kv q.key=none:=by obtain ⟨vs,rfl,_⟩:=hr;rfl
  simp [Instr.findKey,run_underlying hu,Instr.findNow,e]
theorem keyAt_row {k:TypeId}{n:Nat}(hk:tyInts P k=some n){kv:Value}(hr:IntRow n kv):KeyAt P k 3 kv w:=by
 refine ⟨fun e=>run_checkRow hk hr e,fun ha hg=>?_,fun ck hx ha hg=>?_⟩
 ·rw [findKey_row hk hr]
  rcases find_row hk hr 0 ha hg with h|⟨p,j,q,h1,h2,h3⟩
  ·exact .inl h
  ·exact .inr ⟨p,j,q,h1,by rw [h2,Nat.zero_add],h3⟩
 ·rw [findKey_row hk hr]
  rcases set_row hk hr hx ck 0 ha hg with h|⟨j,q,h1,h2⟩
  ·exact .inl h
  ·exact .inr ⟨j,q,by rw [h1,Nat.zero_add],h2⟩
theorem keyOf_rep {H:Nat→Option AO}{x:AV}{kv v:Value}(h:keyOf x=some kv)(hr:RepV S ι H w x v):v=kv:=by
 unfold keyOf at h
 split at h
 ·simp only [Option.some.injEq] at h
  subst h
  exact raw_eq (rep_leaf hr)
 ·cases h
theorem rep_got {H:Nat→Option AO}(ok b ag:Bool){ls:List AL}{v:Value}(h:RepC S ι H w ag ls v):RepV S ι H w (gotOf ok b ag ls) (if ok then .tuple #[v,.bool b] else v):=by
 cases ok with
 |true=>exact ⟨[v,.bool b],rfl,h,⟨_,rfl,RepD.raw _ rfl⟩,trivial⟩
 |false=>exact h
theorem zeroLs_leaf {t:TypeId}{ds:List D}(h:zeroLs P t=some (false,ds)):∃i z,P.info? t=some i∧i.zero=some z∧z.oneCell'=true∧ds=[.raw z]:=by
 unfold zeroLs tyZero at h
 cases hi:P.info? t with
 |none=>simp [hi] at h
 |some i=>
 cases hz:i.zero with
 |none=>simp [hi,hz] at h
 |some z=>
 simp only [hi,hz,Option.bind_some] at h
 refine ⟨i,z,rfl,hz,?_⟩
 split at h
 ·split at h
  ·simp at h
  ·cases h
 ·rename_i v hna e
  simp only [Option.some.injEq] at e;subst e
  split at h
  case isFalse=>cases h
  rename_i hc
  simp only [Option.some.injEq,Prod.mk.injEq,true_and] at h
  exact ⟨hc,h.symm⟩
 ·cases h
theorem rep_zero {H:Nat→Option AO}{e:TypeId}{z:Bool × List D}(h:zeroLs P e=some z):∃v,(zeroValue e).run P w=.ok v w∧RepC S ι H w z.1 (z.2.map .d) v:=by
 obtain ⟨ag,ds⟩:=z
 cases ag with
 |true=>
  obtain ⟨i,v,hi,hz,hag,hds,hall⟩:=zeroLs_some h
  refine ⟨v,by simp [zeroValue,typeInfo,hi,hz],?_⟩
  have hl:=all2_rawD (S:=S) (ι:=ι) (w:=w) (H:=H) hall
  obtain ⟨cs,rfl⟩:=hag rfl
  subst hds
  exact ⟨cs.toList,by simp,by simpa [Value.cells] using hl⟩
 |false=>
  obtain ⟨i,v,hi,hz,h1,rfl⟩:=zeroLs_leaf h
  exact ⟨v,by simp [zeroValue,typeInfo,hi,hz],_,rfl,RepD.raw v h1⟩
theorem snd_lookup (hR:RelC C S M ι A a w)(ho:o.dst=some d)(hd:C.can d){t:TypeId}{x ix:Operand}{ok:Bool}(hop:o.op=.lookup t x ix ok){acc:List Loc}{rs:List Loc}{ws:List Wr}
  (h:(opd x fun a=>opd ix fun b=>evLookup P t ok d a b).run A acc=some (rs,ws)):Snd P C A ws a w o:=by
 obtain ⟨_,h⟩:=run_opd h
 obtain ⟨acc1,h⟩:=run_opd h
 have hx:=rep_ev hR x
 have hi:=rep_ev hR ix
 unfold evLookup at h
 cases ht:tyMap P t with
 |none=>simp [ht,Ev.run] at h
 |some q=>
 obtain ⟨k,e⟩:=q
 cases hz:zeroLs P e with
 |none=>simp [ht,hz,Ev.run] at h
 |some z=>
 obtain ⟨tg,key,h,hkey0⟩:∃tg key,(lookupV tg ok d z key (A.ev x)).run A acc1=some (rs,ws)∧∀kv,key=some kv→a.eval ix=kv∧KeyAt P k tg kv w:=by
  cases hk:tyKey P k with
  |some tg=>
   simp only [ht,hz,hk] at h
   exact ⟨tg,_,h,fun kv e=>⟨keyOf_rep e hi,keyAt_tag hk kv⟩⟩
  |none=>
   cases hn:tyInts P k with
   |none=>simp [ht,hz,hk,hn,Ev.run] at h
   |some n=>
    simp only [ht,hz,hk,hn] at h
    exact ⟨3,_,h,fun kv e=>by
     obtain ⟨h1,h2⟩:=keyRow_rep e hi
     exact ⟨h1,keyAt_row hn h2⟩⟩
 unfold lookupV at h
 split at h
 case h_2=>simp [Ev.run] at h
 rename_i ob ex;rw [ex] at hx
 obtain ⟨_,hv,y,hob,hw⟩:=rep_leaf hx
 simp only [Ev.run,hob] at h
 cases y<;>simp only [Ev.run,reduceCtorEq] at h
 rename_i es
 cases hkey:key with
 |none=>simp [hkey,Ev.run] at h
 |some kv=>
 cases hg:mapGet tg kv es with
 |none=>simp [hkey,hg,Ev.run] at h
 |some r=>
 simp only [hkey,hg] at h
 obtain ⟨b,qs,ck,hι,hheap,hall,_,_⟩:=hR.objs ob _ hob
 obtain ⟨hkv,hka⟩:=hkey0 kv hkey
 have hgo:(getObj b).run P w=.ok (.map qs.toArray ck) w:=by simp [getObj,Sem.run,hheap]
 have hck:=hka.chk
 rcases hka.get hall hg with ⟨rfl,hf⟩|⟨p,j,q,rfl,hf,_,hp⟩
 ·simp only [Ev.run,Option.some.injEq,Prod.mk.injEq] at h
  obtain ⟨_,rfl⟩:=h
  obtain ⟨v,hzv,hzr⟩:=rep_zero (S:=S) (ι:=ι) (w:=w) (H:=A.obj) hz
  refine snd_pure hR ho hd ?_ (rep_got ok false z.1 hzr)
  simp [execOp,hop,Instr.lookup,run_underlying (tyMap_some ht),hv,hι,hgo,hkv,hck,hf,hzv]
 ·simp only [Ev.run,Option.some.injEq,Prod.mk.injEq] at h
  obtain ⟨_,rfl⟩:=h
  refine snd_pure hR ho hd ?_ (rep_got ok true p.1 hp)
  simp [execOp,hop,Instr.lookup,run_underlying (tyMap_some ht),hv,hι,hgo,hkv,hck,hf]
theorem run_set {b ck:Nat}{qs:Array MapEntry}{z:Obj}(h:w.heap[b]? = some (.map qs ck)):(setObj b z).run P w=.ok () (w.putObj b z):=by simp [setObj,Sem.run,h,World.putObj]
theorem only_put {ob b:Nat}{y:AO}(ho:A.obj ob=some y)(hb:blk (ι ob)=some b)(z:Obj):Only ι A ob w (w.putObj b z):=
 ⟨rfl,rfl,rfl,by simp,fun k _ hk=>World.putObj_heap_other fun e=>hk y ho (e▸hb)⟩
theorem Born.push {qs:List MapEntry}{ck:Nat}{e:MapEntry}(h:Born qs ck)(he:e.born=ck):Born (qs++[e]) (ck+1):=by
 obtain ⟨h1,h2⟩:=h
 refine ⟨?_,by simp [h2]⟩
 rw [List.map_append,h1,List.length_append,List.length_singleton,List.range_succ,List.map_singleton,he,h2]
theorem Born.turn {qs:List MapEntry}{ck:Nat}{f:MapEntry→MapEntry}(h:Born qs ck)(hf:∀e,(f e).born=e.born)(j:Nat):Born (qs.modify j f) ck:=by
 obtain ⟨h1,h2⟩:=h
 refine ⟨?_,by rw [List.length_modify];exact h2⟩
 rw [List.length_modify,←h1]
 apply List.ext_getElem?
 intro i
 rw [List.getElem?_map,List.getElem?_map,List.getElem?_modify]
 cases qs[i]? with
 |none=>simp
 |some e=>by_cases hj:j=i<;>simp [hj,hf]
theorem snd_update (hR:RelC C S M ι A a w)(ho:o.dst=none){t:TypeId}{x ix y:Operand}(hop:o.op=.mapUpdate t x ix y∨o.op=.insert t x ix y){acc:List Loc}{rs:List Loc}{ws:List Wr}
  (h:(opd x fun mv=>opd ix fun kv=>opd y fun v=>evUpdate P t mv kv v).run A acc=some (rs,ws)):Snd P C A ws a w o:=by
 obtain ⟨_,h⟩:=run_opd h
 obtain ⟨_,h⟩:=run_opd h
 obtain ⟨acc1,h⟩:=run_opd h
 have hx:=rep_ev hR x
 have hi:=rep_ev hR ix
 have hy:=rep_ev hR y
 unfold evUpdate at h
 cases ht:tyMap P t with
 |none=>simp [ht,Ev.run] at h
 |some q=>
 obtain ⟨k,e⟩:=q
 obtain ⟨tg,key,h,hkey0⟩:∃tg key,(updateV tg key (A.ev x) (A.ev y)).run A acc1=some (rs,ws)∧∀kv,key=some kv→a.eval ix=kv∧KeyAt P k tg kv w:=by
  cases hk:tyKey P k with
  |some tg=>
   simp only [ht,hk] at h
   exact ⟨tg,_,h,fun kv e=>⟨keyOf_rep e hi,keyAt_tag hk kv⟩⟩
  |none=>
   cases hn:tyInts P k with
   |none=>simp [ht,hk,hn,Ev.run] at h
   |some n=>
    simp only [ht,hk,hn] at h
    exact ⟨3,_,h,fun kv e=>by
     obtain ⟨h1,h2⟩:=keyRow_rep e hi
     exact ⟨h1,keyAt_row hn h2⟩⟩
 unfold updateV at h
 split at h
 case h_2=>simp [Ev.run] at h
 rename_i ag ls ey;rw [ey] at hy
 split at h
 case h_2=>simp [Ev.run] at h
 rename_i ob ex;rw [ex] at hx
 obtain ⟨_,hv,z,hob,hw⟩:=rep_leaf hx
 simp only [Ev.run,hob] at h
 cases z<;>simp only [Ev.run,reduceCtorEq] at h
 rename_i es
 cases hkey:key with
 |none=>simp [hkey,Ev.run] at h
 |some kv=>
 cases hg:mapSet tg kv (ag,ls) es with
 |none=>simp [hkey,hg,Ev.run] at h
 |some es'=>
 simp only [hkey,hg,Ev.run,Option.some.injEq,Prod.mk.injEq] at h
 obtain ⟨_,rfl⟩:=h
 obtain ⟨b,qs,ck,hι,hheap,hall,hborn,hS⟩:=hR.objs ob _ hob
 obtain ⟨hkv,hka⟩:=hkey0 kv hkey
 have hgo:(getObj b).run P w=.ok (.map qs.toArray ck) w:=by simp [getObj,Sem.run,hheap]
 have hck:=hka.chk false
 have hb:blk (ι ob)=some b:=by rw [hι];rfl
 have ht':Turns ι A ob (.map es') (ι ob):=by unfold Turns;rw [hob];exact ⟨rfl,rfl⟩
 have hexec:∀w',(Instr.mapUpdate t (.map (some b)) kv (a.eval y)).run P w=.ok () w' → (execOp a.eval o).run P w=.ok .skip w':=fun w' hr=>by
  rcases hop with hop|hop<;>simp [execOp,hop,hv,hι,hkv,hr]
 have hlt:=(Array.getElem?_eq_some_iff.1 hheap).1
 rcases hka.set (x:=(ag,ls)) ck hy hall hg with ⟨hf,hall'⟩|⟨j,q,hf,hj,hbits,hall'⟩
 ·have hon:Only ι A ob w (w.putObj b (.map (qs++[({ key:=kv,val:=a.eval y,born:=ck }:MapEntry)]).toArray (ck+1))):=only_put hob hb _
  have hm:=hon.mv hR ht'
  refine snd_upd hR ho (hexec _ ?_) (hR.chg hon ht' ⟨b,_,_,by rw [upd_same];exact hι,World.putObj_heap_same hlt,hall'.mono fun _ _=>RepE.mv hm,hborn.push rfl,hS⟩ fun b1 hb1=>.inr ⟨_,hob,hb1⟩)
  have hse:=run_set (P:=P) (z:=.map (qs++[({ key:=kv,val:=a.eval y,born:=ck }:MapEntry)]).toArray (ck+1)) hheap
  simpa [Instr.mapUpdate,run_underlying (tyMap_some ht),hgo,hck,hf] using hse
 ·have hon:Only ι A ob w (w.putObj b (.map (qs.modify j fun e=>{ e with key:=kv,val:=a.eval y }).toArray ck)):=only_put hob hb _
  have hm:=hon.mv hR ht'
  refine snd_upd hR ho (hexec _ ?_) (hR.chg hon ht' ⟨b,_,_,by rw [upd_same];exact hι,World.putObj_heap_same hlt,hall'.mono fun _ _=>RepE.mv hm,hborn.turn (f:=fun e=>{ e with key:=kv,val:=a.eval y }) (fun _=>rfl) j,hS⟩ fun b1 hb1=>.inr ⟨_,hob,hb1⟩)
  have hse:=run_set (P:=P) (z:=.map (qs.modify j fun e=>{ e with key:=kv,val:=a.eval y }).toArray ck) hheap
  have hjk:(qs.toArray[j]?).map (·.key)=some q.key:=by simp [hj]
  have hst:(Instr.keyThatStays q.key kv).run P w=.ok kv w:=by simp [Instr.keyThatStays,hbits]
  simpa [Instr.mapUpdate,run_underlying (tyMap_some ht),hgo,hck,hf,hj,hst] using hse
theorem born_at {qs:List MapEntry}{ck:Nat}(h:Born qs ck){i:Nat}{q:MapEntry}(hq:qs[i]? = some q):q.born=i:=by
 have:=congrArg (·[i]?) h.1
 simp only [List.getElem?_map,hq,Option.map_some] at this
 have hi:=(List.getElem?_eq_some_iff.1 hq).1
 rw [List.getElem?_range hi] at this
 simpa using this
theorem born_nodup {qs:List MapEntry}{ck:Nat}(h:Born qs ck):(qs.map (·.born)).Nodup:=by rw [h.1];exact List.nodup_range
theorem snd_range (hR:RelC C S M ι A a w)(ho:o.dst=some d)(hd:C.can d){t:TypeId}{x:Operand}(hop:o.op=.range t x){acc:List Loc}{rs:List Loc}{ws:List Wr}
  (h:(opd x fun a=>evRange P t d a).run A acc=some (rs,ws)):Snd P C A ws a w o:=by
 obtain ⟨_,h⟩:=run_opd h
 have hx:=rep_ev hR x
 unfold evRange at h
 cases ht:tyMap P t with
 |none=>
  simp only [ht] at h
  cases hs:tyStr P t with
  |false=>simp [hs,Ev.run] at h
  |true=>
  simp only [hs,cond_true] at h
  unfold rangeS at h
  split at h
  case h_2=>simp [Ev.run] at h
  rename_i sv ex;rw [ex] at hx
  have hx:=raw_eq (rep_leaf hx)
  have hu:P.underlying t=some .string:=by
   unfold tyStr at hs
   cases hu:P.underlying t with
   |none=>simp [hu] at hs
   |some dsc=>cases dsc<;>simp_all
  simp only [Ev.run] at h
  cases hn:A.obj d with
  |some y=>simp [hn,Ev.run] at h
  |none=>
  simp only [hn,Ev.run,Option.some.injEq,Prod.mk.injEq] at h
  obtain ⟨_,rfl⟩:=h
  have hon:Only ι A d w (w.alloc (.stringIter sv 0)):=only_alloc A _
  have ht':Turns ι A d (.sit sv 0) (.pointer (some ⟨w.heap.size,0,none⟩)):=turns_new hn _ _
  refine snd_new ho hd (v:=.pointer (some ⟨w.heap.size,0,none⟩)) ?_ (hR.chg hon ht' ⟨w.heap.size,upd_same _ _ _,Go.heap_alloc_new w _,fun off hs=>by have:=hR.inn _ _ hs;omega⟩ fun b hb=>?_) (leaf_rep ⟨rfl,(upd_same _ _ _).symm,_,obj_same _ _ _,rfl⟩)
  ·simp [execOp,hop,hx,Instr.range,run_underlying hu]
  ·simp [blk] at hb;exact .inl (by omega)
 |some q=>
 obtain ⟨k,e⟩:=q
 simp only [ht] at h
 unfold rangeV at h
 split at h
 case h_2=>simp [Ev.run] at h
 rename_i ob ex;rw [ex] at hx
 obtain ⟨_,hv,z,hob,hw⟩:=rep_leaf hx
 simp only [Ev.run,hob] at h
 cases z<;>simp only [Ev.run,reduceCtorEq] at h
 rename_i es
 cases hn:A.obj d with
 |some y=>simp [hn,Ev.run] at h
 |none=>
 simp only [hn,Ev.run,Option.some.injEq,Prod.mk.injEq] at h
 obtain ⟨_,rfl⟩:=h
 obtain ⟨b,qs,ck,hι,hheap,hall,hborn,hS⟩:=hR.objs ob _ hob
 have hck:ck=es.length:=hborn.2.trans hall.length.symm
 subst hck
 have hne:ob≠d:=fun e=>by rw [e,hn] at hob;cases hob
 have hon:Only ι A d w (w.alloc (.mapIter (some b) es.length #[] es.length)):=only_alloc A _
 have ht':Turns ι A d (.iter [.obj ob] es.length [] es.length) (.pointer (some ⟨w.heap.size,0,none⟩)):=turns_new hn _ _
 have hrun:=run_range_map (P:=P) w t k e b qs.toArray es.length (tyMap_some ht) hheap
 refine snd_new ho hd (v:=.pointer (some ⟨w.heap.size,0,none⟩)) ?_ (hR.chg hon ht' ⟨w.heap.size,some b,upd_same _ _ _,Go.heap_alloc_new w _,⟨⟨rfl,?_,_,(obj_other _ _ hne).trans hob,rfl⟩,trivial⟩,fun off hs=>by have:=hR.inn _ _ hs;omega⟩ fun b hb=>?_) (leaf_rep ⟨rfl,(upd_same _ _ _).symm,_,obj_same _ _ _,rfl⟩)
 ·simp only [execOp,hop,hv,hι,Sem.run_bind,hrun,Result.andThen_ok,Sem.run_pure]
 ·rw [upd_other _ _ hne,hι]
 ·simp [blk] at hb;exact .inl (by omega)
theorem run_getObj_any {P:Program}{w:World}{r:Nat}{s:ByteArray}{p:Nat}(hb:w.heap[r]? = some (.stringIter s p)):(getObj r).run P w=.ok (.stringIter s p) w:=by simp [getObj,Sem.run,hb]
theorem run_setObj_any {P:Program}{w:World}{r:Nat}{s:ByteArray}{p:Nat}(o:Obj)(hb:w.heap[r]? = some (.stringIter s p)):(setObj r o).run P w=.ok () (ChangeMaps.setBlock w r o):=by simp [setObj,Sem.run,hb,ChangeMaps.setBlock]
theorem snd_nextS (hR:RelC C S M ι A a w)(ho:o.dst=some d)(hd:C.can d){x:Operand}(hop:o.op=.next x true){acc:List Loc}{rs:List Loc}{ws:List Wr}
  (h:(opd x fun a=>nextS d a).run A acc=some (rs,ws)):Snd P C A ws a w o:=by
 obtain ⟨_,h⟩:=run_opd h
 have hx:=rep_ev hR x
 unfold nextS at h
 split at h
 case h_2=>simp [Ev.run] at h
 rename_i q ex;rw [ex] at hx
 obtain ⟨_,hv,z,hob,hw⟩:=rep_leaf hx
 simp only [Ev.run,hob] at h
 unfold sitV at h
 split at h
 case h_2=>simp [Ev.run] at h
 rename_i sv p hz
 cases hz
 obtain ⟨b,hι,hheap,hS⟩:=hR.objs q _ hob
 have hlt:b<w.heap.size:=(Array.getElem?_eq_some_iff.1 hheap).1
 split at h
 ·rename_i hp
  simp only [Ev.run,Option.some.injEq,Prod.mk.injEq] at h
  obtain ⟨_,rfl⟩:=h
  let x':Obj:=.stringIter sv (p+(Utf8.decode sv p).2)
  have hset:(ChangeMaps.setBlock w b x').heap=w.heap.setIfInBounds b x':=rfl
  have hon:Only ι A q w (ChangeMaps.setBlock w b x'):=
   ⟨rfl,rfl,rfl,by rw [hset];simp,fun k hk hkb=>by
    rw [hset,Array.getElem?_setIfInBounds_ne]
    intro e1;subst e1
    exact hkb _ hob (by rw [hι];rfl)⟩
  have ht':Turns ι A q (.sit sv (p+(Utf8.decode sv p).2)) (ι q):=by unfold Turns;rw [hob];exact ⟨rfl,rfl⟩
  have hR':=hR.chg hon ht' ⟨b,by rw [upd_same];exact hι,by rw [hset];simp [hlt,x'],hS⟩ (fun b1 hb1=>.inr ⟨_,hob,hb1⟩) (by simp) (fun hnone=>by rw [hob] at hnone;cases hnone)
  have hrun:(Instr.next (a.eval x) true o.type).run P w=.ok (.tuple #[.bool true,.int .i64 p,.int .i32 (Utf8.decode sv p).1]) (ChangeMaps.setBlock w b x'):=by
   rw [hv,hι]
   simp [Instr.next,run_getObj_any hheap,hp,run_setObj_any x' hheap,x',goInt]
  refine .inl ⟨.tuple #[.bool true,.int .i64 p,.int .i32 (Utf8.decode sv p).1],ChangeMaps.setBlock w b x',by simp only [execOp,hop,Sem.run_bind,hrun,Result.andThen_ok,Sem.run_pure],?_⟩
  rw [ho]
  exact ⟨S,_,_,hR'.slot hd ⟨[.bool true,.int .i64 p,.int .i32 (Utf8.decode sv p).1],rfl,⟨_,rfl,RepD.raw _ rfl⟩,⟨_,rfl,RepD.raw _ rfl⟩,⟨_,rfl,RepD.raw _ rfl⟩,trivial⟩⟩
 ·rename_i hp
  simp only [Ev.run,Option.some.injEq,Prod.mk.injEq] at h
  obtain ⟨_,rfl⟩:=h
  refine snd_pure hR ho hd (v:=.tuple #[.bool false]) ?_ ⟨[.bool false],rfl,⟨_,rfl,RepD.raw _ rfl⟩,trivial⟩
  simp [execOp,hop,hv,hι,Instr.next,run_getObj_any hheap,hp]
theorem snd_entry (hR:RelC C S M ι A a w)(ho:o.dst=some d)(hd:C.can d){x:Operand}(hop:o.op=.entry x){acc:List Loc}{rs:List Loc}{ws:List Wr}
  (h:(opd x fun a=>evEntry d a).run A acc=some (rs,ws)):Snd P C A ws a w o:=by
 obtain ⟨_,h⟩:=run_opd h
 have hx:=rep_ev hR x
 unfold evEntry at h
 split at h
 case h_2=>simp [Ev.run] at h
 rename_i r ex;rw [ex] at hx
 obtain ⟨_,hv,z,hob,hw⟩:=rep_leaf hx
 simp only [Ev.run,hob] at h
 split at h
 case h_2=>simp [Ev.run] at h
 rename_i om n seen c hz
 cases hz
 simp only [Ev.run] at h
 obtain ⟨b0,m,hι0,hheap0,hm,_⟩:=hR.objs r _ hob
 obtain ⟨_,hm1,y,hom,_⟩:=hm.1
 unfold entryV at h
 split at h
 case h_2=>simp [Ev.run] at h
 rename_i es he
 cases hl:seen.getLast? with
 |none=>simp [hl,Ev.run] at h
 |some i=>
 cases hei:es[i]? with
 |none=>simp [hl,hei,Ev.run] at h
 |some p=>
 simp only [hl,hei] at h
 split at h
 case isFalse=>simp [Ev.run] at h
 rename_i hc
 simp only [Ev.run,Option.some.injEq,Prod.mk.injEq] at h
 obtain ⟨_,rfl⟩:=h
 obtain ⟨b,qs,ck,hι,hheap,hall,hborn,hS⟩:=hR.objs om _ he
 have hck:ck=es.length:=hborn.2.trans hall.length.symm
 rw [hι] at hm1
 cases hm1
 obtain ⟨q,hq,hrep⟩:=hall.get' hei
 have hbq:=born_at hborn hq
 have hseen:seen=seen.dropLast++[q.born]:=by
  rw [hbq]
  obtain ⟨ys,hys⟩:=List.getLast?_eq_some_iff.1 hl
  rw [hys];simp
 have hr:w.heap[b0]? = some (.mapIter (some b) n (seen.dropLast.toArray.push q.born) es.length):=by
  rw [hheap0,hseen,hc.1]
  simp
 have hrun:=run_entry_at (P:=P) w b0 b n seen.dropLast.toArray qs.toArray es.length q hr (by rw [hheap,hck]) (by simpa using List.mem_of_getElem? hq) (by simpa using born_nodup hborn)
 refine snd_pure hR ho hd (v:=.tuple #[q.key,q.val]) ?_ ⟨[q.key,q.val],rfl,⟨_,rfl,by rw [hrep.1];exact RepD.raw _ hc.2⟩,hrep.2,trivial⟩
 simp only [execOp,hop,hv,hι0,Sem.run_bind,hrun,Result.andThen_ok,Sem.run_pure]
theorem snd_assert (hR:RelC C S M ι A a w)(ho:o.dst=some d)(hd:C.can d){t' t:TypeId}{x:Operand}{ok:Bool}(hop:o.op=.typeAssert x t' t ok){acc:List Loc}{rs:List Loc}{ws:List Wr}
  (h:(opd x fun a=>evAssert P t ok d a).run A acc=some (rs,ws)):Snd P C A ws a w o:=by
 obtain ⟨_,h'⟩:=run_opd h
 clear h
 have h:=h'
 clear h'
 have hx:=rep_ev hR x
 have hnot:∀ {b:Bool},isIfc P t=b→b=false→∃ds,P.underlying t=some ds∧∀want,ds≠.interface want:=by
  intro b hb hb0
  subst hb0
  unfold isIfc at hb
  cases hu:P.underlying t with
  |none=>simp [hu] at hb
  |some ds=>exact ⟨ds,rfl,fun want e=>by subst e;simp [hu] at hb⟩
 unfold evAssert at h
 split at h
 ·rename_i u ag ds e;rw [e] at hx
  have hx:=rep_leaf hx
  by_cases hif:isIfc P t=true
  ·simp [hif,Ev.run] at h
  rw [if_neg hif] at h
  obtain ⟨td,hu,hni⟩:=hnot rfl (by simpa using hif)
  have hval:∃v,a.eval x=.iface u v∧RepC S ι A.obj w ag (ds.map .d) v:=by
   generalize a.eval x=y at hx
   cases hx with
   |ifc _ d' v hr=>exact ⟨v,rfl,_,rfl,hr⟩
   |ifa _ _ vals hl hr=>exact ⟨_,rfl,vals,rfl,all2_map (R:=RepD S w) (R':=RepL S ι A.obj w) (f:=AL.d) (fun _ _ h=>h) (All2.ofGet hl.symm fun i a b h1 h2=>hr i a b h1 h2)⟩
  obtain ⟨v,hv,hrv⟩:=hval
  by_cases e2:u=t
  ·rw [if_pos e2] at h
   subst e2
   simp only [Ev.run,Option.some.injEq,Prod.mk.injEq] at h
   obtain ⟨_,rfl⟩:=h
   refine snd_pure hR ho hd ?_ (rep_got ok true ag hrv)
   cases td<;>first
    |exact absurd rfl (hni _)
    |simp [execOp,hop,Instr.typeAssert,run_underlying hu,hv]
  ·rw [if_neg e2] at h
   by_cases hok:ok=true
   case neg=>simp [hok,Ev.run] at h
   rw [if_pos hok] at h
   cases hz:zeroLs P t with
   |none=>simp [hz,Ev.run] at h
   |some z=>
   simp only [hz,Ev.run,Option.some.injEq,Prod.mk.injEq] at h
   obtain ⟨_,rfl⟩:=h
   obtain ⟨zv,hzv,hzr⟩:=rep_zero (S:=S) (ι:=ι) (w:=w) (H:=A.obj) hz
   refine snd_pure hR ho hd ?_ (rep_got ok false z.1 hzr)
   cases td<;>first
    |exact absurd rfl (hni _)
    |simp [execOp,hop,Instr.typeAssert,run_underlying hu,hv,e2,hok,hzv]
 ·rename_i e;rw [e] at hx
  have hv:=raw_eq (rep_leaf hx)
  by_cases hif:isIfc P t=true
  ·simp [hif,Ev.run] at h
  rw [if_neg hif] at h
  obtain ⟨td,hu,hni⟩:=hnot rfl (by simpa using hif)
  by_cases hok:ok=true
  case neg=>simp [hok,Ev.run] at h
  rw [if_pos hok] at h
  cases hz:zeroLs P t with
  |none=>simp [hz,Ev.run] at h
  |some z=>
  simp only [hz,Ev.run,Option.some.injEq,Prod.mk.injEq] at h
  obtain ⟨_,rfl⟩:=h
  obtain ⟨zv,hzv,hzr⟩:=rep_zero (S:=S) (ι:=ι) (w:=w) (H:=A.obj) hz
  refine snd_pure hR ho hd ?_ (rep_got ok false z.1 hzr)
  cases td<;>first
   |exact absurd rfl (hni _)
   |simp [execOp,hop,Instr.typeAssert,run_underlying hu,hv,hok,hzv]
 ·simp [Ev.run] at h
def Core (P:Program)(C:Ctx P)(S:Settled)(M:Blocks)(ι:Nat→Value)(A:ASt)(a:Act)(w:World)(o:Oper)(d:Nat)(ws:List Wr):Prop:=
 ∃(q:Nat) (x:AO) (u v:Value) (w':World) (av:AV),ws=[.slot d av,.obj q x]∧(execOp a.eval o).run P w=.ok (.value v) w' ∧ RelC C S (grow M w w') (upd ι q u) (A.put [.obj q x]) a w' ∧ RepV S (upd ι q u) (A.put [.obj q x]).obj w' av v
theorem core_new {q:Nat}{x:AO}{u v:Value}{av:AV}(hr:(execOp a.eval o).run P w=.ok (.value v) w')(hR':RelC C S (grow M w w') (upd ι q u) (A.put [.obj q x]) a w')(hv:RepV S (upd ι q u) (A.put [.obj q x]).obj w' av v) :
  Core P C S M ι A a w o d [.slot d av,.obj q x]:=⟨q,x,u,v,w',av,rfl,hr,hR',hv⟩
theorem Core.snd {ws:List Wr}(h:Core P C S M ι A a w o d ws)(ho:o.dst=some d)(hd:C.can d):Snd P C A ws a w o:=by
 obtain ⟨q,x,u,v,w',av,rfl,hr,hR',hv⟩:=h
 exact snd_new ho hd hr hR' hv
theorem Core.sndN {ws:List Wr}(h:Core P C S M ι A a w o d ws)(ho:o.dst=none):Snd P C A ws.tail a w o:=by
 obtain ⟨q,x,u,v,w',av,rfl,hr,hR',hv⟩:=h
 exact .inl ⟨v,w',hr,by rw [ho];exact ⟨S,_,upd ι q u,hR'⟩⟩
theorem run_drop {A:ASt}{ws':List Wr}{rs:List Loc}:∀ {e:Ev} {acc:List Loc},e.drop.run A acc=some (rs,ws')→∃ws,e.run A acc=some (rs,ws)∧ws'=ws.tail
 |.done ws,acc,h=>by
  simp only [Ev.drop,Ev.run,Option.some.injEq,Prod.mk.injEq] at h
  exact ⟨ws,by simp [Ev.run,h.1],h.2.symm⟩
 |.fail,acc,h=>by simp [Ev.drop,Ev.run] at h
 |.slot s k,acc,h=>run_drop (e:=k (A.get s)) (by simpa [Ev.drop,Ev.run] using h)
 |.obj o k,acc,h=>run_drop (e:=k (A.obj o)) (by simpa [Ev.drop,Ev.run] using h)
theorem core_copy (hR:RelC C S M ι A a w){t t':TypeId}{x y:Operand}(hop:o.op=.call { callee:=.builtin .copy,args:=#[x,y],argTypes:=#[t,t'] }){acc:List Loc}{rs:List Loc}{ws:List Wr}
  (h:(evCopy P t d (A.ev x) (A.ev y)).run A acc=some (rs,ws)):Core P C S M ι A a w o d ws:=by
 have hx:=rep_ev hR x
 have hy:=rep_ev hR y
 unfold evCopy at h
 cases ht:tyEl P t with
 |none=>simp [ht,Ev.run] at h
 |some e=>
 cases hk:tySize P e with
 |none=>simp [ht,hk,Ev.run] at h
 |some k=>
 simp only [ht,hk] at h
 unfold copyV at h
 split at h
 case h_2=>simp [Ev.run] at h
 rename_i ob off len tot ex;rw [ex] at hx
 obtain ⟨h1,e',k',es,hob,htl,hval⟩:=rep_leaf hx
 simp only [Ev.run,hob] at h
 split at h
 case isFalse=>simp [Ev.run] at h
 rename_i hc
 obtain ⟨rfl,rfl⟩:=hc
 obtain ⟨ys,acc',h,hsee⟩:=see_rep hR hy h
 split at h
 case isFalse=>simp [Ev.run] at h
 rename_i hyl
 simp only [Ev.run,Option.some.injEq,Prod.mk.injEq] at h
 obtain ⟨_,rfl⟩:=h
 obtain ⟨xs0,hown,hall,hkk,hk0,hS⟩:=hR.objs ob _ hob
 obtain ⟨p,c,news,hyv,hnl,hnr,hp⟩:=hsee hyl hk0
 obtain ⟨hol,_,p1,c1,hv,hlc,hp1⟩:=hval rfl
 have hexec:∀ {w1:World},(Builtin.copy_ #[t,t'] o.type #[a.eval x,a.eval y]).run P w=.ok (.int .i64 (min ys.length len:Nat)) w1→(execOp a.eval o).run P w=.ok (.value (.int .i64 (min ys.length len:Nat))) w1:=fun hr=>by
  simp [execOp,hop,resolve,invoke,Go.builtin,hr]
 have hml:min ys.length len*k' ≤ news.length:=by rw [hnl];exact Nat.mul_le_mul_right _ (by omega)
 have hnews':(news.take (min ys.length len*k')).length=min ys.length len*k':=by rw [List.length_take];omega
 have hfc:(Builtin.firstCells k' (min ys.length len) (.slice p ys.length c)).run P w=.ok (news.take (min ys.length len*k')).toArray w:=by
  refine run_news hnews' ?_
  intro h0
  obtain ⟨ad,h1,h2⟩:=hp (by omega)
  refine ⟨ad,h1,fun j u hu=>h2 j u ?_⟩
  rw [List.getElem?_take] at hu
  split at hu
  ·exact hu
  ·cases hu
 have htk:(ys.take len).flatten=ys.flatten.take (min ys.length len*k'):=by
  rw [flat_take _ hyl]
  by_cases hle:len≤ys.length
  ·rw [Nat.min_eq_right hle]
  ·rw [Nat.min_eq_left (by omega),List.take_of_length_le (by rw [flat_len hyl];exact Nat.mul_le_mul_right _ (by omega)),List.take_of_length_le (by rw [flat_len hyl];exact Nat.le_refl _)]
 have hyl':∀y∈ys.take len,y.length=k':=fun y hy=>hyl y (List.mem_of_mem_take hy)
 have hlt:(ys.take len).length=min ys.length len:=by simp;omega
 by_cases hlt0:off<es.length
 ·obtain ⟨b,c0,hι,rfl,hc0,rfl⟩:=hp1 hlt0
  have hfit:off*k'+(news.take (min ys.length len*k')).length≤es.length*k':=by rw [hnews',←Nat.add_mul];exact Nat.mul_le_mul_right _ (by omega)
  obtain ⟨cur,t0,hheap,hcm,hR'⟩:=hR.row (es':=splice es off (ys.take len)) (p:=off*k') hob hι (splice_len (by omega)) (splice_mem hkk hyl') (flat_splice _ hkk hyl') (by rw [htk];exact hnr.take _) hfit
  have hst:=run_storeCells_at P b (off*k') t0 (news.take (min ys.length len*k')) 0 cur w hheap (by omega) (fun v hv=>all2_oneD hnr v (List.mem_of_mem_take hv))
  refine core_new (hexec ?_) hR' (rep_raw rfl)
  have hst':(storeCells (⟨b,off*k',none⟩:Addr) (news.take (min ys.length len*k'))).run P w=.ok () (w.setRow b (splice cur.toList (off*k') (news.take (min ys.length len*k'))).toArray):=hst
  simp [Builtin.copy_,run_underlying (und_el ht),run_size w hk,Builtin.lenOf,hv,hyv,hfc,hst',goInt] 
 ·have hm0:min ys.length len=0:=by omega
  have hso:splice es off (ys.take len)=es:=by
   have:ys.take len=[]:=List.eq_nil_of_length_eq_zero (by rw [hlt,hm0])
   unfold splice
   rw [this];simp
  rw [hso]
  have hsame:A.put [.slot d (.int (min ys.length len:Nat)),.obj ob (.arr e' k' es)]=A.put [.slot d (.int (min ys.length len:Nat)),.obj ob (.arr e' k' es)]:=rfl
  have hon:Only ι A ob w w:=only_refl A
  have ht':Turns ι A ob (.arr e' k' es) (ι ob):=by unfold Turns;rw [hob];exact ⟨_,rfl,Nat.le_refl _,fun _=>rfl⟩
  have hm:=hon.mv hR ht'
  refine core_new (u:=ι ob) (hexec ?_) (hR.chg hon ht' ⟨xs0,by rw [upd_same];exact hown,hall.mono fun _ _=>hm.d _ _,hkk,hk0,fun b hb=>hS b (by rw [upd_same] at hb;exact hb)⟩ fun b hb=>.inr ⟨_,hob,hb⟩) (rep_raw rfl)
  rw [hm0] at hfc
  simp only [Nat.zero_mul,List.take_zero] at hfc
  cases p1<;>simp [Builtin.copy_,run_underlying (und_el ht),run_size w hk,Builtin.lenOf,hv,hyv,hm0,hfc,storeCells,goInt]
theorem zeroCells_flat (z:Array Value)(n:Nat):(Builtin.zeroCells z n).toList=(List.replicate n z.toList).flatten:=by
 have:=made_flat z n
 rw [←this]
 rfl
theorem core_clear (hR:RelC C S M ι A a w){t:TypeId}{x:Operand}(hop:o.op=.call { callee:=.builtin .clear,args:=#[x],argTypes:=#[t] }){acc:List Loc}{rs:List Loc}{ws:List Wr}
  (h:(evClear P t d (A.ev x)).run A acc=some (rs,ws)):Core P C S M ι A a w o d ws:=by
 have hx:=rep_ev hR x
 unfold evClear at h
 cases ht:tyEl P t with
 |none=>simp [ht,Ev.run] at h
 |some e=>
 cases hk:tySize P e with
 |none=>simp [ht,hk,Ev.run] at h
 |some k=>
 cases hz:zeroLs P e with
 |none=>simp [ht,hk,hz,Ev.run] at h
 |some q=>
 obtain ⟨ag,zs⟩:=q
 simp only [ht,hk,hz] at h
 unfold clearV at h
 split at h
 case h_2=>simp [Ev.run] at h
 rename_i ob off len tot ex;rw [ex] at hx
 obtain ⟨h1,e',k',es,hob,htl,hval⟩:=rep_leaf hx
 simp only [Ev.run,hob] at h
 split at h
 case isFalse=>simp [Ev.run] at h
 rename_i hc
 obtain ⟨rfl,rfl,hzl⟩:=hc
 simp only [Ev.run,Option.some.injEq,Prod.mk.injEq] at h
 obtain ⟨_,rfl⟩:=h
 obtain ⟨i,z,hi,hzz,_,rfl,hall0⟩:=zeroLs_some hz
 obtain ⟨xs0,hown,hall,hkk,hk0,hS⟩:=hR.objs ob _ hob
 obtain ⟨hol,_,p1,c1,hv,hlc,hp1⟩:=hval rfl
 have hexec:∀ {w1:World},(Builtin.clear_ #[t] o.type #[a.eval x]).run P w=.ok (.tuple #[]) w1→(execOp a.eval o).run P w=.ok (.value (.tuple #[])) w1:=fun hr=>by
  simp [execOp,hop,resolve,invoke,Go.builtin,hr]
 have hzv:(zeroValue e).run P w=.ok z w:=by simp [zeroValue,typeInfo,hi,hzz]
 have hyl:∀y∈List.replicate len (z.cells.toList.map D.raw),y.length=k':=fun y hy=>by rw [(List.mem_replicate.1 hy).2];exact hzl
 have hds:All2 (RepD S w) (List.replicate len (z.cells.toList.map D.raw)).flatten (List.replicate len z.cells.toList).flatten:=all2_flat_rep (all2_rawD' hall0) len
 have hvl:(List.replicate len z.cells.toList).flatten.length=len*k':=by
  rw [flat_len (k:=k')]
  ·simp
  ·intro y hy;rw [(List.mem_replicate.1 hy).2];simpa using hzl
 by_cases hlen0:len=0
 ·subst hlen0
  have hso:splice es off (List.replicate 0 (z.cells.toList.map D.raw))=es:=by unfold splice;simp
  rw [hso]
  have hon:Only ι A ob w w:=only_refl A
  have ht':Turns ι A ob (.arr e' k' es) (ι ob):=by unfold Turns;rw [hob];exact ⟨_,rfl,Nat.le_refl _,fun _=>rfl⟩
  have hm:=hon.mv hR ht'
  refine core_new (u:=ι ob) (hexec ?_) (hR.chg hon ht' ⟨xs0,by rw [upd_same];exact hown,hall.mono fun _ _=>hm.d _ _,hkk,hk0,fun b hb=>hS b (by rw [upd_same] at hb;exact hb)⟩ fun b hb=>.inr ⟨_,hob,hb⟩) trivial
  cases p1<;>simp [Builtin.clear_,run_underlying (und_el ht),hv]
 ·obtain ⟨b,c0,hι,rfl,hc0,rfl⟩:=hp1 (by omega)
  have hfit:off*k'+(List.replicate len z.cells.toList).flatten.length≤es.length*k':=by rw [hvl,←Nat.add_mul];exact Nat.mul_le_mul_right _ (by omega)
  obtain ⟨cur,t0,hheap,hcm,hR'⟩:=hR.row (es':=splice es off (List.replicate len (z.cells.toList.map D.raw))) (p:=off*k') hob hι (splice_len V214) (splice_mem hkk hyl) (flat_splice _ hkk hyl) hds hfit
  have hst:=run_storeCells_at P b (off*k') t0 (List.replicate len z.cells.toList).flatten 0 cur w hheap (by omega) (all2_oneD hds)
  refine core_new (hexec ?_) hR' trivial
  have hst':(storeCells (⟨b,off*k',none⟩:Addr) (Builtin.zeroCells z.cells len).toList).run P w=.ok () (w.setRow b (splice cur.toList (off*k') (List.replicate len z.cells.toList).flatten).toArray):=by
   rw [zeroCells_flat];exact hst
  obtain ⟨m,rfl⟩:∃m,len=m+1:=⟨len-1,by omega⟩
  simp [Builtin.clear_,run_underlying (und_el ht),hv,hzv,hst']
end ops
end Go.Mw
namespace Go.Mw
open Go.RowKit
section ops
variable {P:Program} {C:Ctx P} {S:Settled} {M:Blocks} {ι:Nat→Value} {A:ASt} {a:Act} {w w':World} {o:Oper} {d:Nat}
theorem run_pick2 (lt:Bool)(k:IntKind)(n m:Int)(k':IntKind) :
  ((if lt then Builtin.min2 (.int k n) (.int k' m) else Builtin.max2 (.int k n) (.int k' m)):Sem Value).run P w=.ok (.int k (pick2 lt n m)) w:=by
 cases lt<;>simp [Builtin.min2,Builtin.max2,pick2]
theorem snd_minmax (hR:RelC C S M ι A a w)(ho:o.dst=some d)(hd:C.can d){lt:Bool}{c:Call}(hop:o.op=.call c)(hb:c.callee=.builtin (if lt then .min else .max)){acc:List Loc}{rs:List Loc}{ws:List Wr}
  (h:(min2 lt d (c.args.toList.map A.ev)).run A acc=some (rs,ws)):Snd P C A ws a w o:=by
 have hx:=rep_evs hR c.args.toList
 obtain ⟨callee,args,argTypes⟩:=c
 simp only at hb hx h
 subst hb
 have hexec:∀v,((if lt then Builtin.min_ argTypes o.type (args.map a.eval) else Builtin.max_ argTypes o.type (args.map a.eval)):Sem Value).run P w=.ok v w→(execOp a.eval o).run P w=.ok (.value v) w:=by
  intro v hv
  cases lt
  ·simp only [Bool.false_eq_true,if_false] at hv hop
   simp [execOp,hop,resolve,invoke,Go.builtin,hv]
  ·simp only [if_true] at hv hop
   simp [execOp,hop,resolve,invoke,Go.builtin,hv]
 unfold min2 at h
 split at h
 ·rename_i v u e
  match hargs:args.toList,e,hx with
  |[x,y],e,hx=>
   simp only [List.map_cons,List.map_nil,List.cons.injEq,and_true] at e
   obtain ⟨rfl,rfl⟩:=e
   cases h1:asInt (A.ev x) with
   |none=>simp [h1,Ev.run] at h
   |some p=>
   cases h2:asInt (A.ev y) with
   |none=>simp [h1,h2,Ev.run] at h
   |some q=>
   obtain ⟨j,n⟩:=p
   obtain ⟨j',m⟩:=q
   simp only [h1,h2,Ev.run,Option.some.injEq,Prod.mk.injEq] at h
   obtain ⟨_,rfl⟩:=h
   have hv1:=asInt_rep h1 (rep_ev hR x)
   have hv2:=asInt_rep h2 (rep_ev hR y)
   have harr:args=#[x,y]:=by apply Array.ext';simpa using hargs
   subst harr
   have hp:=run_pick2 (P:=P) (w:=w) lt j n m j'
   refine snd_pure hR ho hd (v:=.int j (pick2 lt n m)) (hexec _ ?_) (rep_raw rfl)
   cases lt
   ·simp only [Bool.false_eq_true,if_false] at hp ⊢
    simp [Builtin.max_,hv1,hv2,hp]
   ·simp only [if_true] at hp ⊢
    simp [Builtin.min_,hv1,hv2,hp]
 ·rename_i v u x0 e
  match hargs:args.toList,e,hx with
  |[x,y,z],e,hx=>
   simp only [List.map_cons,List.map_nil,List.cons.injEq,and_true] at e
   obtain ⟨rfl,rfl,rfl⟩:=e
   cases h1:asInt (A.ev x) with
   |none=>simp [h1,Ev.run] at h
   |some p=>
   cases h2:asInt (A.ev y) with
   |none=>simp [h1,h2,Ev.run] at h
   |some q=>
   cases h3:asInt (A.ev z) with
   |none=>simp [h1,h2,h3,Ev.run] at h
   |some s=>
   obtain ⟨j,n⟩:=p
   obtain ⟨j',m⟩:=q
   obtain ⟨j'',l⟩:=s
   simp only [h1,h2,h3,Ev.run,Option.some.injEq,Prod.mk.injEq] at h
   obtain ⟨_,rfl⟩:=h
   have hv1:=asInt_rep h1 (rep_ev hR x)
   have hv2:=asInt_rep h2 (rep_ev hR y)
   have hv3:=asInt_rep h3 (rep_ev hR z)
   have harr:args=#[x,y,z]:=by apply Array.ext';simpa using hargs
   subst harr
   have hp:=run_pick2 (P:=P) (w:=w) lt j n m j'
   have hq:=run_pick2 (P:=P) (w:=w) lt j (pick2 lt n m) l j''
   refine snd_pure hR ho hd (v:=.int j (pick2 lt (pick2 lt n m) l)) (hexec _ ?_) (rep_raw rfl)
   cases lt
   ·simp only [Bool.false_eq_true,if_false] at hp hq ⊢
    simp [Builtin.max_,hv1,hv2,hv3,hp,hq]
   ·simp only [if_true] at hp hq ⊢
    simp [Builtin.min_,hv1,hv2,hv3,hp,hq]
 ·simp [Ev.run] at h
theorem snd_builtin (hR:RelC C S M ι A a w)(ho:o.dst=some d)(hd:C.can d){c:Call}{b:Builtin}(hop:o.op=.call c)(hb:c.callee=.builtin b){acc:List Loc}{rs:List Loc}{ws:List Wr}
  (h:(opds c.args.toList fun vs=>evBuiltin P b c.argTypes.toList d vs).run A acc=some (rs,ws)):Snd P C A ws a w o:=by
 obtain ⟨callee,args,argTypes⟩:=c
 simp only at hb h
 subst hb
 obtain ⟨_,h'⟩:=run_opds h
 clear h
 have h:=h'
 clear h'
 unfold evBuiltin at h
 split at h
 ·split at h
  ·rename_i t x e1 e2
   match hargs:args.toList,e2 with
   |[y],e2=>
    simp only [List.map_cons,List.map_nil,List.cons.injEq,and_true] at e2
    subst e2
    have h1:args=#[y]:=by apply Array.ext';simpa using hargs
    have h2:argTypes=#[t]:=by apply Array.ext';simpa using e1
    subst h1 h2
    exact snd_len_val hR ho hd hop h
  ·simp [Ev.run] at h
 ·split at h
  ·rename_i t t' x x' e1 e2
   match hargs:args.toList,e2 with
   |[y,y'],e2=>
    simp only [List.map_cons,List.map_nil,List.cons.injEq,and_true] at e2
    obtain ⟨rfl,rfl⟩:=e2
    have h1:args=#[y,y']:=by apply Array.ext';simpa using hargs
    have h2:argTypes=#[t,t']:=by apply Array.ext';simpa using e1
    subst h1 h2
    exact snd_append hR ho hd hop h
  ·simp [Ev.run] at h
 ·split at h
  ·rename_i t t' x x' e1 e2
   match hargs:args.toList,e2 with
   |[y,y'],e2=>
    simp only [List.map_cons,List.map_nil,List.cons.injEq,and_true] at e2
    obtain ⟨rfl,rfl⟩:=e2
    have h1:args=#[y,y']:=by apply Array.ext';simpa using hargs
    have h2:argTypes=#[t,t']:=by apply Array.ext';simpa using e1
    subst h1 h2
    exact (core_copy hR hop h).snd ho hd
  ·simp [Ev.run] at h
 ·split at h
  ·rename_i t x e1 e2
   match hargs:args.toList,e2 with
   |[y],e2=>
    simp only [List.map_cons,List.map_nil,List.cons.injEq,and_true] at e2
    subst e2
    have h1:args=#[y]:=by apply Array.ext';simpa using hargs
    have h2:argTypes=#[t]:=by apply Array.ext';simpa using e1
    subst h1 h2
    exact (core_clear hR hop h).snd ho hd
  ·simp [Ev.run] at h
 ·exact snd_minmax (lt:=true) hR ho hd hop rfl h
 ·exact snd_minmax (lt:=false) hR ho hd hop rfl h
 ·simp [Ev.run] at h
theorem snd_builtinN (hR:RelC C S M ι A a w)(ho:o.dst=none){c:Call}{b:Builtin}(hq:quietB b=true)(hop:o.op=.call c)(hb:c.callee=.builtin b){acc:List Loc}{rs:List Loc}{ws:List Wr}
  (h:(opds c.args.toList fun vs=>evBuiltin P b c.argTypes.toList 0 vs).drop.run A acc=some (rs,ws)):Snd P C A ws a w o:=by
 obtain ⟨callee,args,argTypes⟩:=c
 simp only at hb h
 subst hb
 obtain ⟨ws0,h',rfl⟩:=run_drop h
 clear h
 obtain ⟨_,h⟩:=run_opds h'
 clear h'
 cases b<;>simp only [quietB,Bool.false_eq_true] at hq<;>unfold evBuiltin at h<;>simp only at h
 all_goals
  split at h
  case h_2=>simp [Ev.run] at h
 ·rename_i t x e1 e2
  match hargs:args.toList,e2 with
  |[y],e2=>
   simp only [List.map_cons,List.map_nil,List.cons.injEq,and_true] at e2
   subst e2
   have h1:args=#[y]:=by apply Array.ext';simpa using hargs
   have h2:argTypes=#[t]:=by apply Array.ext';simpa using e1
   subst h1 h2
   exact (core_clear hR hop h).sndN ho
 ·rename_i t t' x x' e1 e2
  match hargs:args.toList,e2 with
  |[y,y'],e2=>
   simp only [List.map_cons,List.map_nil,List.cons.injEq,and_true] at e2
   obtain ⟨rfl,rfl⟩:=e2
   have h1:args=#[y,y']:=by apply Array.ext';simpa using hargs
   have h2:argTypes=#[t,t']:=by apply Array.ext';simpa using e1
   subst h1 h2
   exact (core_copy hR hop h).sndN ho
theorem snd_eff (hR:RelC C S M ι A a w)(hd:∀d,o.dst=some d→C.can d){acc:List Loc}{rs:List Loc}{ws:List Wr}
  (h:(effOp P o.op o.dst).run A acc=some (rs,ws)):Snd P C A ws a w o:=by
 cases hdst:o.dst with
 |none=>
  rw [hdst] at h
  cases hop:o.op<;>rw [hop] at h<;>try (simp [effOp,Ev.run] at h;done)
  case store t x y=>exact snd_store hR hdst hop h
  case call c=>
   simp only [effOp] at h
   cases hb:c.callee with
   |builtin b=>
    simp only [hb] at h
    by_cases hq:quietB b=true
    ·rw [if_pos hq] at h;exact snd_builtinN hR hdst hq hop hb h
    ·rw [if_neg hq] at h;simp [Ev.run] at h
   |_=>simp [hb,Ev.run] at h
  case mapUpdate t m k x=>exact snd_update hR hdst (.inl hop) h
  case insert t m k x=>exact snd_update hR hdst (.inr hop) h
 |some d=>
  have hd:=hd d hdst
  rw [hdst] at h
  cases hop:o.op<;>rw [hop] at h<;>try (simp [effOp,Ev.run] at h;done)
  case move x=>exact snd_put hR hdst hd (.inl hop) h
  case assign x=>exact snd_put hR hdst hd (.inr hop) h
  case pick c x y=>exact snd_pick hR hdst hd hop h
  case alloc t=>exact snd_alloc hR hdst hd hop h
  case box t x=>exact snd_box hR hdst hd hop h
  case build t ps=>exact snd_build hR hdst hd hop h
  case buildSlice t n ps=>exact snd_buildSlice hR hdst hd hop h
  case load t x=>exact snd_load hR hdst hd hop h
  case nilCheck x=>exact snd_nil hR hdst hd hop h
  case binOp op t x y t'=>exact snd_bin hR hdst hd hop h
  case unOp op t x=>exact snd_un hR hdst hd hop h
  case convert t t' x=>exact snd_conv hR hdst hd hop h
  case makeInterface t x=>exact snd_ifc hR hdst hd hop h
  case makeFunc fn first cs=>
   simp only [effOp] at h
   split at h
   ·rename_i hf;exact snd_fn hR hdst hd hf hop h
   ·split at h
    ·rename_i hc;exact snd_mth hR hdst hd hc hop h
    ·simp [Ev.run] at h
  case range t x=>exact snd_range hR hdst hd hop h
  case next x b=>
   simp only [effOp] at h
   split at h
   ·rename_i hb;subst hb;exact snd_nextS hR hdst hd hop h
   ·simp [Ev.run] at h
  case entry x=>exact snd_entry hR hdst hd hop h
  case makeSlice t l c=>exact snd_make hR hdst hd hop h
  case slice t x lo hi mx=>
   cases mx with
   |none=>exact snd_slice hR hdst hd hop h
   |some m=>exact snd_slice3 hR hdst hd hop h
  case field t x f=>exact snd_field hR hdst hd hop h
  case index t x ix=>exact snd_index hR hdst hd hop h
  case makeMap t r=>
   cases r with
   |none=>exact snd_makeMap hR hdst hd hop h
   |some m=>simp [effOp,Ev.run] at h
  case lookup t x ix ok=>exact snd_lookup hR hdst hd hop h
  case typeAssert x t' t ok=>exact snd_assert hR hdst hd hop h
  case fieldAddr t x f=>exact snd_fieldAddr hR hdst hd hop h
  case indexAddr t x ix=>exact snd_indexAddr hR hdst hd hop h
  case extract x i=>exact snd_extract hR hdst hd hop h
  case call c=>
   simp only [effOp] at h
   cases hb:c.callee with
   |builtin b=>simp only [hb] at h;exact snd_builtin hR hdst hd hop hb h
   |_=>simp [hb,Ev.run] at h
end ops
end Go.Mw
namespace Go.Mw
open Go.RowKit
def FL.ren (r:Nat→Nat):FL→FL
 |.d x=>.d x
 |.own o i j t=>.own (r o) i j t
 |.obj o=>.obj (r o)
 |.dead=>.dead
def AL.ren (r:Nat→Nat):AL→AL
 |.d x=>.d x
 |.ptr o i=>.ptr (r o) i
 |.eptr o i j t=>.eptr (r o) i j t
 |.own o i j t=>.own (r o) i j t
 |.obj o=>.obj (r o)
 |.fpt fs=>.fpt (fs.map (·.ren r))
 |.csl o i j=>.csl (r o) i j
 |.dead=>.dead
def AV.ren (r:Nat→Nat):AV→AV
 |.val ag ls=>.val ag (ls.map (·.ren r))
 |.tup cs=>.tup (cs.map fun c=>(c.1,c.2.map (·.ren r)))
 |.cnd b v=>.cnd b (v.ren r)
 |.dead=>.dead
def AO.ren (r:Nat→Nat):AO→AO
 |.cells ls=>.cells (ls.map (·.ren r))
 |.arr e k es=>.arr e k es
 |.clo f ls=>.clo f (ls.map (·.ren r))
 |.yl=>.yl
 |.map es=>.map (es.map fun p=>(p.1,p.2.1,p.2.2.map (·.ren r)))
 |.mth f ls=>.mth f (ls.map (·.ren r))
 |.pin v l=>.pin v (l.ren r)
 |.iter ls n s c=>.iter (ls.map (·.ren r)) n s c
 |.sit s p=>.sit s p
 |.byt b c l=>.byt b c l
inductive Beh.Leaf:Beh→AV→List (Nat × AO)→Prop
 |ret (res:AV) (obs:List (Nat × AO)):Leaf (.ret res obs) res obs
 |yld {args:List AV} {k:Bool→Beh} {res:AV} {obs:List (Nat × AO)} (r:Bool) (h:Leaf (k r) res obs):Leaf (.yld args k) res obs
theorem Beh.Leaf.inv {res res':AV}{obs obs':List (Nat × AO)}(h:Beh.Leaf (.ret res obs) res' obs'):res'=res∧obs'=obs:=by cases h;exact ⟨rfl,rfl⟩
def Same1 (x x':AO)(v u:Value):Prop:=match x,x' with
 |.arr _ _ es,.arr _ _ es'=>es.length≤es'.length∧(es'.length=es.length→v=u)
 |.arr _ _ _,_=>True
 |_,.arr _ _ _=>True
 |_,_=>v=u
structure Post (S:Settled) (pre:List (Nat × AO)) (ι:Nat→Value) (l:Nat) (res:AV) (obs:List (Nat × AO)) (v:Value) (S':Settled) (M':Blocks) (ι':Nat→Value) (w':World):Prop where
 sub:∀b o,S b o→S' b o
 new:∀b o,S' b o→S b o∨M' b
 inn:∀b o,S' b o→b<w'.heap.size
 minn:∀b,M' b→b<w'.heap.size
 res:RepV S' ι' (look obs) w' res v
 objs:∀o x,look obs o=some x→ObjOK S' ι' (look obs) w' o x
 dis:∀o o' x x' b,look obs o=some x→look obs o'=some x' → o≠o' → blk (ι' o)=some b→blk (ι' o')≠some b
 own:∀o x b,look obs o=some x→blk (ι' o)=some b→M' b
 tok:∀o,look obs o=some .yl→ι' o=.func (.yield l) #[] #[]
 same:∀o x x',look pre o=some x→look obs o=some x' → Same1 x x' (ι' o) (ι o)
def Con (P:Program)(f:FuncId)(args:List AV)(pre:List (Nat × AO))(b:Beh):Prop:=
 ∀(E:Env P) (S:Settled) (M:Blocks) (ι:Nat→Value) (w:World) (vs:List Value),(∀b o,S b o→b<w.heap.size)→(∀k,M k→k<w.heap.size) →
  (∀o x,look pre o=some x→ObjOK S ι (look pre) w o x) →
  (∀o o' x x' b,look pre o=some x→look pre o'=some x' → o≠o' → blk (ι o)=some b→blk (ι o')≠some b) →
  (∀o x b,look pre o=some x→blk (ι o)=some b→M b) →
  (∀o,look pre o=some .yl→ι o=.func (.yield E.l) #[] #[]) →
  All2 (RepV S ι (look pre) w) args vs→E.J b S M w →
  CallsIn Fence.wide 0 P f vs.toArray w fun e w'=>∃v res obs S' M' ι',e=.returned v∧b.Leaf res obs∧E.J (.ret res obs) S' M' w' ∧ Post S pre ι E.l res obs v S' M' ι' w'
def Contract (P:Program)(f:FuncId)(args:List AV)(res:AV)(obs:List (Nat × AO)):Prop:=Con P f args [] (.ret res obs)
def Wk (x y:AV):Prop:=∀(S:Settled) (ι:Nat→Value) (H:Nat→Option AO) (w:World) (v:Value),RepV S ι H w x v→RepV S ι H w y v
def canCall (P:Program)(f:FuncId):Bool:=match P.funcs[f]? with
 |some fn=>!(fn.name == "runtime.NumGoroutine")&&fn.body.isSome
 |none=>false
theorem run_callFunc {P:Program}{f:FuncId}(h:canCall P f=true)(args:Array Value)(w:World):(callFunc f args).run P w=.ok (.enter f args) w:=by
 unfold canCall at h
 cases hf:P.funcs[f]? with
 |none=>simp [hf] at h
 |some fn=>
  simp only [hf,Bool.and_eq_true,Bool.not_eq_true'] at h
  have hb:fn.body.isNone=false:=by cases hb:fn.body<;>simp_all
  simp only [callFunc,Sem.run_bind,run_program,Result.andThen_ok,hf,h.1,hb,Bool.false_eq_true,if_false,Sem.run_pure]
def opCall:Op→Option (Operand × List Operand)
 |.call c=>match c.callee with
  |.value f=>some (f,c.args.toList)
  |_=>none
 |_=>none
def nms (pre:List (Nat × AO)):List Nat:=pre.map Prod.fst
def FL.inn (ns:List Nat):FL→Bool
 |.d _=>true
 |.own o _ _ _=>ns.contains o
 |.obj o=>ns.contains o
 |.dead=>true
def AL.inn (ns:List Nat):AL→Bool
 |.d _=>true
 |.ptr o _=>ns.contains o
 |.eptr o _ _ _=>ns.contains o
 |.own o _ _ _=>ns.contains o
 |.obj o=>ns.contains o
 |.fpt fs=>fs.all (FL.inn ns)
 |.csl o _ _=>ns.contains o
 |.dead=>true
def AV.inn (ns:List Nat):AV→Bool
 |.val _ ls=>ls.all (AL.inn ns)
 |.tup cs=>cs.all fun c=>c.2.all (AL.inn ns)
 |.cnd _ v=>v.inn ns
 |.dead=>true
def AO.inn (ns:List Nat):AO→Bool
 |.cells ls=>ls.all (AL.inn ns)
 |.arr _ _ _=>true
 |.clo _ ls=>ls.all (AL.inn ns)
 |.yl=>true
 |.map es=>es.all fun p=>p.2.2.all (AL.inn ns)
 |.mth _ ls=>ls.all (AL.inn ns)
 |.pin _ l=>l.inn ns
 |.iter ls _ _ _=>ls.all (AL.inn ns)
 |.sit _ _=>true
 |.byt _ _ _=>true
def rn (lend:List (Nat × Nat))(B:Nat)(q:Nat):Nat:=match look lend q with
 |some n=>n
 |none=>B+q
def LLe (l l':AL):Prop:=l'=l∨l'=.dead
def OLe (y x:AO):Prop:=match x with
 |.cells ls'=>∃ls,y=.cells ls∧All2 LLe ls ls'
 |.clo f ls'=>∃ls,y=.clo f ls∧All2 LLe ls ls'
 |x=>y=x
theorem LLe.refl (l:AL):LLe l l:=.inl rfl
theorem all2_lle:∀(ls:List AL),All2 LLe ls ls
 |[]=>trivial
 |l::ls=>⟨.inl rfl,all2_lle ls⟩
theorem OLe.refl (x:AO):OLe x x:=by
 cases x with
 |cells ls=>exact ⟨ls,rfl,all2_lle ls⟩
 |clo f ls=>exact ⟨ls,rfl,all2_lle ls⟩
 |_=>rfl
def Back (x x':AO):Prop:=match x with
 |.cells _=>∃ls',x'=.cells ls'
 |.arr e k es=>∃es',x'=.arr e k es' ∧ es.length≤es'.length
 |_=>x'.whole=true
structure CallOK (A:ASt) (B:Nat) (lend:List (Nat × Nat)) (pre:List (Nat × AO)) (b:Beh):Prop where
 lent:∀q x,look pre q=some x→∃n y,look lend q=some n∧A.obj n=some y∧OLe y (x.ren (rn lend B))∧x.inn (nms pre)=true
 only:∀q n,look lend q=some n→∃x,look pre q=some x
 inj:∀q q' n,look lend q=some n→look lend q'=some n→q=q'
 tag:∀q n ls,look lend q=some n→look pre q=some (.cells ls)→tagTy (n%1000)=tagTy (q%1000)
 back:∀res obs,b.Leaf res obs→(∀q x,look pre q=some x→∃x',look obs q=some x' ∧ Back x x')∧(∀q x',look obs q=some x' → look lend q=none→A.obj (B+q)=none)
def after (A:ASt)(d:Nat)(r:Nat→Nat)(res:AV)(obs:List (Nat × AO))(b:Beh):ASt:=⟨(d,res.ren r)::A.tm,obs.map (fun p=>(r p.1,p.2.ren r))++A.ob,b⟩
section ren
theorem repF_ren {S:Settled}{ι ι':Nat→Value}{H H':Nat→Option AO}{w:World}{r:Nat→Nat}(hι:∀q x,H q=some x→ι' (r q)=ι q)(hH:∀q x,H q=some x→H' (r q)=some (x.ren r))
  {l:FL} {v:Value} (h:RepF S ι H w l v):RepF S ι' H' w (l.ren r) v:=by
 cases l with
 |d x=>exact h
 |own q off len tot=>
  obtain ⟨h0,e,k,es,h1,h2,h3⟩:=h
  exact ⟨h0,e,k,es,hH q _ h1,h2,fun he=>by rw [hι q _ h1];exact h3 he⟩
 |obj q=>
  obtain ⟨h0,h1,x,h2,h3⟩:=h
  exact ⟨h0,h1.trans (hι q _ h2).symm,_,hH q _ h2,by cases x<;>first|rfl|simp [AO.whole] at h3⟩
 |dead=>exact h
theorem fls_map {fs:List FL}{φ:FL→FL}{Q Q':Nat→FL→Prop}(h:∀j f,fs[j]? = some f→Q j f)(hφ:∀j f,Q j f→Q' j (φ f)):∀j f,(fs.map φ)[j]? = some f→Q' j f:=by
 intro j f hj
 rw [List.getElem?_map] at hj
 cases hf:fs[j]? with
 |none=>simp [hf] at hj
 |some g=>simp only [hf,Option.map_some,Option.some.injEq] at hj;subst hj;exact hφ j g (h j g hf)
theorem rep_ren {S:Settled}{ι ι':Nat→Value}{H H':Nat→Option AO}{w:World}{r:Nat→Nat}(hι:∀q x,H q=some x→ι' (r q)=ι q)(hH:∀q x,H q=some x→H' (r q)=some (x.ren r))
  {l:AL} {v:Value} (h:RepL S ι H w l v):RepL S ι' H' w (l.ren r) v:=by
 cases l with
 |d x=>exact h
 |ptr q off=>
  obtain ⟨ls,b,h1,h2,h3⟩:=h
  exact ⟨_,b,hH q _ h1,(hι q _ h1).trans h2,h3⟩
 |eptr q i j tot=>
  obtain ⟨h0,e,k,es,h1,h2,h3⟩:=h
  exact ⟨h0,e,k,es,hH q _ h1,h2,fun he=>by rw [hι q _ h1];exact h3 he⟩
 |own q off len tot=>
  obtain ⟨h0,e,k,es,h1,h2,h3⟩:=h
  exact ⟨h0,e,k,es,hH q _ h1,h2,fun he=>by rw [hι q _ h1];exact h3 he⟩
 |obj q=>
  obtain ⟨h0,h1,x,h2,h3⟩:=h
  exact ⟨h0,h1.trans (hι q _ h2).symm,_,hH q _ h2,by cases x<;>first|rfl|simp [AO.whole] at h3⟩
 |fpt fs=>
  obtain ⟨b,off,hv,hf⟩:=h
  exact ⟨b,off,hv,fls_map hf fun j f ⟨h1,u,h2,h3⟩=>⟨h1,u,h2,repF_ren hι hH h3⟩⟩
 |csl q off len=>
  obtain ⟨ls,b,c,h1,h2,h3⟩:=h
  exact ⟨_,b,c,hH q _ h1,(hι q _ h1).trans h2,h3⟩
 |dead=>exact h
theorem repC_ren {S:Settled}{ι ι':Nat→Value}{H H':Nat→Option AO}{w:World}{r:Nat→Nat}(hι:∀q x,H q=some x→ι' (r q)=ι q)(hH:∀q x,H q=some x→H' (r q)=some (x.ren r))
  {ag:Bool} {ls:List AL} {v:Value} (h:RepC S ι H w ag ls v):RepC S ι' H' w ag (ls.map (·.ren r)) v:=by
 cases ag with
 |true=>obtain ⟨vs,hv,ha⟩:=h;exact ⟨vs,hv,all2_map (R:=RepL S ι H w) (R':=RepL S ι' H' w) (·.ren r) (fun _ _ h=>rep_ren hι hH h) ha⟩
 |false=>obtain ⟨l,rfl,ha⟩:=h;exact ⟨_,rfl,rep_ren hι hH ha⟩
theorem repV_ren {S:Settled}{ι ι':Nat→Value}{H H':Nat→Option AO}{w:World}{r:Nat→Nat}(hι:∀q x,H q=some x→ι' (r q)=ι q)(hH:∀q x,H q=some x→H' (r q)=some (x.ren r))
  : ∀ {x:AV} {v:Value},RepV S ι H w x v→RepV S ι' H' w (x.ren r) v
 |.val ag ls,_,h=>repC_ren hι hH h
 |.cnd _ x,_,h=>⟨fun hb=>repV_ren hι hH (x:=x) (h.1 hb),h.2⟩
 |.tup cs,_,h=>by obtain ⟨vs,hv,ha⟩:=h;exact ⟨vs,hv,all2_map (R:=fun (c:Bool × List AL) u=>RepC S ι H w c.1 c.2 u) (R':=fun (c:Bool × List AL) u=>RepC S ι' H' w c.1 c.2 u) (fun c=>(c.1,c.2.map (·.ren r))) (fun _ _ h=>repC_ren hι hH h) ha⟩
 |.dead,_,_=>trivial
theorem objOK_ren {S:Settled}{ι ι':Nat→Value}{H H':Nat→Option AO}{w:World}{r:Nat→Nat}(hι:∀q x,H q=some x→ι' (r q)=ι q)(hH:∀q x,H q=some x→H' (r q)=some (x.ren r))
  {q:Nat} {x:AO} (hτ:∀ls,x=.cells ls→tagTy (r q%1000)=tagTy (q%1000)) (hq:H q=some x) (h:ObjOK S ι H w q x):ObjOK S ι' H' w (r q) (x.ren r):=by
 cases x with
 |cells ls=>
  obtain ⟨b,vs,el,h1,h2,h3,h5⟩:=h
  exact ⟨b,vs,el,(hι q _ hq).trans h1,h2,all2_map (R:=RepL S ι H w) (R':=RepL S ι' H' w) (·.ren r) (fun _ _ h=>rep_ren hι hH h) h3,h5.1,fun t ht=>h5.2 t (by rw [←hτ ls rfl];exact ht)⟩
 |arr e k es=>
  obtain ⟨xs,h1,h2,h3,h4,h5⟩:=h
  exact ⟨xs,by rw [hι q _ hq];exact h1,h2,h3,h4,fun b hb=>h5 b (hι q _ hq▸hb)⟩
 |clo f ls=>
  obtain ⟨vs,h1,h2⟩:=h
  exact ⟨vs,(hι q _ hq).trans h1,all2_map (R:=RepL S ι H w) (R':=RepL S ι' H' w) (·.ren r) (fun _ _ h=>rep_ren hι hH h) h2⟩
 |yl=>obtain ⟨l,h1⟩:=h;exact ⟨l,(hι q _ hq).trans h1⟩
 |map es=>
  obtain ⟨b,qs,ck,h1,h2,h3,h5⟩:=h
  exact ⟨b,qs,ck,(hι q _ hq).trans h1,h2,all2_map (R:=RepE S ι H w) (R':=RepE S ι' H' w) (fun p=>(p.1,p.2.1,p.2.2.map (·.ren r))) (fun _ _ h=>⟨h.1,repC_ren hι hH h.2⟩) h3,h5⟩
 |pin v l=>exact ⟨(hι q _ hq).trans h.1,rep_ren hι hH h.2⟩
 |mth f ls=>
  obtain ⟨vs,h1,h2⟩:=h
  exact ⟨vs,(hι q _ hq).trans h1,all2_map (R:=RepL S ι H w) (R':=RepL S ι' H' w) (·.ren r) (fun _ _ h=>rep_ren hι hH h) h2⟩
 |iter ls n sn c=>
  obtain ⟨b,m,h1,h2,h3,h5⟩:=h
  exact ⟨b,m,(hι q _ hq).trans h1,h2,all2_map (R:=RepL S ι H w) (R':=RepL S ι' H' w) (·.ren r) (fun _ _ h=>rep_ren hι hH h) h3,h5⟩
 |sit s p=>
  obtain ⟨b,h1,h2,h5⟩:=h
  exact ⟨b,(hι q _ hq).trans h1,h2,h5⟩
 |byt b c l=>exact ⟨(hι q _ hq).trans h.1,h.2⟩
theorem repF_un {S:Settled}{ι:Nat→Value}{H:Nat→Option AO}{w:World}{r:Nat→Nat}{pre:List (Nat × AO)}(hH:∀q∈nms pre,∃x y,look pre q=some x∧H (r q)=some y∧OLe y (x.ren r))
  {l:FL} {v:Value} (hl:l.inn (nms pre)=true) (h:RepF S ι H w (l.ren r) v):RepF S (fun q=>ι (r q)) (look pre) w l v:=by
 cases l with
 |d x=>exact h
 |own q off len tot=>
  obtain ⟨h0,e,k,es,h1,h2,h3⟩:=h
  obtain ⟨x,y,hx,hy,hle⟩:=hH q (by simpa [FL.inn] using hl)
  rw [h1] at hy;cases hy
  cases x<;>simp only [AO.ren,OLe] at hle
  case arr e' k' es'=>cases hle;exact ⟨h0,e,k,es,hx,h2,h3⟩
  all_goals (first|(obtain ⟨_,h,_⟩:=hle;cases h)|cases hle)
 |obj q=>
  obtain ⟨h0,h1,z,h2,h3⟩:=h
  obtain ⟨x,y,hx,hy,hle⟩:=hH q (by simpa [FL.inn] using hl)
  rw [h2] at hy;cases hy
  refine ⟨h0,h1,x,hx,?_⟩
  cases x<;>simp only [AO.ren,OLe] at hle<;>first|rfl|(subst hle;simp [AO.whole] at h3)|(obtain ⟨_,h,_⟩:=hle;subst h;simp [AO.whole] at h3)
 |dead=>exact h
theorem rep_un {S:Settled}{ι:Nat→Value}{H:Nat→Option AO}{w:World}{r:Nat→Nat}{pre:List (Nat × AO)}(hH:∀q∈nms pre,∃x y,look pre q=some x∧H (r q)=some y∧OLe y (x.ren r))
  {l:AL} {v:Value} (hl:l.inn (nms pre)=true) (h:RepL S ι H w (l.ren r) v):RepL S (fun q=>ι (r q)) (look pre) w l v:=by
 cases l with
 |d x=>exact h
 |ptr q off=>
  obtain ⟨ls,b,h1,h2,h3⟩:=h
  obtain ⟨x,y,hx,hy,hle⟩:=hH q (by simpa [AL.inn] using hl)
  rw [h1] at hy;cases hy
  cases x<;>simp only [AO.ren,OLe] at hle
  case cells ls'=>exact ⟨ls',b,hx,h2,h3⟩
  all_goals (first|(obtain ⟨_,h,_⟩:=hle;cases h)|cases hle)
 |eptr q i j tot=>
  obtain ⟨h0,e,k,es,h1,h2,h3⟩:=h
  obtain ⟨x,y,hx,hy,hle⟩:=hH q (by simpa [AL.inn] using hl)
  rw [h1] at hy;cases hy
  cases x<;>simp only [AO.ren,OLe] at hle
  case arr e' k' es'=>cases hle;exact ⟨h0,e,k,es,hx,h2,h3⟩
  all_goals (first|(obtain ⟨_,h,_⟩:=hle;cases h)|cases hle)
 |own q off len tot=>
  obtain ⟨h0,e,k,es,h1,h2,h3⟩:=h
  obtain ⟨x,y,hx,hy,hle⟩:=hH q (by simpa [AL.inn] using hl)
  rw [h1] at hy;cases hy
  cases x<;>simp only [AO.ren,OLe] at hle
  case arr e' k' es'=>cases hle;exact ⟨h0,e,k,es,hx,h2,h3⟩
  all_goals (first|(obtain ⟨_,h,_⟩:=hle;cases h)|cases hle)
 |obj q=>
  obtain ⟨h0,h1,z,h2,h3⟩:=h
  obtain ⟨x,y,hx,hy,hle⟩:=hH q (by simpa [AL.inn] using hl)
  rw [h2] at hy;cases hy
  refine ⟨h0,h1,x,hx,?_⟩
  cases x<;>simp only [AO.ren,OLe] at hle<;>first|rfl|(subst hle;simp [AO.whole] at h3)|(obtain ⟨_,h,_⟩:=hle;subst h;simp [AO.whole] at h3)
 |fpt fs=>
  obtain ⟨b,off,hv,hf⟩:=h
  refine ⟨b,off,hv,fun j f hj=>?_⟩
  obtain ⟨h1,u,h2,h3⟩:=hf j (f.ren r) (by rw [List.getElem?_map,hj];rfl)
  exact ⟨h1,u,h2,repF_un hH (List.all_eq_true.1 hl f (List.mem_of_getElem? hj)) h3⟩
 |csl q off len=>
  obtain ⟨ls,b,c,h1,h2,h3⟩:=h
  obtain ⟨x,y,hx,hy,hle⟩:=hH q (by simpa [AL.inn] using hl)
  rw [h1] at hy;cases hy
  cases x<;>simp only [AO.ren,OLe] at hle
  case cells ls'=>exact ⟨ls',b,c,hx,h2,h3⟩
  all_goals (first|(obtain ⟨_,h,_⟩:=hle;cases h)|cases hle)
 |dead=>exact h
theorem all2_un {α β γ:Type}{R:γ→β→Prop}{R':α→β→Prop}(f:α→γ)(p:α→Bool)(h:∀a b,p a=true→R (f a) b→R' a b):∀ {l:List α} {m:List β},l.all p=true→All2 R (l.map f) m→All2 R' l m
 |[],[],_,_=>trivial
 |_::_,_::_,hp,hh=>by
  simp only [List.all_cons,Bool.and_eq_true] at hp
  exact ⟨h _ _ hp.1 hh.1,all2_un f p h hp.2 hh.2⟩
 |[],_::_,_,hh=>hh.elim
 |_::_,[],_,hh=>hh.elim
section un
variable {S:Settled} {ι:Nat→Value} {H:Nat→Option AO} {w:World} {r:Nat→Nat} {pre:List (Nat × AO)} (hH:∀q∈nms pre,∃x y,look pre q=some x∧H (r q)=some y∧OLe y (x.ren r))
include hH
theorem repC_un {ag:Bool}{ls:List AL}{v:Value}(hl:ls.all (·.inn (nms pre))=true)(h:RepC S ι H w ag (ls.map (·.ren r)) v):RepC S (fun q=>ι (r q)) (look pre) w ag ls v:=by
 cases ag with
 |true=>obtain ⟨vs,hv,ha⟩:=h;exact ⟨vs,hv,all2_un (R:=RepL S ι H w) (AL.ren r) (AL.inn (nms pre)) (fun _ _ h1 h2=>rep_un hH h1 h2) hl ha⟩
 |false=>
  obtain ⟨l,hl',ha⟩:=h
  match ls,hl' with
  |[l0],hl'=>
   simp only [List.map_cons,List.map_nil,List.cons.injEq,and_true] at hl'
   subst hl'
   exact ⟨l0,rfl,rep_un hH V211 ha⟩
theorem repV_un:∀ {x:AV} {v:Value},x.inn (nms pre)=true→RepV S ι H w (x.ren r) v→RepV S (fun q=>ι (r q)) (look pre) w x v
 |.val ag ls,_,hl,h=>repC_un hH hl h
 |.cnd _ x,_,hl,h=>⟨fun hb=>repV_un (x:=x) hl (h.1 hb),h.2⟩
 |.tup cs,_,hl,h=>by
  obtain ⟨vs,hv,ha⟩:=h
  exact ⟨vs,hv,all2_un (R:=fun (c:Bool × List AL) u=>RepC S ι H w c.1 c.2 u) (fun c=>(c.1,c.2.map (·.ren r))) (fun (c:Bool × List AL)=>c.2.all (AL.inn (nms pre))) (fun _ _ h1 h2=>repC_un hH h1 h2) hl ha⟩
 |.dead,_,_,_=>trivial
omit hH in
theorem lle_rep {ls ls':List AL}{vs:List Value}(h:All2 LLe ls ls')(hr:All2 (RepL S ι H w) ls vs):All2 (RepL S ι H w) ls' vs:=by
 induction ls generalizing ls' vs with
 |nil=>cases ls' with
  |nil=>exact hr
  |cons _ _=>exact h.elim
 |cons l ls ih=>cases ls' with
  |nil=>exact h.elim
  |cons l' ls'=>cases vs with
   |nil=>exact hr.elim
   |cons v vs=>
    refine ⟨?_,ih h.2 hr.2⟩
    rcases h.1 with rfl|rfl
    ·exact hr.1
    ·exact RepL.one S ι H w hr.1
theorem objOK_un {q:Nat}{x y:AO}(hτ:∀ls,x=.cells ls→∀t,tagTy (q%1000)=some t→tagTy (r q%1000)=some t)(hle:OLe y (x.ren r))(hin:x.inn (nms pre)=true)(h:ObjOK S ι H w (r q) y):ObjOK S (fun q=>ι (r q)) (look pre) w q x:=by
 cases x with
 |cells ls'=>
  obtain ⟨ls,rfl,hls⟩:=hle
  obtain ⟨b,vs,el,h1,h2,h3,h5⟩:=h
  exact ⟨b,vs,el,h1,h2,all2_un (R:=RepL S ι H w) (AL.ren r) (AL.inn (nms pre)) (fun _ _ h1 h2=>rep_un hH h1 h2) hin (lle_rep hls h3),h5.1,fun t ht=>h5.2 t (hτ _ rfl t ht)⟩
 |arr e k es=>cases hle;exact h
 |clo f ls'=>
  obtain ⟨ls,rfl,hls⟩:=hle
  obtain ⟨vs,h1,h3⟩:=h
  exact ⟨vs,h1,all2_un (R:=RepL S ι H w) (AL.ren r) (AL.inn (nms pre)) (fun _ _ h1 h2=>rep_un hH h1 h2) hin (lle_rep hls h3)⟩
 |yl=>cases hle;exact h
 |map es=>
  cases hle
  obtain ⟨b,qs,ck,h1,h2,h3,h5⟩:=h
  exact ⟨b,qs,ck,h1,h2,all2_un (R:=RepE S ι H w) (fun p=>(p.1,p.2.1,p.2.2.map (·.ren r))) (fun (p:Value × Bool × List AL)=>p.2.2.all (AL.inn (nms pre))) (fun _ _ h1 h2=>⟨h2.1,repC_un hH h1 h2.2⟩) hin h3,h5⟩
 |pin v l=>cases hle;exact ⟨h.1,rep_un hH hin h.2⟩
 |mth f ls=>
  cases hle
  obtain ⟨vs,h1,h3⟩:=h
  exact ⟨vs,h1,all2_un (R:=RepL S ι H w) (AL.ren r) (AL.inn (nms pre)) (fun _ _ h1 h2=>rep_un hH h1 h2) hin h3⟩
 |iter ls n sn c=>
  cases hle
  obtain ⟨b,m,h1,h2,h3,h5⟩:=h
  exact ⟨b,m,h1,h2,all2_un (R:=RepL S ι H w) (AL.ren r) (AL.inn (nms pre)) (fun _ _ h1 h2=>rep_un hH h1 h2) hin h3,h5⟩
 |sit s p=>cases hle;exact h
 |byt b c l=>cases hle;exact h
end un
end ren
def Env.frame {P:Program}(E:Env P)(g:Beh→Beh)(hg:∀a k,g (.yld a k)=.yld a fun r=>g (k r))(S0:Settled)(M0 L:Blocks)(w0:World)(h0:∀k,M0 k→k<w0.heap.size):Env P where
 l:=E.l
 J b S M w:=E.J (g b) S (fun k=>M0 k∨M k) w∧(∀k,M0 k→¬L k→w.heap[k]? = w0.heap[k]?)∧(∀k,M k→L k∨w0.heap.size≤k)∧w0.heap.size≤w.heap.size ∧
  (∀b o,S0 b o→S b o∧w.cell? ⟨b,o,none⟩=w0.cell? ⟨b,o,none⟩)∧w.os=w0.os∧w.tape=w0.tape∧w.output=w0.output
 glob:=fun h=>E.glob h.1
 step:=by
  intro b S M w S' M' w' ⟨h1,h2,h3,h4,h5,h6,h7,h8⟩ hf hM hN hS hT
  have hN':∀k,M' k→L k∨w0.heap.size≤k:=fun k hk=>by
   rcases hN k hk with h|h
   ·exact h3 k h
   ·exact .inr (by omega)
  refine ⟨E.step h1 ⟨hf.os,hf.tape,hf.output,hf.size,fun k hk hn=>hf.block k hk fun h=>hn (.inr h),hf.cell⟩ (fun k hk=>hk.imp id (hM k)) ?_ hS fun k o hk=>(hT k o hk).imp id .inr,?_,hN',Nat.le_trans h4 hf.size,fun b o hb=>⟨hS _ _ (h5 b o hb).1,(hf.cell b o (h5 b o hb).1).trans (h5 b o hb).2⟩,hf.os.trans h6,hf.tape.trans h7,hf.output.trans h8⟩
  ·intro k hk
   rcases hk with hk|hk
   ·exact .inl (.inl hk)
   ·exact (hN k hk).imp .inr id
  ·intro k hk hL
   refine (hf.block k (Nat.lt_of_lt_of_le (h0 k hk) h4) fun hm=>?_).trans (h2 k hk hL)
   rcases h3 k hm with h|h
   ·exact hL h
   ·have:=h0 k hk;omega
 yld:=by
  intro args k S M w vs ⟨h1,h2,h3,h4,h5,h6,h7,h8⟩ hvs
  rw [hg] at h1
  obtain ⟨fn,tmps,assign,body,hy,hR⟩:=E.yld h1 hvs
  refine ⟨fn,tmps,assign,body,hy,hR.mono fun e w' ⟨r,he,hk,hJ⟩=>⟨r,he,⟨hk.os,hk.tape,hk.output,hk.size,fun b hb=>hk.block b (.inr hb),hk.cell⟩,hJ,fun b hb hL=>(hk.block b (.inl hb)).trans (h2 b hb hL),h3,Nat.le_trans h4 hk.size,
   fun b o hb=>⟨(h5 b o hb).1,(hk.cell b o (h5 b o hb).1).trans (h5 b o hb).2⟩,hk.os.trans h6,hk.tape.trans h7,hk.output.trans h8⟩⟩
theorem bind_yld (κ:AV→List (Nat × AO)→Beh)(a:List AV)(k:Bool→Beh):Beh.bind (.yld a k) κ=.yld a fun r=>(k r).bind κ:=rfl
theorem Env.J_eqv {P:Program}(E:Env P){b:Beh}{S S':Settled}{M M':Blocks}{w:World}(h:E.J b S M w)(h1:∀k,M k→M' k)(h2:∀k,M' k→M k)(hS:∀k o,S k o→S' k o)(hT:∀k o,S' k o→S k o∨M' k):E.J b S' M' w:=
 E.step h ⟨rfl,rfl,rfl,Nat.le_refl _,fun _ _ _=>rfl,fun _ _ _=>rfl⟩ h1 (fun k hk=>.inl (h2 k hk)) hS hT
end Go.Mw
namespace Go.Mw
open Go.RowKit
def fen {P:Program}(C:Ctx P):Fence:=match C.rd with
 |none=>Fence.wide
 |some (l,_)=>Fence.wide.inRound l
section fence
variable {P:Program} (C:Ctx P)
theorem fen_fn (f:FuncId):(fen C).fn f:=by unfold fen;cases C.rd<;>trivial
theorem fen_depth:(fen C).depth=none:=by unfold fen;cases C.rd<;>rfl
theorem fen_isSome {q:Prop}:(fen C).depth.isSome=true→q:=fun h=>by rw [fen_depth] at h;cases h
theorem fenced_fen:Machine.fenced P (fen C)=Machine.fenced P Fence.wide:=by unfold fen;cases C.rd<;>rfl
theorem callsIn_fen {n:Nat}{f:FuncId}{args:Array Value}{w:World}{R:Ending→World→Prop}(h:CallsIn Fence.wide 0 P f args w R):CallsIn (fen C) n P f args w R:=by
 refine ⟨fen_fn C f,fun cs _=>?_⟩
 rw [fenced_fen]
 exact h.2 cs (room_wide _)
theorem roundIn_fen {n l:Nat}{f:FuncId}{tmps:Array Value}{assign body:Code}{w:World}{R:Ending→World→Prop}(h:RoundIn Fence.wide 0 P l f tmps assign body w R):RoundIn (fen C) n P l f tmps assign body w R:=by
 refine ⟨fen_fn C f,fun c cs _=>?_⟩
 rw [fenced_fen]
 exact h.2 c cs (room_wide _)
end fence
section snd
variable {P:Program} {C:Ctx P} {A:ASt} {a:Act} {w:World} {o:Oper}
theorem no_defer {ρ:Operand→Value}{x:Next}{w':World}(h:(execOp ρ o).run P w=.ok x w')(hx:∀d,x≠.defer d):∀c,o.op≠.defer c:=by
 intro c hc
 have:(execOp ρ o)=(do pure (.defer (←resolve ρ c o.type)):Sem Next):=by simp [execOp,hc]
 rw [this,Sem.run_bind] at h
 cases hr:(resolve ρ c o.type).run P w with
 |ok d w1=>
  rw [hr] at h
  simp only [Result.andThen_ok,Sem.run_pure,Result.ok.injEq] at h
  exact hx _ h.1.symm
 |halt e w1=>rw [hr] at h;simp [Result.andThen] at h
theorem wp_run {x:Next}{w':World}(h:(execOp a.eval o).run P w=.ok x w')(hx:∀d,x≠.defer d){K:Act→World→Prop}{Q:Exit→Act→World→Prop}(hK:o.uponIn (fen C) 0 P a K Q (.ok x w')):o.wpIn (fen C) 0 P a w K Q:=by
 refine ⟨fun f _=>fen_fn C f,?_⟩
 rw [Oper.semAt_eq _ _ _ (no_defer h hx),h]
 exact hK
theorem wp_snd {ws:List Wr}(h:Snd P C A ws a w o)(Q:Exit→Act→World→Prop):o.wpIn (fen C) 0 P a w (fun a' w'=>Rel C (A.put ws) a' w') Q:=by
 rcases h with ⟨v,w',h,hR⟩|⟨w',h,hR⟩
 ·exact wp_run h V209 hR
 ·exact wp_run h V209 hR
end snd
def FnOf (A:ASt)(fv:AV)(g:FuncId)(caps:List AL):Prop:=(∃ds:List D,fv=.leaf (.d (.fn g ds))∧caps=ds.map .d)∨(∃c,fv=.leaf (.obj c)∧A.obj c=some (.clo g caps))
def WkR (r:Nat→Nat)(ns:List Nat)(x y:AV):Prop:=y.inn ns=true∧Wk x (y.ren r)
section look
variable {r:Nat→Nat} {obs:List (Nat × AO)}
def Inj (r:Nat→Nat)(obs:List (Nat × AO)):Prop:=∀q x q' x',look obs q=some x→look obs q'=some x' → r q'=r q→q'=q
theorem look_mem {α:Type}:∀ {l:List (Nat × α)} {p:Nat × α},p∈l→∃y,look l p.1=some y
 |[],_,h=>by simp at h
 |(k,v)::l,p,h=>by
  by_cases e:p.1=k
  ·exact ⟨v,by simp [look,e]⟩
  ·rcases List.mem_cons.1 h with h|h
   ·subst h;exact absurd rfl e
   ·obtain ⟨y,hy⟩:=look_mem h
    exact ⟨y,by simp [look,e,hy]⟩
theorem look_ren_new (ob:List (Nat × AO)):∀ {obs:List (Nat × AO)} {q:Nat} {x:AO},look obs q=some x→(∀q' x',look obs q'=some x' → r q'=r q→q'=q)→look (obs.map (fun p=>(r p.1,p.2.ren r))++ob) (r q)=some (x.ren r)
 |[],_,_,h,_=>by simp [look] at h
 |(q0,x0)::obs,q,x,h,hinj=>by
  simp only [List.map_cons,List.cons_append,look]
  by_cases e:r q=r q0
  ·have:q0=q:=hinj q0 x0 (by simp [look]) e.symm
   subst this
   simp only [look,if_true,Option.some.injEq] at h
   subst h
   simp
  ·have hne:q≠q0:=fun h=>e (by rw [h])
   rw [if_neg e]
   simp only [look,if_neg hne] at h
   refine look_ren_new ob h fun q' x' hq' hr=>?_
   by_cases hq0:q'=q0
   ·subst hq0;exact absurd hr.symm e
   ·exact hinj q' x' (by simp [look,hq0,hq']) hr
theorem look_ren_old (ob:List (Nat × AO)){n:Nat}:∀ {obs:List (Nat × AO)},(∀q x,look obs q=some x→n≠r q)→look (obs.map (fun p=>(r p.1,p.2.ren r))++ob) n=look ob n
 |[],_=>rfl
 |(q0,x0)::obs,h=>by
  simp only [List.map_cons,List.cons_append,look]
  rw [if_neg (h q0 x0 (by simp [look]))]
  refine look_ren_old ob fun q x hq=>?_
  by_cases e:q=q0
  ·subst e;exact h q x0 (by simp [look])
  ·exact h q x (by simp [look,e,hq])
theorem look_ren_inv (ob:List (Nat × AO))(hinj:Inj r obs){n:Nat}{y:AO}(h:look (obs.map (fun p=>(r p.1,p.2.ren r))++ob) n=some y) :
  (∃q x,n=r q∧look obs q=some x∧y=x.ren r)∨((∀q x,look obs q=some x→n≠r q)∧look ob n=some y):=by
 by_cases hex:∃q x,look obs q=some x∧n=r q
 ·obtain ⟨q,x,hq,rfl⟩:=hex
  rw [look_ren_new ob hq fun q' x' hq' hr=>hinj q x q' x' hq hq' hr] at h
  simp only [Option.some.injEq] at h
  exact .inl ⟨q,x,rfl,hq,h.symm⟩
 ·have hno:∀q x,look obs q=some x→n≠r q:=fun q x hq e=>hex ⟨q,x,hq,e⟩
  rw [look_ren_old ob hno] at h
  exact .inr ⟨hno,h⟩
def joinV (r:Nat→Nat)(obs:List (Nat × AO))(ι ι':Nat→Value)(n:Nat):Value:=match obs.find? (fun p=>r p.1==n) with
 |some p=>ι' p.1
 |none=>ι n
theorem joinV_new {ι ι':Nat→Value}(hinj:Inj r obs){q:Nat}{x:AO}(h:look obs q=some x):joinV r obs ι ι' (r q)=ι' q:=by
 unfold joinV
 cases hf:obs.find? (fun p=>r p.1==r q) with
 |none=>
  obtain ⟨y,hy⟩:∃y,(q,y)∈obs:=by
   clear hf hinj
   induction obs with
   |nil=>simp [look] at h
   |cons p l ih=>
    obtain ⟨k,v⟩:=p
    by_cases e:q=k
    ·subst e;exact ⟨v,by simp⟩
    ·simp only [look,if_neg e] at h
     obtain ⟨y,hy⟩:=ih h
     exact ⟨y,by simp [hy]⟩
  have:=List.find?_eq_none.1 hf _ hy
  simp at this
 |some p=>
  have hp:=List.find?_some hf
  simp only [beq_iff_eq] at hp
  obtain ⟨y,hy⟩:=look_mem (List.mem_of_find?_eq_some hf)
  show ι' p.1=ι' q
  rw [hinj q x p.1 y h hy hp]
theorem joinV_old {ι ι':Nat→Value}{n:Nat}(h:∀q x,look obs q=some x→n≠r q):joinV r obs ι ι' n=ι n:=by
 unfold joinV
 cases hf:obs.find? (fun p=>r p.1==n) with
 |none=>rfl
 |some p=>
  have hp:=List.find?_some hf
  simp only [beq_iff_eq] at hp
  obtain ⟨y,hy⟩:=look_mem (List.mem_of_find?_eq_some hf)
  exact absurd hp.symm (h p.1 y hy)
end look
section call
variable {P:Program} {C:Ctx P} {S:Settled} {M:Blocks} {ι:Nat→Value} {A:ASt} {a:Act} {w w':World} {o:Oper} {d:Nat}
theorem FnOf.rep (hR:RelC C S M ι A a w){fv:AV}{g:FuncId}{caps:List AL}(h:FnOf A fv g caps){v:Value}(hv:RepV S ι A.obj w fv v):∃us:List Value,v=.func (.func g) #[] us.toArray∧All2 (RepL S ι A.obj w) caps us:=by
 rcases h with ⟨ds,rfl,rfl⟩|⟨c,rfl,hc⟩
 ·have hv:=rep_leaf hv
  cases hv with
  |fn _ _ us hl hr=>
   refine ⟨us,rfl,All2.ofGet V217 fun i x v hx hv=>?_⟩
   simp only [List.getElem?_map,Option.map_eq_some_iff] at hx
   obtain ⟨y,hy,rfl⟩:=hx
   exact hr i y v hy hv
 ·obtain ⟨_,hv,_⟩:=rep_leaf hv
  obtain ⟨us,h1,h2⟩:=hR.objs c _ hc
  exact ⟨us,hv.trans h1,h2⟩
def lentB (ι:Nat→Value)(lend:List (Nat × Nat))(pre:List (Nat × AO)):Blocks:=fun k=>∃q n x,look pre q=some x∧look lend q=some n∧blk (ι n)=some k
theorem CallOK.inj' {B:Nat}{lend:List (Nat × Nat)}{pre:List (Nat × AO)}{b:Beh}(h:CallOK A B lend pre b){res:AV}{obs:List (Nat × AO)}(hl:b.Leaf res obs):Inj (rn lend B) obs:=by
 intro q x q' x' hq hq' hr
 have hb:=h.back res obs hl
 have hlent:∀q n,look lend q=some n→∃y,A.obj n=some y:=fun q n hn=>by
  obtain ⟨x,hx⟩:=h.only q n hn
  obtain ⟨n',y,hn',hy,_⟩:=h.lent q x hx
  rw [hn] at hn';cases hn'
  exact ⟨y,hy⟩
 unfold rn at hr
 cases h1:look lend q with
 |none=>
  cases h2:look lend q' with
  |none=>simp only [h1,h2] at hr;omega
  |some n=>
   simp only [h1,h2] at hr
   obtain ⟨y,hy⟩:=hlent q' n h2
   rw [hr,hb.2 q x hq h1] at hy;cases hy
 |some n=>
  cases h2:look lend q' with
  |none=>
   simp only [h1,h2] at hr
   obtain ⟨y,hy⟩:=hlent q n h1
   rw [←hr,hb.2 q' x' hq' h2] at hy;cases hy
  |some n'=>
   simp only [h1,h2] at hr
   subst hr
   exact h.inj q' q n' h2 h1
theorem CallOK.obj {B:Nat}{lend:List (Nat × Nat)}{pre:List (Nat × AO)}{b:Beh}(h:CallOK A B lend pre b):∀q∈nms pre,∃x y,look pre q=some x∧A.obj (rn lend B q)=some y∧OLe y (x.ren (rn lend B)):=by
 intro q hq
 obtain ⟨p,hp,rfl⟩:=List.mem_map.1 hq
 obtain ⟨x,hx⟩:=look_mem hp
 obtain ⟨n,y,hn,hy,hle,_⟩:=h.lent p.1 x hx
 exact ⟨x,y,hx,by unfold rn;rw [hn];exact hy,hle⟩
theorem RelC.called (hR:RelC C S M ι A a w){lend:List (Nat × Nat)}{pre:List (Nat × AO)}{b:Beh}(hok:CallOK A (1000*(d+1)) lend pre b){res:AV}{obs:List (Nat × AO)}(hl:b.Leaf res obs){v:Value}{S':Settled}{M':Blocks}{ι':Nat→Value}{b':Beh}(hd:C.can d)
  (hp:Post S pre (fun q=>ι (rn lend (1000*(d+1)) q)) C.E.l res obs v S' M' ι' w') (hE:C.E.J b' S' (fun k=>M k∨M' k) w') (hk:∀k,M k→¬lentB ι lend pre k→w'.heap[k]? = w.heap[k]?)
  (hM:∀k,M' k→lentB ι lend pre k∨w.heap.size≤k) (hsz:w.heap.size≤w'.heap.size) (hc:∀b o,S b o→S' b o∧w'.cell? ⟨b,o,none⟩=w.cell? ⟨b,o,none⟩) :
  Rel C (after A d (rn lend (1000*(d+1))) res obs b') (a.put (some d) v) w':=by
 have hinj:=hok.inj' hl
 have hback:=hok.back res obs hl
 generalize hB:1000*(d+1)=B at *
 generalize hr:rn lend B=r at *
 have rlent:∀q n,look lend q=some n→r q=n:=fun q n h=>by rw [←hr];unfold rn;rw [h]
 have rnew:∀q,look lend q=none→r q=B+q:=fun q h=>by rw [←hr];unfold rn;rw [h]
 have hlentA:∀q n,look lend q=some n→∃x y,look pre q=some x∧A.obj n=some y∧OLe y (x.ren r):=fun q n hn=>by
  obtain ⟨x,hx⟩:=hok.only q n hn
  obtain ⟨n',y,hn',hy,hle,_⟩:=hok.lent q x hx
  rw [hn] at hn';cases hn'
  exact ⟨x,y,hx,hy,hr▸hle⟩
 -- an old object that is named like one of the callee's was lent
 have hold:∀n y q x',A.obj n=some y→look obs q=some x' → n=r q→look lend q=some n:=fun n y q x' hn hq e=>by
  cases hl':look lend q with
  |some n'=>rw [e,rlent q n' hl']
  |none=>
   have h1:=hback.2 q x' hq hl'
   rw [e,rnew q hl',h1] at hn;cases hn
 have hlentBlk:∀n y k,A.obj n=some y→(∀q x',look obs q=some x' → n≠r q)→blk (ι n)=some k→¬lentB ι lend pre k:=by
  rintro n y k hn hno hk ⟨q,n',x,hx,hn',hk'⟩
  obtain ⟨x',hx',_⟩:=hback.1 q x hx
  have hne:n≠n':=fun e=>hno q x' hx' (by rw [rlent q n' hn',e])
  obtain ⟨_,y',_,hy',_⟩:=hlentA q n' hn'
  exact hR.dis n n' y y' k hn hy' hne hk hk'
 have hget:∀ {q x},look obs q=some x→look (obs.map (fun p=>(r p.1,p.2.ren r))++A.ob) (r q)=some (x.ren r):=fun hq=>look_ren_new _ hq fun q' x' hq' e=>hinj _ _ _ _ hq hq' e
 have hsame:∀q n x x',look pre q=some x→look obs q=some x' → look lend q=some n→Same1 x x' (ι' q) (ι n):=fun q n x x' hx hx' hn=>by
  have:=hp.same q x x' hx hx'
  rw [rlent q n hn] at this
  exact this
 have hm:Mv S ι A.obj w S' (joinV r obs ι ι') (look (obs.map (fun p=>(r p.1,p.2.ren r))++A.ob)) w':={
  d:=fun _ _ h=>h.mono (fun b o h=>(hc b o h).1) fun b o h=>(hc b o h).2
  s:=fun b o h=>hc b o h
  c:=fun n ls h=>by
   by_cases hex:∃q x',look obs q=some x' ∧ n=r q
   ·obtain ⟨q,x',hq,e⟩:=hex
    have hn:=hold n _ q x' h hq e
    obtain ⟨x,y,hx,hy,hle⟩:=hlentA q n hn
    rw [h] at hy;cases hy
    cases x with
    |cells ls0=>
     obtain ⟨x'',hx'',ls',rfl⟩:=hback.1 q _ hx
     rw [hq] at hx'';cases hx''
     subst e
     exact ⟨⟨_,hget hq⟩,by rw [joinV_new hinj hq];exact hsame q _ _ _ hx hq hn⟩
    |arr _ _ _=>simp [AO.ren,OLe] at hle
    |clo _ _=>simp [AO.ren,OLe] at hle
    |yl=>simp [AO.ren,OLe] at hle
    |map _=>simp [AO.ren,OLe] at hle
    |mth _ _=>simp [AO.ren,OLe] at hle
    |pin _ _=>simp [AO.ren,OLe] at hle
    |iter _ _ _ _=>simp [AO.ren,OLe] at hle
    |sit _ _=>simp [AO.ren,OLe] at hle
    |byt _ _ _=>simp [AO.ren,OLe] at hle
   ·have hno:∀q x,look obs q=some x→n≠r q:=fun q x hq e=>hex ⟨q,x,hq,e⟩
    exact ⟨⟨ls,(look_ren_old _ hno).trans h⟩,joinV_old hno⟩
  a:=fun n e k es h=>by
   by_cases hex:∃q x',look obs q=some x' ∧ n=r q
   ·obtain ⟨q,x',hq,eq⟩:=hex
    have hn:=hold n _ q x' h hq eq
    obtain ⟨x,y,hx,hy,hle⟩:=hlentA q n hn
    rw [h] at hy;cases hy
    cases x with
    |arr e' k' es0=>
     simp only [AO.ren,OLe,AO.arr.injEq] at hle
     obtain ⟨rfl,rfl,rfl⟩:=hle
     obtain ⟨x'',hx'',es',rfl,hlen⟩:=hback.1 q _ hx
     rw [hq] at hx'';cases hx''
     subst eq
     exact ⟨es',hget hq,hlen,fun he=>by rw [joinV_new hinj hq];exact (hsame q _ _ _ hx hq hn).2 he⟩
    |cells _=>simp [AO.ren,OLe] at hle
    |clo _ _=>simp [AO.ren,OLe] at hle
    |yl=>simp [AO.ren,OLe] at hle
    |map _=>simp [AO.ren,OLe] at hle
    |mth _ _=>simp [AO.ren,OLe] at hle
    |pin _ _=>simp [AO.ren,OLe] at hle
    |iter _ _ _ _=>simp [AO.ren,OLe] at hle
    |sit _ _=>simp [AO.ren,OLe] at hle
    |byt _ _ _=>simp [AO.ren,OLe] at hle
   ·have hno:∀q x,look obs q=some x→n≠r q:=fun q x hq e=>hex ⟨q,x,hq,e⟩
    exact ⟨es,(look_ren_old _ hno).trans h,Nat.le_refl _,fun _=>joinV_old hno⟩
  w:=fun n y h hy=>by
   by_cases hex:∃q x',look obs q=some x' ∧ n=r q
   ·obtain ⟨q,x',hq,eq⟩:=hex
    have hn:=hold n _ q x' h hq eq
    obtain ⟨x,y',hx,hy',hle⟩:=hlentA q n hn
    rw [h] at hy';cases hy'
    obtain ⟨x'',hx'',hb⟩:=hback.1 q _ hx
    rw [hq] at hx'';cases hx''
    have hs:=hsame q _ _ _ hx hq hn
    subst eq
    cases x with
    |cells _=>obtain ⟨_,rfl,_⟩:=hle;simp [AO.whole] at hy
    |arr _ _ _=>simp only [AO.ren,OLe] at hle;subst hle;simp [AO.whole] at hy
    |_=>
     simp only [Back] at hb
     exact ⟨⟨_,hget hq,by cases x' <;> first|rfl|simp [AO.whole] at hb⟩,by rw [joinV_new hinj hq];cases x' <;> first|exact hs|simp [AO.whole] at hb⟩
   ·have hno:∀q x,look obs q=some x→n≠r q:=fun q x hq e=>hex ⟨q,x,hq,e⟩
    exact ⟨⟨y,(look_ren_old _ hno).trans h,hy⟩,joinV_old hno⟩ }
 have hfar:∀k,M k→¬lentB ι lend pre k→¬M' k:=fun k h1 h2 h3=>by
  rcases hM k h3 with h|h
  ·exact h2 h
  ·have:=hR.minn k h1;omega
 have hstay:∀r' y,M r' → w.heap[r']? = some y→isData y=false→w'.heap[r']? = some y:=fun r' y h1 h2 h3=>by
  refine (hk r' h1 ?_).trans h2
  rintro ⟨q,n,x,hx,hn,hb⟩
  obtain ⟨_,y',_,hy',_⟩:=hlentA q n hn
  obtain ⟨_,_,z,hz,hdz⟩:=(hR.objs n y' hy').blk_ge hb
  rw [h2] at hz;cases hz;rw [h3] at hdz;cases hdz
 let A':ASt:=⟨A.tm,obs.map (fun p=>(r p.1,p.2.ren r))++A.ob,b'⟩
 have main:RelC C S' (fun k=>M k∨M' k) (joinV r obs ι ι') A' a w':={
  sub:=fun b o h=>(hc b o (hR.sub b o h)).1
  new:=fun b o h=>by
   rcases hp.new b o h with h|h
   ·exact (hR.new b o h).imp id .inl
   ·exact .inr (.inr h)
  inn:=hp.inn
  minn:=fun k hk=>hk.elim (fun h=>Nat.lt_of_lt_of_le (hR.minn k h) hsz) (hp.minn k)
  sz:=hR.sz
  tms:=fun s=>hm.v (hR.tms s)
  objs:=by
   intro n y hn
   rcases look_ren_inv A.ob hinj hn with ⟨q,x,rfl,hq,rfl⟩|⟨hno,hn'⟩
   ·refine objOK_ren (fun q x h=>joinV_new hinj h) (fun q x h=>hget h) (fun ls e=>?_) hq (hp.objs q x hq)
    subst e
    cases hlq:look lend q with
    |none=>rw [rnew q hlq,show (B+q)%1000=q%1000 by omega]
    |some n=>
     rw [rlent q n hlq]
     obtain ⟨x0,hx0⟩:=hok.only q n hlq
     obtain ⟨x1,hx1,hb⟩:=(hok.back res obs hl).1 q x0 hx0
     rw [hq] at hx1;cases hx1
     cases x0 with
     |cells ls0=>exact hok.tag q n ls0 hlq hx0
     |arr e k es=>obtain ⟨_,h,_⟩:=hb;cases h
     |_=>simp [Back,AO.whole] at hb
   ·refine (hR.objs n y hn').other hm (joinV_old hno) (fun k hk'=>?_) fun k off hk' hs=>?_
    ·exact hk k (hR.own n y k hn' hk') (hlentBlk n y k hn' hno hk')
    ·rcases hp.new k off hs with h|h
     ·exact h
     ·exact absurd h (hfar k (hR.own n y k hn' hk') (hlentBlk n y k hn' hno hk'))
  dis:=by
   intro n n' y y' k hn hn' hne hb
   have far:∀n y q x,A.obj n=some y→(∀q x',look obs q=some x' → n≠r q)→blk (ι n)=some k→look obs q=some x→blk (ι' q)=some k→False:=fun n y q x h1 h2 h3 h4 h5=>
    hfar k (hR.own n y k h1 h3) (hlentBlk n y k h1 h2 h3) (hp.own q x k h4 h5)
   rcases look_ren_inv A.ob hinj hn with ⟨q,x,rfl,hq,rfl⟩|⟨hno,hn1⟩<;>rcases look_ren_inv A.ob hinj hn' with ⟨q',x',rfl,hq',rfl⟩|⟨hno',hn1'⟩
   ·rw [joinV_new hinj hq] at hb
    rw [joinV_new hinj hq']
    exact hp.dis q q' x x' k hq hq' (fun e=>hne (by rw [e])) hb
   ·rw [joinV_new hinj hq] at hb
    rw [joinV_old hno']
    exact fun hb'=>far n' y' q x hn1' hno' hb' hq hb
   ·rw [joinV_old hno] at hb
    rw [joinV_new hinj hq']
    exact fun hb'=>far n y q' x' hn1 hno hb hq' hb'
   ·rw [joinV_old hno] at hb
    rw [joinV_old hno']
    exact hR.dis n n' y y' k hn1 hn1' hne hb
  own:=by
   intro n y k hn hb
   rcases look_ren_inv A.ob hinj hn with ⟨q,x,rfl,hq,rfl⟩|⟨hno,hn1⟩
   ·rw [joinV_new hinj hq] at hb;exact .inr (hp.own q x k hq hb)
   ·rw [joinV_old hno] at hb;exact .inl (hR.own n y k hn1 hb)
  env:=hE
  tok:=by
   intro n hn
   rcases look_ren_inv A.ob hinj hn with ⟨q,x,rfl,hq,hx⟩|⟨hno,hn1⟩
   ·rw [joinV_new hinj hq]
    exact hp.tok q (by cases x<;>first|exact hq|cases hx)
   ·rw [joinV_old hno];exact hR.tok n hn1
  fixed:=hR.fixed
  marks:=by
   obtain ⟨rs,h1,h2,h3⟩:=hR.marks
   exact ⟨rs,h1,h2,fun r' hr'=>⟨.inl (h3 r' hr').1,hstay r' _ (h3 r' hr').1 (h3 r' hr').2 rfl⟩⟩
  rdok:=fun l r' hl'=>⟨.inl (hR.rdok l r' hl').1,hstay l _ (hR.rdok l r' hl').1 (hR.rdok l r' hl').2 rfl⟩
  pinned:=by
   intro n u k y hpin hn
   rcases look_ren_inv A.ob hinj hn with ⟨q,x',rfl,hq,rfl⟩|⟨hno,hn1⟩
   ·rw [joinV_new hinj hq]
    cases hlq:look lend q with
    |none=>
     have hN:=hR.pinN (r q) (by rw [hpin];simp)
     rw [rnew q hlq] at hN
     omega
    |some n'=>
     obtain ⟨x,y',hx,hy',hle⟩:=hlentA q n' hlq
     obtain ⟨x'',hx'',hb⟩:=hback.1 q x hx
     rw [hq] at hx'';cases hx''
     have hs:=hsame q _ _ _ hx hq hlq
     rw [rlent q n' hlq] at hpin
     have hz:=hR.pinned n' u k y' hpin hy'
     cases x with
     |cells ls0=>
      obtain ⟨ls',rfl⟩:=hb
      obtain ⟨_,rfl,_⟩:=hle
      exact hs.trans hz
     |arr e k0 es=>
      obtain ⟨es',rfl,hlen⟩:=hb
      simp only [AO.ren,OLe] at hle
      subst hle
      simp only [AO.pinned,AO.ren] at hz ⊢
      exact ⟨by omega,fun he=>by rw [hs.2 (by omega)];exact hz.2 (by omega)⟩
     |clo f ls0=>
      obtain ⟨_,rfl,_⟩:=hle
      simp only [Back] at hb
      have hz:ι n'=u:=hz
      cases x' <;> first|exact hs.trans hz|simp [AO.whole] at hb
     |yl=>
      simp only [AO.ren,OLe] at hle;subst hle
      simp only [Back] at hb
      have hz:ι n'=u:=hz
      cases x' <;> first|exact hs.trans hz|simp [AO.whole] at hb
     |map es=>
      simp only [AO.ren,OLe] at hle;subst hle
      simp only [Back] at hb
      have hz:ι n'=u:=hz
      cases x' <;> first|exact hs.trans hz|simp [AO.whole] at hb
     |mth f ls=>
      simp only [AO.ren,OLe] at hle;subst hle
      simp only [Back] at hb
      have hz:ι n'=u:=hz
      cases x' <;> first|exact hs.trans hz|simp [AO.whole] at hb
     |pin v l=>
      simp only [AO.ren,OLe] at hle;subst hle
      simp only [Back] at hb
      have hz:ι n'=u:=hz
      cases x' <;> first|exact hs.trans hz|simp [AO.whole] at hb
     |iter ls n sn c=>
      simp only [AO.ren,OLe] at hle;subst hle
      simp only [Back] at hb
      have hz:ι n'=u:=hz
      cases x' <;> first|exact hs.trans hz|simp [AO.whole] at hb
     |sit s p=>
      simp only [AO.ren,OLe] at hle;subst hle
      simp only [Back] at hb
      have hz:ι n'=u:=hz
      cases x' <;> first|exact hs.trans hz|simp [AO.whole] at hb
     |byt b c l=>
      simp only [AO.ren,OLe] at hle;subst hle
      simp only [Back] at hb
      have hz:ι n'=u:=hz
      cases x' <;> first|exact hs.trans hz|simp [AO.whole] at hb
   ·rw [joinV_old hno]
    exact hR.pinned n u k y hpin hn1
  pinN:=hR.pinN }
 have hres:RepV S' (joinV r obs ι ι') A'.obj w' (res.ren r) v:=repV_ren (H':=A'.obj) (fun q x h=>joinV_new hinj h) (fun q x h=>hget h) hp.res
 exact ⟨S',_,_,main.slot hd hres⟩
theorem snd_callX (hR:RelC C S M ι A a w)(hd:∀d,o.dst=some d→C.can d){g:FuncId}{avs args:List AV}{us:List Value}{lend:List (Nat × Nat)}{pre:List (Nat × AO)}{b:Beh}{κ:AV→List (Nat × AO)→Beh}
  (hdst:o.dst=some d) (hexec:(execOp a.eval o).run P w=.ok (.enter g us.toArray) w) (h3:All2 (RepV S ι A.obj w) avs us) (hwk:All2 (WkR (rn lend (1000*(d+1))) (nms pre)) avs args)
  (hcon:Con P g args pre b) (hok:CallOK A (1000*(d+1)) lend pre b) (hbh:A.bh=b.bind κ) (Q:Exit→Act→World→Prop) :
  o.wpIn (fen C) 0 P a w (fun a' w'=>∃res obs,b.Leaf res obs∧Rel C (after A d (rn lend (1000*(d+1))) res obs (κ res obs)) a' w') Q:=by
 refine wp_run hexec V209 ?_
 rw [Oper.uponIn_enter]
 refine ⟨fen_isSome C,callsIn_fen C ?_⟩
 have hH:=hok.obj
 have hargs:All2 (RepV S (fun q=>ι (rn lend (1000*(d+1)) q)) (look pre) w) args us:=by
  clear hcon hexec
  induction args generalizing avs us with
  |nil=>cases avs with
   |nil=>cases us with
    |nil=>trivial
    |cons _ _=>exact h3.elim
   |cons _ _=>exact hwk.elim
  |cons y ys ih=>cases avs with
   |nil=>exact hwk.elim
   |cons x xs=>cases us with
    |nil=>exact h3.elim
    |cons v vs=>exact ⟨repV_un hH hwk.1.1 (hwk.1.2 S ι A.obj w v h3.1),ih h3.2 hwk.2⟩
 have rlent:∀q n,look lend q=some n→rn lend (1000*(d+1)) q=n:=fun q n h=>by unfold rn;rw [h]
 have hb2:∀k,lentB ι lend pre k→M k:=by
  rintro k ⟨q,n,x,hx,hn,hb⟩
  obtain ⟨n',y,hn',hy,_⟩:=hok.lent q x hx
  rw [hn] at hn';cases hn'
  exact hR.own n y k hy hb
 have hcall:=hcon (C.E.frame (·.bind κ) (bind_yld κ) S M (lentB ι lend pre) w hR.minn) S (lentB ι lend pre) (fun q=>ι (rn lend (1000*(d+1)) q)) w _ hR.inn (fun k hk=>hR.minn k (hb2 k hk)) ?_ ?_ ?_ ?_ hargs ?_
 ·refine hcall.mono fun e w' he=>?_
  obtain ⟨v,res,obs,S',M',ι',rfl,hl,⟨hJ,hk,hM,hsz,hc,_⟩,hp⟩:=he
  refine ⟨res,obs,hl,?_⟩
  rw [hdst]
  exact hR.called hok hl (hd d hdst) hp hJ hk hM hsz hc
 ·intro q x hx
  obtain ⟨n,y,hn,hy,hle,hin⟩:=hok.lent q x hx
  have hy':A.obj (rn lend (1000*(d+1)) q)=some y:=by rw [rlent q n hn];exact hy
  exact objOK_un hH (fun ls e t ht=>by subst e;rw [rlent q n hn,hok.tag q n ls hn hx];exact ht) hle hin (hR.objs _ y hy')
 ·intro q q' x x' k hx hx' hne hb
  obtain ⟨n,y,hn,hy,_⟩:=hok.lent q x hx
  obtain ⟨n',y',hn',hy',_⟩:=hok.lent q' x' hx'
  simp only [rlent q n hn] at hb
  simp only [rlent q' n' hn']
  exact hR.dis n n' y y' k hy hy' (fun e=>hne (hok.inj q q' n hn (e▸hn'))) hb
 ·intro q x k hx hb
  obtain ⟨n,y,hn,hy,_⟩:=hok.lent q x hx
  simp only [rlent q n hn] at hb
  exact ⟨q,n,x,hx,hn,hb⟩
 ·intro q hx
  obtain ⟨n,y,hn,hy,hle,_⟩:=hok.lent q _ hx
  simp only [AO.ren,OLe] at hle
  subst hle
  simp only [rlent q n hn]
  exact hR.tok n hy
 ·refine ⟨?_,fun _ _ _=>rfl,fun k hk=>.inl hk,Nat.le_refl _,fun b o h=>⟨h,rfl⟩,rfl,rfl,rfl⟩
  show C.E.J (b.bind κ) S _ w
  rw [←hbh]
  exact C.E.J_eqv hR.env (fun k hk=>.inl hk) (fun k hk=>hk.elim id (hb2 k)) (fun _ _ h=>h) fun _ _ h=>.inl h
def methOf (P:Program)(t:TypeId)(name:String):Option FuncId:=match P.info? t with
 |some i=>match i.methods.find? (·.name==name) with
  |some m=>match m.path.toList,m.func with
   |[],some (f,ptr)=>match P.underlying t with
    |some (.pointer _)=>if ptr=true then some f else none
    |some _=>if ptr=false then some f else none
    |none=>none
   |_,_=>none
  |none=>none
 |none=>none
theorem run_method {t:TypeId}{v:Value}{name:String}{f:FuncId}(h:methOf P t name=some f)(n:Nat):(method (n+1) t v name).run P w=.ok (f,v) w:=by
 unfold methOf at h
 cases hi:P.info? t with
 |none=>simp [hi] at h
 |some i=>
 cases hm:i.methods.find? (·.name==name) with
 |none=>simp [hi,hm] at h
 |some m=>
 simp only [hi,hm] at h
 split at h
 case h_2=>cases h
 rename_i f' ptr hp hf
 have hp':m.path=#[]:=by apply Array.ext';simpa using hp
 cases hu:P.underlying t with
 |none=>simp [hu] at h
 |some ds=>
 cases ds<;>simp only [hu] at h<;>split at h<;>(try cases h)<;>rename_i hq<;>subst hq <;>
  simp [method,typeInfo,hi,hm,hp',hf,follow,receiverAt,run_underlying hu,Place.get]
theorem snd_inv (hR : RelC C S M ι A a w) (hd : ∀ d, o.dst = some d → C.can d) {cargs : Array Operand} {cty : Array TypeId} {recv : Operand} {name : String} {t : TypeId} {ag : Bool} {ds : List D} {g : FuncId} {args : List AV} {lend : List (Nat × Nat)} {pre : List (Nat × AO)} {b : Beh} {κ : AV → List (Nat × AO) → Beh}
    (hdst:o.dst=some d) (hop:o.op=.call { callee:=.invoke recv name,args:=cargs,argTypes:=cty }) (hf:A.ev recv=.leaf (.d (.ifc t ag ds))) (hmeth:methOf P t name=some g) (hcan:canCall P g=true)
    (hwk:All2 (WkR (rn lend (1000*(d+1))) (nms pre)) (.val ag (ds.map .d)::cargs.toList.map A.ev) args)
    (hcon:Con P g args pre b) (hok:CallOK A (1000*(d+1)) lend pre b) (hbh:A.bh=b.bind κ) (Q:Exit→Act→World→Prop) :
    o.wpIn (fen C) 0 P a w (fun a' w'=>∃res obs,b.Leaf res obs∧Rel C (after A d (rn lend (1000*(d+1))) res obs (κ res obs)) a' w') Q:=by
  have hx:=rep_ev hR recv
  rw [hf] at hx
  have hx:=rep_leaf hx
  have hval : ∃ v, a.eval recv = .iface t v ∧ RepC S ι A.obj w ag (ds.map .d) v := by
    generalize a.eval recv=y at hx
    cases hx with
    |ifc _ d' v hr=>exact ⟨v,rfl,_,rfl,hr⟩
    |ifa _ _ vals hl hr=>exact ⟨_,rfl,vals,rfl,all2_map (R:=RepD S w) (R':=RepL S ι A.obj w) (f:=AL.d) (fun _ _ h=>h) (All2.ofGet hl.symm fun i a b h1 h2=>hr i a b h1 h2)⟩
  obtain ⟨v,hv,hrv⟩:=hval
  refine snd_callX (avs:=.val ag (ds.map .d)::cargs.toList.map A.ev) (us:=v::cargs.toList.map a.eval) hR hd hdst ?_ ⟨hrv,rep_evs hR cargs.toList⟩ hwk hcon hok hbh Q
  have hme : ∀ n, (method (n + Made.depth) t v name).run P w = .ok (g, v) w := fun n => by
    rw [show n + Made.depth = (n + Made.depth - 1) + 1 from by have : 0 < Made.depth := by decide
                                                               omega]
    exact run_method hmeth _
  have e1:#[v]++cargs.map a.eval=(v::cargs.toList.map a.eval).toArray:=by apply Array.ext';simp
  have e2:(#[Value.iface t v]++cargs.map a.eval)[0]? = some (.iface t v):=by rw [Array.getElem?_append_left (by simp)];rfl
  have e3:(cargs.map a.eval).extract 0 cargs.size=cargs.map a.eval:=by simp
  have hcm : (callMethod (.iface t v) name (cargs.map a.eval)).run P w = .ok (.enter g (#[v] ++ cargs.map a.eval)) w := by
    simp [callMethod,hme,run_callFunc hcan]
  rw [←e1]
  simp only [execOp,hop,resolve,hv,invoke,e2,Sem.run_bind,Sem.run_pure,Result.andThen_ok]
  simpa [e3] using hcm
theorem snd_callG (hR:RelC C S M ι A a w)(hd:∀d,o.dst=some d→C.can d){f:Operand}{as:List Operand}{g:FuncId}{caps:List AL}{args:List AV}{lend:List (Nat × Nat)}{pre:List (Nat × AO)}{b:Beh}{κ:AV→List (Nat × AO)→Beh}
  (hdst:o.dst=some d) (hop:opCall o.op=some (f,as)) (hf:FnOf A (A.ev f) g caps) (hcan:canCall P g=true) (hwk:All2 (WkR (rn lend (1000*(d+1))) (nms pre)) (as.map A.ev++caps.map .leaf) args)
  (hcon:Con P g args pre b) (hok:CallOK A (1000*(d+1)) lend pre b) (hbh:A.bh=b.bind κ) (Q:Exit→Act→World→Prop) :
  o.wpIn (fen C) 0 P a w (fun a' w'=>∃res obs,b.Leaf res obs∧Rel C (after A d (rn lend (1000*(d+1))) res obs (κ res obs)) a' w') Q:=by
 obtain ⟨us,hfv,hus⟩:=hf.rep hR (rep_ev hR f)
 cases hop':o.op<;>rw [hop'] at hop<;>try (simp [opCall] at hop;done)
 rename_i c
 obtain ⟨callee,cargs,cty⟩:=c
 cases callee<;>simp only [opCall,reduceCtorEq,Option.some.injEq,Prod.mk.injEq] at hop
 rename_i f'
 obtain ⟨rfl,rfl⟩:=hop
 have hexec:(execOp a.eval o).run P w=.ok (.enter g (cargs.map a.eval++us.toArray)) w:=by
  simp [execOp,hop',resolve,hfv,Deferred.ofValue,invoke,run_callFunc hcan]
 have e1:cargs.map a.eval++us.toArray=(cargs.toList.map a.eval++us).toArray:=by apply Array.ext';simp
 have h1:=rep_evs hR cargs.toList
 have h2:All2 (RepV S ι A.obj w) (caps.map AV.leaf) us:=all2_map (R:=RepL S ι A.obj w) AV.leaf (fun _ _ h=>leaf_rep h) hus
 exact snd_callX hR hd hdst (by rw [←e1];exact hexec) (h1.append h2) hwk hcon hok hbh Q
def StpCall (P:Program)(o:Oper)(A:ASt)(ws:List Wr):Prop:=
 ∃(d:Nat) (f:Operand) (as:List Operand) (g:FuncId) (ds:List D) (args:List AV) (res:AV) (obs:List (Nat × AO)),
  o.dst=some d∧opCall o.op=some (f,as)∧A.ev f=.leaf (.d (.fn g ds))∧canCall P g=true ∧
  All2 (WkR (rn [] (1000*(d+1))) []) (as.map A.ev++ds.map fun x=>.leaf (.d x)) args∧Contract P g args res obs ∧
  (∀q x,look obs q=some x→A.obj (1000*(d+1)+q)=none) ∧
  ws=obs.reverse.map (fun p=>.obj (1000*(d+1)+p.1) (p.2.ren (1000*(d+1) + ·)))++[.slot d (res.ren (1000*(d+1) + ·))]
theorem put_append (A:ASt)(xs ys:List Wr):A.put (xs++ys)=(A.put xs).put ys:=by
 induction xs generalizing A with
 |nil=>rfl
 |cons x xs ih=>exact ih _
theorem put_obs (A:ASt)(r:Nat→Nat):∀(obs:List (Nat × AO)),A.put (obs.reverse.map fun p=>.obj (r p.1) (p.2.ren r))=⟨A.tm,obs.map (fun p=>(r p.1,p.2.ren r))++A.ob,A.bh⟩
 |[]=>rfl
 |p::obs=>by
  have ih:=put_obs A r obs
  rw [List.reverse_cons,List.map_append,put_append,ih]
  rfl
theorem rn_nil (B:Nat):rn [] B=(B + ·):=rfl
theorem snd_call (hR:RelC C S M ι A a w)(hd:∀d,o.dst=some d→C.can d){ws:List Wr}(h:StpCall P o A ws)(Q:Exit→Act→World→Prop):o.wpIn (fen C) 0 P a w (fun a' w'=>Rel C (A.put ws) a' w') Q:=by
 obtain ⟨d,f,as,g,ds,args,res,obs,hdst,hop,hf,hcan,hwk,hcon,hfr,rfl⟩:=h
 have hlk:∀q n,¬look ([]:List (Nat × Nat)) q=some n:=fun q n h=>by simp [look] at h
 have hlk':∀q x,¬look ([]:List (Nat × AO)) q=some x:=fun q x h=>by simp [look] at h
 refine Oper.wpIn_mono (fun a' w' h=>?_) (snd_callG (d:=d) (κ:=fun _ _=>A.bh) (lend:=[]) (caps:=ds.map .d) hR hd hdst hop (.inl ⟨ds,hf,rfl⟩) hcan (by rw [List.map_map];exact hwk) hcon
  ⟨fun q x h=>(hlk' q x h).elim,fun q n h=>(hlk q n h).elim,fun q q' n h=>(hlk q n h).elim,fun q n ls h=>(hlk q n h).elim,fun res' obs' hl=>⟨fun q x h=>(hlk' q x h).elim,fun q x' hx' _=>by obtain ⟨rfl,rfl⟩:=hl.inv;exact hfr q x' hx'⟩⟩ rfl Q)
 obtain ⟨res',obs',hl,h⟩:=h
 obtain ⟨rfl,rfl⟩:=hl.inv
 rw [rn_nil] at h
 rw [put_append,put_obs A (1000*(d+1) + ·)]
 exact h
end call
end Go.Mw
namespace Go.Mw
open Go.RowKit
def opLocs:List Operand→List Loc
 |[]=>[]
 |.tmp t::r=>.slot t::opLocs r
 |_::r=>opLocs r
def wLocs:List Wr→List Loc
 |[]=>[]
 |.slot s _::r=>.slot s::wLocs r
 |.obj o _::r=>.obj o::wLocs r
def StpCallF (P:Program)(o:Oper)(A:ASt)(rs:List Loc)(ws:List Wr):Prop:=
 ∃(d:Nat) (f:Operand) (as:List Operand) (g:FuncId) (ds:List D) (args:List AV) (res:AV) (obs:List (Nat × AO)),
  o.dst=some d∧opCall o.op=some (f,as)∧A.ev f=.leaf (.d (.fn g ds))∧canCall P g=true ∧
  All2 (WkR (rn [] (1000*(d+1))) []) (as.map A.ev++ds.map fun x=>.leaf (.d x)) args∧Contract P g args res obs ∧
  (∀q x,look obs q=some x→A.obj (1000*(d+1)+q)=none) ∧
  ws=obs.reverse.map (fun p=>.obj (1000*(d+1)+p.1) (p.2.ren (1000*(d+1) + ·)))++[.slot d (res.ren (1000*(d+1) + ·))] ∧
  rs=opLocs (f::as)++obs.map fun p=>.obj (1000*(d+1)+p.1)
theorem StpCallF.plain {P:Program}{o:Oper}{A:ASt}{rs:List Loc}{ws:List Wr}(h:StpCallF P o A rs ws):StpCall P o A ws:=by
 obtain ⟨d,f,as,g,ds,args,res,obs,h1,h2,h3,h4,h5,h6,h7,h8,_⟩:=h
 exact ⟨d,f,as,g,ds,args,res,obs,h1,h2,h3,h4,h5,h6,h7,h8⟩
theorem pures_ren {ns:List Nat}{r:Nat→Nat}:∀ {ls:List AL},(pures ls).isSome=true→ls.map (AL.ren r)=ls∧ls.all (AL.inn ns)=true
 |[],_=>⟨rfl,rfl⟩
 |.d x::ls,hp=>by
  have hq:(pures ls).isSome=true:=by
   simp only [pures] at hp
   cases hq:pures ls<;>simp_all
  obtain ⟨h1,h2⟩:=pures_ren (ns:=ns) (r:=r) hq
  exact ⟨by simp [AL.ren,h1],by rw [List.all_cons,h2];rfl⟩
 |.ptr _ _::_,hp=>by simp [pures] at hp
 |.eptr _ _ _ _::_,hp=>by simp [pures] at hp
 |.own _ _ _ _::_,hp=>by simp [pures] at hp
 |.obj _::_,hp=>by simp [pures] at hp
 |.fpt _::_,hp=>by simp [pures] at hp
 |.csl _ _ _::_,hp=>by simp [pures] at hp
 |.dead::_,hp=>by simp [pures] at hp
def AO.flat:AO→Bool
 |.arr _ _ _=>true
 |.map es=>es.all fun p=>(pures p.2.2).isSome
 |_=>false
theorem AO.flat_ok {x:AO}(h:x.flat=true)(r:Nat→Nat)(ns:List Nat):x.ren r=x∧x.inn ns=true∧Back x x:=by
 cases x with
 |arr e k es=>exact ⟨rfl,rfl,es,rfl,Nat.le_refl _⟩
 |map es=>
  have h:es.all (fun p=>(pures p.2.2).isSome)=true:=h
  rw [List.all_eq_true] at h
  refine ⟨?_,?_,rfl⟩
  ·show AO.map (es.map fun p=>(p.1,p.2.1,p.2.2.map (·.ren r)))=_
   congr 1
   rw [List.map_congr_left (g:=id) fun p hp=>by rw [(pures_ren (ns:=ns) (r:=r) (h p hp)).1];rfl]
   simp
  ·show es.all (fun p=>p.2.2.all (AL.inn ns))=true
   exact List.all_eq_true.2 fun p hp=>(pures_ren (ns:=ns) (r:=r) (h p hp)).2
 |_=>simp [AO.flat] at h
def StpLend (P:Program)(o:Oper)(A:ASt)(rs:List Loc)(ws:List Wr):Prop:=
 ∃(d:Nat) (f:Operand) (as:List Operand) (g:FuncId) (ds:List D) (args:List AV) (res:AV) (q n:Nat) (x:AO),
  o.dst=some d∧opCall o.op=some (f,as)∧A.ev f=.leaf (.d (.fn g ds))∧canCall P g=true ∧
  All2 (WkR (rn [(q,n)] (1000*(d+1))) [q]) (as.map A.ev++ds.map fun x=>.leaf (.d x)) args∧Con P g args [(q,x)] (.ret res [(q,x)]) ∧
  (A.obj n=some x∧x.flat=true)∧ws=[.obj n x,.slot d (res.ren (rn [(q,n)] (1000*(d+1))))]∧rs=opLocs (f::as)++[.obj n]
theorem callOK_one {A:ASt}{B q n:Nat}{x:AO}{res:AV}(hob:A.obj n=some x)(hfl:x.flat=true):CallOK A B [(q,n)] [(q,x)] (.ret res [(q,x)]):=by
 have hl:∀p y,look [(q,x)] p=some y→p=q∧y=x:=fun p y h=>by
  by_cases e:p=q
  ·subst e;simp [look] at h;exact ⟨rfl,h.symm⟩
  ·simp [look,e] at h
 have hl2:∀p m,look [(q,n)] p=some m→p=q∧m=n:=fun p m h=>by
  by_cases e:p=q
  ·subst e;simp [look] at h;exact ⟨rfl,h.symm⟩
  ·simp [look,e] at h
 refine ⟨fun p y h=>?_,fun p m h=>?_,fun p p' m h h'=>(hl2 p m h).1.trans (hl2 p' m h').1.symm,fun p m ls h h'=>?_,fun res' obs' hlf=>?_⟩
 ·obtain ⟨rfl,rfl⟩:=hl p y h
  obtain ⟨h1,h2,_⟩:=AO.flat_ok hfl (rn [(p,n)] B) (nms [(p,y)])
  exact ⟨n,y,by simp [look],hob,by rw [h1];exact OLe.refl y,h2⟩
 ·obtain ⟨rfl,rfl⟩:=hl2 p m h
  exact ⟨_,by simp [look];rfl⟩
 ·obtain ⟨_,rfl⟩:=hl p _ h'
  cases hfl
 ·obtain ⟨rfl,rfl⟩:=hlf.inv
  refine ⟨fun p y h=>?_,fun p y h h2=>?_⟩
  ·obtain ⟨rfl,rfl⟩:=hl p y h
   exact ⟨y,by simp [look],(AO.flat_ok hfl id []).2.2⟩
  ·by_cases e:p=q
   ·subst e;simp [look] at h2
   ·simp [look,e] at h
def agree (A A':ASt):Loc→Prop
 |.slot s=>A'.get s=A.get s
 |.obj o=>A'.obj o=A.obj o
theorem agree_trans {A B C:ASt}{l:Loc}(h:Mw.agree A B l)(h':Mw.agree B C l):Mw.agree A C l:=by cases l<;>exact Eq.trans h' h
inductive StpF (P:Program) (ops:Array Oper) (o:Oper) (A:ASt):List Loc→List Wr→Prop
 |eff (rs:List Loc) (ws:List Wr) (hw:wantedA ops o.guard A=some true) (h:(effOp P o.op o.dst).run A (guardLoc ops o)=some (rs,ws)):StpF P ops o A rs ws
 |call (rs:List Loc) (ws:List Wr) (hw:wantedA ops o.guard A=some true) (h:StpCallF P o A rs ws):StpF P ops o A (guardLoc ops o++rs) ws
 |skip (hw:wantedA ops o.guard A=some false):StpF P ops o A (guardLoc ops o) (skipWs o)
 |geff (rs:List Loc) (b:Bool) (d:Nat) (v:AV) (ho:o.dst=some d) (hw:wantedA ops o.guard A=some b) (h:(effOp P o.op o.dst).run (A.strip b) (guardLoc ops o)=some (rs,[.slot d v])):StpF P ops o A rs [.slot d (.cnd b v)]
 |gcall (rs:List Loc) (b:Bool) (d:Nat) (v:AV) (ho:o.dst=some d) (hw:wantedA ops o.guard A=some b) (h:StpCallF P o (A.strip b) rs [.slot d v]):StpF P ops o A (guardLoc ops o++rs) [.slot d (.cnd b v)]
 |lend (rs:List Loc) (ws:List Wr) (hw:wantedA ops o.guard A=some true) (h:StpLend P o A rs ws):StpF P ops o A (guardLoc ops o++rs) ws
 |wk (rs:List Loc) (ws0 ws:List Wr) (hw:wantedA ops o.guard A=some true) (h:(effOp P o.op o.dst).run A (guardLoc ops o)=some (rs,ws0))
   (hg:∀A',(∀l∈rs,Mw.agree A A' l)→∀(C:Ctx P) (a:Act) (w:World) (a':Act) (w':World),Rel C A' a w→Rel C (A'.put ws0) a' w' → Rel C (A'.put ws) a' w'):StpF P ops o A rs ws
 |sem (rs:List Loc) (ws:List Wr) (hw:wantedA ops o.guard A=some true)
   (h:∀A',(∀l∈rs,Mw.agree A A' l)→∀(C:Ctx P) (a:Act) (w:World) (Q:Exit→Act→World→Prop),(∀d,o.dst=some d→C.can d)→Rel C A' a w→o.wpIn (fen C) 0 P a w (fun a' w'=>Rel C (A'.put ws) a' w') Q):StpF P ops o A (guardLoc ops o++rs) ws
def Same (A A':ASt):Prop:=(∀l,agree A A' l)∧A'.bh=A.bh
theorem put_bh:∀(ws:List Wr) (A:ASt),(A.put ws).bh=A.bh
 |[],_=>rfl
 |.slot _ _::r,_=>put_bh r _
 |.obj _ _::r,_=>put_bh r _
theorem Ev.run_acc {A:ASt}:∀(e:Ev) (acc:List Loc) {rs:List Loc} {ws:List Wr},e.run A acc=some (rs,ws)→∀l∈acc,l∈rs
 |.done ws',acc,rs,ws,h,l,hl=>by simp [Ev.run] at h;rw [←h.1];exact hl
 |.fail,acc,rs,ws,h,l,hl=>by simp [Ev.run] at h
 |.slot s k,acc,rs,ws,h,l,hl=>Ev.run_acc (k (A.get s)) _ h l V217
 |.obj o k,acc,rs,ws,h,l,hl=>Ev.run_acc (k (A.obj o)) _ h l V217
theorem Ev.run_agree {A A':ASt}:∀(e:Ev) (acc:List Loc) {rs:List Loc} {ws:List Wr},e.run A acc=some (rs,ws)→(∀l∈rs,agree A A' l)→e.run A' acc=some (rs,ws)
 |.done ws',acc,rs,ws,h,_=>h
 |.fail,acc,rs,ws,h,_=>by simp [Ev.run] at h
 |.slot s k,acc,rs,ws,h,ha=>by
  have hl:Loc.slot s∈rs:=Ev.run_acc (k (A.get s)) (.slot s::acc) h _ (by simp)
  have e:A'.get s=A.get s:=ha _ hl
  simp only [Ev.run,e]
  exact Ev.run_agree _ _ h ha
 |.obj o k,acc,rs,ws,h,ha=>by
  have hl:Loc.obj o∈rs:=Ev.run_acc (k (A.obj o)) (.obj o::acc) h _ (by simp)
  have e:A'.obj o=A.obj o:=ha _ hl
  simp only [Ev.run,e]
  exact Ev.run_agree _ _ h ha
theorem ev_agree {A A':ASt}{x:Operand}(h:∀l∈opLocs [x],agree A A' l):A'.ev x=A.ev x:=by
 cases x with
 |tmp t=>exact h (.slot t) (by simp [opLocs])
 |_=>rfl
theorem opLocs_cons (x:Operand)(r:List Operand):opLocs (x::r)=opLocs [x]++opLocs r:=by cases x<;>rfl
theorem evs_agree {A A':ASt}:∀ {xs:List Operand},(∀l∈opLocs xs,agree A A' l)→xs.map A'.ev=xs.map A.ev
 |[],_=>rfl
 |x::r,h=>by
  rw [opLocs_cons] at h
  simp only [List.map_cons]
  rw [ev_agree fun l hl=>h l V217,evs_agree fun l hl=>h l V217]
theorem mem_look {α:Type}:∀ {l:List (Nat × α)} {q:Nat} {x:α},look l q=some x→∃y,(q,y)∈l
 |[],_,_,h=>by simp [look] at h
 |(k,v)::r,q,x,h=>by
  by_cases hk:q=k
  ·subst hk;exact ⟨v,by simp⟩
  ·simp [look,hk] at h
   obtain ⟨y,hy⟩:=mem_look h
   exact ⟨y,by simp [hy]⟩
section swap
variable {P:Program} {ops:Array Oper} {A A':ASt} {o:Oper} {rs:List Loc} {ws:List Wr}
theorem wanted_agree (h:∀l∈guardLoc ops o,agree A A' l):wantedA ops o.guard A'=wantedA ops o.guard A:=by
 unfold wantedA
 unfold guardLoc at h
 cases hg:o.guard with
 |none=>rfl
 |some p=>
  obtain ⟨j,want⟩:=p
  simp only [hg] at h ⊢
  cases hs:(ops[j]?).bind (·.dst) with
  |none=>rfl
  |some s=>
   simp only [hs] at h ⊢
   have:=h (.slot s) (by simp)
   simp only [agree] at this
   rw [this]
theorem agree_strip {b:Bool}{l:Loc}(h:Mw.agree A A' l):Mw.agree (A.strip b) (A'.strip b) l:=by
 cases l with
 |slot s=>simp only [Mw.agree,get_strip] at h ⊢;rw [h]
 |obj o=>exact h
theorem StpCallF.agree (h:StpCallF P o A rs ws)(ha:∀l∈rs,Mw.agree A A' l):StpCallF P o A' rs ws:=by
 obtain ⟨d,f,as,g,ds,args,res,obs,h1,h2,h3,h4,h5,h6,h7,h8,rfl⟩:=h
 have ef:A'.ev f=A.ev f:=ev_agree fun l hl=>ha l V207
 have eas:as.map A'.ev=as.map A.ev:=evs_agree fun l hl=>ha l V207
 refine ⟨d,f,as,g,ds,args,res,obs,h1,h2,ef.trans h3,h4,by rw [eas];exact h5,h6,fun q x hq=>?_,h8,rfl⟩
 obtain ⟨y,hy⟩:=mem_look hq
 have e:=ha (.obj (1000*(d+1)+q)) (List.mem_append.2 (.inr (List.mem_map.2 ⟨(q,y),hy,rfl⟩)))
 simp only [Mw.agree] at e
 rw [e]
 exact h7 q x hq
theorem StpLend.agree (h:StpLend P o A rs ws)(ha:∀l∈rs,Mw.agree A A' l):StpLend P o A' rs ws:=by
 obtain ⟨d,f,as,g,ds,args,res,q,n,x,h1,h2,h3,h4,h5,h6,⟨h7,hfl⟩,h8,rfl⟩:=h
 have ef:A'.ev f=A.ev f:=ev_agree fun l hl=>ha l V207
 have eas:as.map A'.ev=as.map A.ev:=evs_agree fun l hl=>ha l V207
 have eo:A'.obj n=A.obj n:=ha (.obj n) (by simp)
 exact ⟨d,f,as,g,ds,args,res,q,n,x,h1,h2,ef.trans h3,h4,by rw [eas];exact h5,h6,⟨eo.trans h7,hfl⟩,h8,rfl⟩
theorem StpF.agree (h:StpF P ops o A rs ws)(ha:∀l∈rs,Mw.agree A A' l):StpF P ops o A' rs ws:=by
 cases h with
 |eff _ _ hw h=>
  have hg:wantedA ops o.guard A'=wantedA ops o.guard A:=wanted_agree fun l hl=>ha l (Ev.run_acc _ _ h l hl)
  exact .eff rs ws (hg.trans hw) (Ev.run_agree _ _ h ha)
 |call rs' _ hw h=>
  have hg:wantedA ops o.guard A'=wantedA ops o.guard A:=wanted_agree fun l hl=>ha l V217
  exact .call rs' ws (hg.trans hw) (h.agree fun l hl=>ha l V217)
 |skip hw=>exact .skip ((wanted_agree ha).trans hw)
 |geff _ b d v ho hw h=>
  have hg:wantedA ops o.guard A'=wantedA ops o.guard A:=wanted_agree fun l hl=>ha l (Ev.run_acc _ _ h l hl)
  exact .geff rs b d v ho (hg.trans hw) (Ev.run_agree _ _ h fun l hl=>agree_strip (ha l hl))
 |gcall rs' b d v ho hw h=>
  have hg:wantedA ops o.guard A'=wantedA ops o.guard A:=wanted_agree fun l hl=>ha l V217
  exact .gcall rs' b d v ho (hg.trans hw) (h.agree fun l hl=>agree_strip (ha l V217))
 |lend rs' _ hw h=>
  have hg:wantedA ops o.guard A'=wantedA ops o.guard A:=wanted_agree fun l hl=>ha l V217
  exact .lend rs' ws (hg.trans hw) (h.agree fun l hl=>ha l V217)
 |wk _ ws0 _ hw h hk=>
  have hg:wantedA ops o.guard A'=wantedA ops o.guard A:=wanted_agree fun l hl=>ha l (Ev.run_acc _ _ h l hl)
  exact .wk rs ws0 ws (hg.trans hw) (Ev.run_agree _ _ h ha) fun A'' h''=>hk A'' fun l hl=>agree_trans (ha l hl) (h'' l hl)
 |sem rs' _ hw h=>
  have hg:wantedA ops o.guard A'=wantedA ops o.guard A:=wanted_agree fun l hl=>ha l V217
  exact .sem rs' ws (hg.trans hw) fun A'' h''=>h A'' fun l hl=>agree_trans (ha l V217) (h'' l hl)
theorem put_agree:∀(ws:List Wr) (A:ASt) (l:Loc),l ∉ wLocs ws→Mw.agree A (A.put ws) l
 |[],A,l,_=>by cases l<;>rfl
 |.slot s v::r,A,l,h=>by
  simp only [wLocs,List.mem_cons,not_or] at h
  have ih:=put_agree r (A.put1 (.slot s v)) l h.2
  cases l with
  |slot t=>
   have hne:t≠s:=fun e=>h.1 (by rw [e])
   exact Eq.trans ih (by simp [ASt.put1,ASt.get,look,hne])
  |obj q=>exact Eq.trans ih rfl
 |.obj s v::r,A,l,h=>by
  simp only [wLocs,List.mem_cons,not_or] at h
  have ih:=put_agree r (A.put1 (.obj s v)) l h.2
  cases l with
  |slot t=>exact Eq.trans ih rfl
  |obj q=>
   have hne:q≠s:=fun e=>h.1 (by rw [e])
   exact Eq.trans ih (by simp [ASt.put1,ASt.obj,look,hne])
theorem put_same:∀(ws:List Wr) {A A':ASt} {l:Loc},(l∈wLocs ws∨Mw.agree A A' l)→Mw.agree (A.put ws) (A'.put ws) l
 |[],A,A',l,h=>by
  rcases h with h|h
  ·simp [wLocs] at h
  ·exact h
 |w::r,A,A',l,h=>by
  refine put_same r ?_
  by_cases hr:l∈wLocs r
  ·exact .inl hr
  ·refine .inr ?_
   cases w with
   |slot s v=>
    cases l with
    |slot t=>
     by_cases e:t=s
     ·subst e;simp [Mw.agree,ASt.put1,ASt.get,look]
     ·rcases h with h|h
      ·simp [wLocs,e] at h;exact absurd h hr
      ·simp only [Mw.agree,ASt.put1,ASt.get,look,if_neg e] at h ⊢;exact h
    |obj q=>
     rcases h with h|h
     ·simp [wLocs] at h;exact absurd h hr
     ·exact h
   |obj s v=>
    cases l with
    |slot t=>
     rcases h with h|h
     ·simp [wLocs] at h;exact absurd h hr
     ·exact h
    |obj q=>
     by_cases e:q=s
     ·subst e;simp [Mw.agree,ASt.put1,ASt.obj,look]
     ·rcases h with h|h
      ·simp [wLocs,e] at h;exact absurd h hr
      ·simp only [Mw.agree,ASt.put1,ASt.obj,look,if_neg e] at h ⊢;exact h
theorem Same.refl (A:ASt):Same A A:=⟨fun l=>by cases l<;>rfl,rfl⟩
theorem agree_symm {A B:ASt}{l:Loc}(h:Mw.agree A B l):Mw.agree B A l:=by cases l<;>exact Eq.symm h
theorem put_swap {A:ASt}{wx wy:List Wr}(h:∀l∈wLocs wx,l ∉ wLocs wy):Same ((A.put wx).put wy) ((A.put wy).put wx):=by
 refine ⟨fun l=>?_,by simp only [put_bh]⟩
 by_cases hx:l∈wLocs wx
 ·have hy:=h l hx
  -- both are what wx put
  have e1:Mw.agree (A.put wx) ((A.put wx).put wy) l:=put_agree wy _ l hy
  have e2:Mw.agree (A.put wx) ((A.put wy).put wx) l:=put_same wx (.inl hx)
  exact agree_trans (agree_symm e1) e2
 ·have e1:Mw.agree (A.put wy) ((A.put wx).put wy) l:=by
   by_cases hy:l∈wLocs wy
   ·exact put_same wy (.inl hy)
   ·exact put_same wy (.inr (put_agree wx A l hx))
  have e2:Mw.agree (A.put wy) ((A.put wy).put wx) l:=put_agree wx _ l hx
  exact agree_trans (agree_symm e1) e2
end swap
structure Fp where
 rs:List Loc
 ws:List Loc
def disj (xs ys:List Loc):Bool:=xs.all fun l=>!ys.contains l
def Fp.clash (x y:Fp):Bool:= !(disj x.ws y.rs&&disj x.ws y.ws&&disj y.ws x.rs)
theorem disj_spec {xs ys:List Loc}(h:disj xs ys=true):∀l∈xs,l ∉ ys:=by
 intro l hl hy
 have:=List.all_eq_true.1 h l hl
 simp [hy] at this
def RunF (P:Program)(ops:Array Oper):List Nat→ASt→List Fp→ASt→Prop
 |[],A,[],B=>Same A B
 |i::r,A,f::fs,B=>∃o ws,ops[i]? = some o∧StpF P ops o A f.rs ws∧f.ws=wLocs ws∧RunF P ops r (A.put ws) fs B
 |_,_,_,_=>False
section front
variable {P:Program} {ops:Array Oper}
theorem RunF.same:∀ {l:List Nat} {A A':ASt} {fs:List Fp} {B:ASt},RunF P ops l A fs B→Same A A' → RunF P ops l A' fs B
 |[],A,A',[],B,h,hs=>⟨fun l=>agree_trans (agree_symm (hs.1 l)) (h.1 l),h.2.trans hs.2.symm⟩
 |[],_,_,_::_,_,h,_=>h.elim
 |_::_,_,_,[],_,h,_=>h.elim
 |i::r,A,A',f::fs,B,h,hs=>by
  obtain ⟨o,ws,h1,h2,h3,h4⟩:=h
  exact ⟨o,ws,h1,h2.agree fun l _=>hs.1 l,h3,h4.same ⟨fun l=>put_same ws (.inr (hs.1 l)),by rw [put_bh,put_bh];exact hs.2⟩⟩
theorem RunF.front:∀ {l1:List Nat} {i:Nat} {l2:List Nat} {A:ASt} {f1:List Fp} {f:Fp} {f2:List Fp} {B:ASt},l1.length=f1.length →
  RunF P ops (l1++i::l2) A (f1++f::f2) B→(∀g∈f1,g.clash f=false)→RunF P ops (i::(l1++l2)) A (f::(f1++f2)) B
 |[],i,l2,A,[],f,f2,B,_,h,_=>h
 |[],_,_,_,_::_,_,_,_,hl,_,_=>by simp at hl
 |_::_,_,_,_,[],_,_,_,hl,_,_=>by simp at hl
 |j::l1,i,l2,A,g::f1,f,f2,B,hl,h,hc=>by
  obtain ⟨oj,wj,h1,h2,h3,h4⟩:=h
  have ih:=RunF.front (l1:=l1) (f1:=f1) V211 h4 fun g hg=>hc g (by simp [hg])
  obtain ⟨oi,wi,k1,k2,k3,k4⟩:=ih
  have hcl:=hc g (by simp)
  simp only [Fp.clash,Bool.not_eq_false',Bool.and_eq_true] at hcl
  obtain ⟨⟨c1,c2⟩,c3⟩:=hcl
  have c1:=disj_spec c1
  have c2:=disj_spec c2
  have c3:=disj_spec c3
  rw [h3] at c1 c2
  rw [k3] at c2 c3
  have k2':StpF P ops oi A f.rs wi:=k2.agree fun l hl=>agree_symm (put_agree wj A l fun hw=>c1 l hw hl)
  have h2':StpF P ops oj (A.put wi) g.rs wj:=h2.agree fun l hl=>put_agree wi A l fun hw=>c3 l hw hl
  exact ⟨oi,wi,k1,k2',k3,oj,wj,h1,h2',h3,k4.same (put_swap c2)⟩
end front
def depOn (ops:Array Oper):Nat→Nat→Nat→Bool
 |0,_,_=>false
 |n+1,i,j=>match ops[i]? with
  |some o=>o.after.any fun e=>Region.binds .any e&&(e.on==j || depOn ops n e.on j)
  |none=>false
def ordered (ops:Array Oper)(n:Nat):List (Nat × Fp)→Bool
 |[]=>true
 |(i,f)::r=>(r.all fun p=>!f.clash p.2 || depOn ops n p.1 i)&&ordered ops n r
end Go.Mw
namespace Go.Mw
open Go.RowKit
def Ghost (A A':ASt):Prop:=∀(P:Program) (C:Ctx P) (a:Act) (w:World),Rel C A a w→Rel C A' a w
def WkP (x y:AV):Prop:=∀(S:Settled) (ι:Nat→Value) (H:Nat→Option AO) (w:World) (v:Value),RepV S ι H w x v→RepV S noVal noObj w y v
def SemStep (P:Program)(o:Oper)(A:ASt)(K:ASt→Prop):Prop:=∀(C:Ctx P) (a:Act) (w:World) (Q:Exit→Act→World→Prop),(∀d,o.dst=some d→C.can d)→Rel C A a w →
 o.wpIn (fen C) 0 P a w (fun a' w'=>∃A',K A' ∧ Rel C A' a' w') Q
inductive Run (P:Program) (ops:Array Oper) (Φ:ASt→Prop):List Oper→ASt→Prop
 |nil {A:ASt} (h:Φ A):Run P ops Φ [] A
 |eff {o:Oper} {r:List Oper} {A:ASt} (rs:List Loc) (ws:List Wr) (h:stepOp P ops o A=some (rs,ws)) (h':Run P ops Φ r (A.put ws)):Run P ops Φ (o::r) A
 |call {o:Oper} {r:List Oper} {A:ASt} (ws:List Wr) (hw:wantedA ops o.guard A=some true) (h:StpCall P o A ws) (h':Run P ops Φ r (A.put ws)):Run P ops Φ (o::r) A
 |geff {o:Oper} {r:List Oper} {A:ASt} (b:Bool) (rs:List Loc) (d:Nat) (v:AV) (ho:o.dst=some d) (hw:wantedA ops o.guard A=some b) (h:(effOp P o.op o.dst).runS b A (guardLoc ops o)=some (rs,[.slot d v]))
   (h':Run P ops Φ r (A.put [.slot d (.cnd b v)])):Run P ops Φ (o::r) A
 |gcall {o:Oper} {r:List Oper} {A:ASt} (b:Bool) (d:Nat) (v:AV) (ho:o.dst=some d) (hw:wantedA ops o.guard A=some b) (h:StpCall P o (A.strip b) [.slot d v])
   (h':Run P ops Φ r (A.put [.slot d (.cnd b v)])):Run P ops Φ (o::r) A
 |cally {o:Oper} {r:List Oper} {A:ASt} {d:Nat} {f:Operand} {as:List Operand} {g:FuncId} {caps:List AL} {args:List AV} {lend:List (Nat × Nat)} {pre:List (Nat × AO)} {b:Beh} {κ:AV→List (Nat × AO)→Beh}
   (hdst:o.dst=some d) (hw:wantedA ops o.guard A=some true) (hop:opCall o.op=some (f,as)) (hf:FnOf A (A.ev f) g caps) (hcan:canCall P g=true)
   (hwk:All2 (WkR (rn lend (1000*(d+1))) (nms pre)) (as.map A.ev++caps.map .leaf) args) (hcon:Con P g args pre b) (hok:CallOK A (1000*(d+1)) lend pre b) (hbh:A.bh=b.bind κ)
   (h':∀res obs,b.Leaf res obs→Run P ops Φ r (after A d (rn lend (1000*(d+1))) res obs (κ res obs))):Run P ops Φ (o::r) A
 |inv {o:Oper} {r:List Oper} {A:ASt} {d:Nat} {cargs:Array Operand} {cty:Array TypeId} {recv:Operand} {name:String} {t:TypeId} {ag:Bool} {ds:List D} {g:FuncId} {args:List AV} {lend:List (Nat × Nat)} {pre:List (Nat × AO)} {b:Beh} {κ:AV→List (Nat × AO)→Beh}
   (hdst:o.dst=some d) (hw:wantedA ops o.guard A=some true) (hop:o.op=.call { callee:=.invoke recv name,args:=cargs,argTypes:=cty }) (hf:A.ev recv=.leaf (.d (.ifc t ag ds))) (hmeth:methOf P t name=some g) (hcan:canCall P g=true)
   (hwk:All2 (WkR (rn lend (1000*(d+1))) (nms pre)) (.val ag (ds.map .d)::cargs.toList.map A.ev) args) (hcon:Con P g args pre b) (hok:CallOK A (1000*(d+1)) lend pre b) (hbh:A.bh=b.bind κ)
   (h':∀res obs,b.Leaf res obs→Run P ops Φ r (after A d (rn lend (1000*(d+1))) res obs (κ res obs))):Run P ops Φ (o::r) A
 |yl {o:Oper} {r:List Oper} {A:ASt} {d c:Nat} {f:Operand} {as:List Operand} {args:List AV} {k:Bool→Beh}
   (hdst:o.dst=some d) (hw:wantedA ops o.guard A=some true) (hop:opCall o.op=some (f,as)) (hf:A.ev f=.leaf (.obj c)) (hc:A.obj c=some .yl)
   (hwk:All2 WkP (as.map A.ev) args) (hbh:A.bh=.yld args k)
   (h':∀t,Run P ops Φ r ⟨(d,.bool t)::A.tm,A.ob,k t⟩):Run P ops Φ (o::r) A
 |ghost {l:List Oper} {A A':ASt} (h:Ghost A A') (h':Run P ops Φ l A'):Run P ops Φ l A
 |sem {o:Oper} {r:List Oper} {A:ASt} {K:ASt→Prop} (hw:wantedA ops o.guard A=some true) (h:SemStep P o A K) (h':∀A',K A' → Run P ops Φ r A'):Run P ops Φ (o::r) A
section sound
variable {P:Program} {C:Ctx P} {M:Blocks} {A:ASt} {a:Act} {w:World} {ops:Array Oper}
theorem wanted_rep {S:Settled}{ι:Nat→Value}(hR:RelC C S M ι A a w){o:Oper}{b:Bool}(h:wantedA ops o.guard A=some b):Region.wanted o (yielded ops a.tmps)=b:=by
 unfold wantedA at h
 unfold Region.wanted
 cases hg:o.guard with
 |none=>simp only [hg,Option.some.injEq] at h;exact h
 |some p=>
  obtain ⟨j,want⟩:=p
  simp only [hg] at h ⊢
  cases hs:(ops[j]?).bind (·.dst) with
  |none=>simp [hs] at h
  |some s=>
   simp only [hs] at h
   have hrep:=hR.tms s
   unfold wantV at h
   unfold yielded
   simp only [hs,Option.bind_some]
   split at h
   ·rename_i b' e
    rw [e] at hrep
    have hv:=raw_eq (rep_leaf hrep)
    simp only [Option.some.injEq] at h
    have:a.tmps[s]? = some (.bool b'):=by
     rw [Array.getD_eq_getD_getElem?] at hv
     cases hq:a.tmps[s]? with
     |none=>simp [hq,undef] at hv
     |some v=>simpa [hq] using hv
    rw [this]
    subst h
    cases b' <;> cases want<;>rfl
   ·rename_i vs e
    rw [e] at hrep
    obtain ⟨us,hv,_⟩:=hrep
    simp only [Option.some.injEq] at h
    subst h
    cases hq:a.tmps[s]? with
    |none=>rfl
    |some v=>
     rw [Array.getD_eq_getD_getElem?,hq] at hv
     simp at hv
     subst hv
     rfl
   ·rename_i hc b' e
    rw [e] at hrep
    simp only [Option.some.injEq] at h
    cases hc with
    |true=>
     have hv:=raw_eq (rep_leaf (hrep.1 rfl))
     have:a.tmps[s]? = some (.bool b'):=by
      rw [Array.getD_eq_getD_getElem?] at hv
      cases hq:a.tmps[s]? with
      |none=>simp [hq,undef] at hv
      |some v=>simpa [hq] using hv
     rw [this]
     subst h
     cases b' <;> cases want<;>rfl
    |false=>
     have hv:=hrep.2 rfl
     simp only [Bool.false_and] at h
     subst h
     cases hq:a.tmps[s]? with
     |none=>rfl
     |some v=>
      rw [Array.getD_eq_getD_getElem?,hq] at hv
      simp [undef] at hv
      subst hv
      rfl
   ·cases h
theorem rel_skip {S:Settled}{ι:Nat→Value}(hR:RelC C S M ι A a w){o:Oper}(hd:∀d,o.dst=some d→C.can d):Rel C (A.put (skipWs o)) (a.put o.dst undef) w:=by
 unfold skipWs
 cases ho:o.dst with
 |none=>exact ⟨S,M,ι,hR⟩
 |some d=>exact ⟨S,M,ι,hR.slot (hd d ho) ⟨[],rfl,trivial⟩⟩
theorem rel_same {A':ASt}(hs:Same A A')(h:Rel C A a w):Rel C A' a w:=by
 obtain ⟨S,M,ι,hR⟩:=h
 have ho:A'.obj=A.obj:=funext fun o=>hs.1 (.obj o)
 refine ⟨S,M,ι,hR.sub,hR.new,hR.inn,hR.minn,hR.sz,fun s=>?_,?_,?_,?_,?_,?_,hR.fixed,hR.marks,hR.rdok,?_,hR.pinN⟩
 ·have e:A'.get s=A.get s:=hs.1 (.slot s)
  rw [ho,e];exact hR.tms s
 ·rw [ho];exact hR.objs
 ·rw [ho];exact hR.dis
 ·rw [ho];exact hR.own
 ·rw [hs.2];exact hR.env
 ·rw [ho];exact hR.tok
 ·rw [ho];exact hR.pinned
theorem ghost_of {A A':ASt}(hv:∀(S:Settled) (ι:Nat→Value) (w:World) (s:Nat) (v:Value),RepV S ι A.obj w (A.get s) v→RepV S ι A'.obj w (A'.get s) v)
  (ho:∀(S:Settled) (ι:Nat→Value) (w:World) (o:Nat) (x':AO),A'.obj o=some x' → ∃x,A.obj o=some x∧(ObjOK S ι A.obj w o x→ObjOK S ι A'.obj w o x')∧(x'=.yl→x=.yl)∧∀u v n,x.pinned u v n→x'.pinned u v n) (hb:A'.bh=A.bh:=by rfl):Ghost A A':=by
 intro P C a w ⟨S,M,ι,hR⟩
 refine ⟨S,M,ι,hR.sub,hR.new,hR.inn,hR.minn,hR.sz,fun s=>hv S ι w s _ (hR.tms s),fun o x' h=>?_,fun o o' x x' b h h'=>?_,fun o x b h=>?_,?_,fun o h=>?_,hR.fixed,hR.marks,hR.rdok,fun q u n x h1 h2=>?_,hR.pinN⟩
 ·obtain ⟨x,hx,hok,_⟩:=ho S ι w o x' h
  exact hok (hR.objs o x hx)
 ·obtain ⟨y,hy,_⟩:=ho S ι w o x h
  obtain ⟨y',hy',_⟩:=ho S ι w o' x' h'
  exact hR.dis o o' y y' b hy hy'
 ·obtain ⟨y,hy,_⟩:=ho S ι w o x h
  exact hR.own o y b hy
 ·rw [hb];exact hR.env
 ·obtain ⟨y,hy,_,ht,_⟩:=ho S ι w o _ h
  rw [ht rfl] at hy
  exact hR.tok o hy
 ·obtain ⟨y,hy,_,_,hp⟩:=ho S ι w q _ h2
  exact hp _ _ _ (hR.pinned q u n y h1 hy)
theorem ghost_strip (A:ASt):Ghost A (A.strip true):=
 ghost_of (fun S ι w s v h=>by rw [get_strip];exact strip_rep rfl h) fun S ι w o x' h=>⟨x',h,fun h=>h,fun h=>h,fun _ _ _ h=>h⟩
theorem unstrip_rep {S:Settled}{ι:Nat→Value}{H:Nat→Option AO}{w:World}{x:AV}{v:Value}(h:RepV S ι H w (x.strip true) v):RepV S ι H w x v:=by
 cases x with
 |cnd c y=>
  simp only [AV.strip] at h
  split at h
  ·rename_i e;exact ⟨fun _=>h,fun hf=>by rw [e] at hf;cases hf⟩
  ·exact h
 |_=>exact h
theorem ghost_unstrip (A:ASt)(d:Nat)(v:AV):Ghost ((A.strip true).put [.slot d v]) (A.put [.slot d (.cnd true v)]):=by
 refine ghost_of (fun S ι w s u h=>?_) fun S ι w o x' h=>⟨x',h,fun h=>h,fun h=>h,fun _ _ _ h=>h⟩
 by_cases hs:s=d
 ·subst hs
  have e1:((A.strip true).put [.slot s v]).get s=v:=by simp [ASt.put,ASt.put1,ASt.get,look]
  have e2:(A.put [.slot s (.cnd true v)]).get s=.cnd true v:=by simp [ASt.put,ASt.put1,ASt.get,look]
  rw [e1] at h;rw [e2]
  exact ⟨fun _=>h,fun hf=>by cases hf⟩
 ·have e1:((A.strip true).put [.slot d v]).get s=(A.get s).strip true:=by rw [←get_strip];simp [ASt.put,ASt.put1,ASt.get,look,hs]
  have e2:(A.put [.slot d (.cnd true v)]).get s=A.get s:=by simp [ASt.put,ASt.put1,ASt.get,look,hs]
  rw [e1] at h;rw [e2]
  exact unstrip_rep h
theorem RelC.kept {S:Settled}{ι:Nat→Value}{w':World}{b:Beh}(hR:RelC C S M ι A a w)(hk:Keep S M w w')(hJ:C.E.J b S M w'):RelC C S M ι ⟨A.tm,A.ob,b⟩ a w':=by
 have hm:Mv S ι A.obj w S ι A.obj w':=⟨fun _ _ h=>h.mono (fun _ _ h=>h) fun b o h=>hk.cell b o h,fun o ls h=>⟨⟨ls,h⟩,rfl⟩,fun o e k es h=>⟨es,h,Nat.le_refl _,fun _=>rfl⟩,fun _ _ h=>⟨h,hk.cell _ _ h⟩,fun o x h hx=>⟨⟨x,h,hx⟩,rfl⟩⟩
 exact ⟨hR.sub,hR.new,fun b o h=>Nat.lt_of_lt_of_le (hR.inn b o h) hk.size,fun b h=>Nat.lt_of_lt_of_le (hR.minn b h) hk.size,hR.sz,fun s=>hm.v (hR.tms s),
  fun o x h=>(hR.objs o x h).other hm rfl (fun b hb=>hk.block b (hR.own o x b h hb)) fun _ _ _ h=>h,hR.dis,hR.own,hJ,hR.tok,hR.fixed,
  (by obtain ⟨rs,h1,h2,h3⟩:=hR.marks;exact ⟨rs,h1,h2,fun r hr=>⟨(h3 r hr).1,(hk.block r (h3 r hr).1).trans (h3 r hr).2⟩⟩),
  fun l r h=>⟨(hR.rdok l r h).1,(hk.block l (hR.rdok l r h).1).trans (hR.rdok l r h).2⟩,hR.pinned,hR.pinN⟩
theorem snd_yl {S:Settled}{ι:Nat→Value}(hR:RelC C S M ι A a w){o:Oper}(hd:∀d,o.dst=some d→C.can d){d c:Nat}{f:Operand}{as:List Operand}{args:List AV}{k:Bool→Beh}
  (hdst:o.dst=some d) (hop:opCall o.op=some (f,as)) (hf:A.ev f=.leaf (.obj c)) (hc:A.obj c=some .yl) (hwk:All2 WkP (as.map A.ev) args) (hbh:A.bh=.yld args k) (Q:Exit→Act→World→Prop) :
  o.wpIn (fen C) 0 P a w (fun a' w'=>∃t,Rel C ⟨(d,.bool t)::A.tm,A.ob,k t⟩ a' w') Q:=by
 have hfv:=rep_ev hR f
 rw [hf] at hfv
 obtain ⟨_,hfv,_⟩:=rep_leaf hfv
 rw [hR.tok c hc] at hfv
 cases hop':o.op<;>rw [hop'] at hop<;>try (simp [opCall] at hop;done)
 rename_i cl
 obtain ⟨callee,cargs,cty⟩:=cl
 cases callee<;>simp only [opCall,reduceCtorEq,Option.some.injEq,Prod.mk.injEq] at hop
 rename_i f'
 obtain ⟨rfl,rfl⟩:=hop
 have hargs:All2 (RepV S noVal noObj w) args (cargs.toList.map a.eval):=by
  have h3:=rep_evs hR cargs.toList
  generalize (cargs.toList.map A.ev)=l1 at hwk h3
  generalize (cargs.toList.map a.eval)=l2 at h3 ⊢
  clear hbh
  induction args generalizing l1 l2 with
  |nil=>cases l1 with
   |nil=>cases l2 with
    |nil=>trivial
    |cons _ _=>exact h3.elim
   |cons _ _=>exact hwk.elim
  |cons y ys ih=>cases l1 with
   |nil=>exact hwk.elim
   |cons x xs=>cases l2 with
    |nil=>exact h3.elim
    |cons v vs=>exact ⟨hwk.1 S ι A.obj w v h3.1,ih xs hwk.2 vs h3.2⟩
 have hJ:=hR.env
 rw [hbh] at hJ
 obtain ⟨fn,tmps,assign,body,hy,hRd⟩:=C.E.yld hJ hargs
 have e1:cargs.map a.eval=(cargs.toList.map a.eval).toArray:=by apply Array.ext';simp
 have hexec:(execOp a.eval o).run P w=.ok (.round C.E.l fn tmps assign body) w:=by
  simp only [execOp,hop',resolve,hfv,Deferred.ofValue,invoke,e1]
  simpa using hy
 refine wp_run hexec V209 ?_
 rw [Oper.uponIn_round]
 refine ⟨fen_isSome C,roundIn_fen C (hRd.mono fun e w' ⟨t,he,hk,hJ'⟩=>?_)⟩
 subst he
 refine ⟨t,?_⟩
 rw [hdst]
 exact ⟨S,M,ι,(hR.kept hk hJ').slot (av:=.bool t) (hd d hdst) (rep_raw rfl)⟩
theorem step_next {Q:Exit→Act→World→Prop}{o:Oper}{K:Act→World→Prop}{rs:List Loc}{ws:List Wr}(hR:Rel C A a w)(hd:∀d,o.dst=some d→C.can d)
  (h:StpF P ops o A rs ws) (hK:∀a' w',Rel C (A.put ws) a' w' → K a' w') :
  if Region.wanted o (yielded ops a.tmps) then o.wpIn (fen C) 0 P a w K Q else (∀f,o.about P w a.eval=some f→(fen C).fn f)∧K (a.put o.dst undef) w:=by
 have hR0:=hR
 obtain ⟨S,M,ι,hR⟩:=hR
 have hfn:∀f,o.about P w a.eval=some f→(fen C).fn f:=fun f _=>fen_fn C f
 cases h with
 |geff _ b d v ho hw h=>
  cases b with
  |false=>rw [if_neg (by rw [wanted_rep hR hw];simp),ho];exact ⟨hfn,hK _ _ ⟨S,M,ι,hR.slot (hd d ho) ⟨(fun h=>by cases h),fun _=>rfl⟩⟩⟩
  |true=>
   rw [if_pos (wanted_rep hR hw)]
   obtain ⟨S',M',ι',hR'⟩:=ghost_strip A P C a w hR0
   exact Oper.wpIn_mono (fun a' w' h=>hK a' w' (ghost_unstrip A d v P C a' w' h)) (wp_snd (snd_eff hR' hd h) Q)
 |gcall rs' b d v ho hw h=>
  cases b with
  |false=>rw [if_neg (by rw [wanted_rep hR hw];simp),ho];exact ⟨hfn,hK _ _ ⟨S,M,ι,hR.slot (hd d ho) ⟨(fun h=>by cases h),fun _=>rfl⟩⟩⟩
  |true=>
   rw [if_pos (wanted_rep hR hw)]
   obtain ⟨S',M',ι',hR'⟩:=ghost_strip A P C a w hR0
   exact Oper.wpIn_mono (fun a' w' h=>hK a' w' (ghost_unstrip A d v P C a' w' h)) (snd_call hR' hd h.plain Q)
 |eff _ _ hw h=>rw [if_pos (wanted_rep hR hw)];exact Oper.wpIn_mono hK (wp_snd (snd_eff hR hd h) Q)
 |call rs' _ hw h=>rw [if_pos (wanted_rep hR hw)];exact Oper.wpIn_mono hK (snd_call hR hd h.plain Q)
 |skip hw=>rw [if_neg (by rw [wanted_rep hR hw];simp)];exact ⟨hfn,hK _ _ (rel_skip hR hd)⟩
 |lend rs' _ hw h=>
  rw [if_pos (wanted_rep hR hw)]
  obtain ⟨d,f,as,g,ds,args,res,q,n,x,h1,h2,h3,h4,h5,h6,⟨h7,hfl⟩,rfl,rfl⟩:=h
  refine Oper.wpIn_mono (fun a' w' h=>hK a' w' ?_) (snd_callG hR hd h1 h2 (.inl ⟨ds,h3,rfl⟩) h4 (by rw [List.map_map];exact h5) h6 (callOK_one h7 hfl) (κ:=fun _ _=>A.bh) rfl Q)
  obtain ⟨res',obs',hl,hR'⟩:=h
  obtain ⟨e1,e2⟩:=hl.inv
  subst e1 e2
  have hr:rn [(q,n)] (1000*(d+1)) q=n:=by simp [rn,look]
  have:after A d (rn [(q,n)] (1000*(d+1))) res' [(q,x)] A.bh=A.put [.obj n x,.slot d (res'.ren (rn [(q,n)] (1000*(d+1))))]:=by
   simp [after,hr,(AO.flat_ok hfl (rn [(q,n)] (1000*(d+1))) []).1,ASt.put,ASt.put1]
  rw [←this];exact hR'
 |wk _ ws0 _ hw h hg=>rw [if_pos (wanted_rep hR hw)];exact Oper.wpIn_mono (fun a' w' h2=>hK a' w' (hg A (fun l _=>by cases l<;>rfl) C a w a' w' hR0 h2)) (wp_snd (snd_eff hR hd h) Q)
 |sem rs' _ hw h=>rw [if_pos (wanted_rep hR hw)];exact Oper.wpIn_mono hK (h A (fun l _=>by cases l<;>rfl) C a w Q hd hR0)
theorem StpCall.full {o:Oper}{ws:List Wr}(h:StpCall P o A ws):∃rs,StpCallF P o A rs ws:=by
 obtain ⟨d,f,as,g,ds,args,res,obs,h1,h2,h3,h4,h5,h6,h7,h8⟩:=h
 exact ⟨_,d,f,as,g,ds,args,res,obs,h1,h2,h3,h4,h5,h6,h7,h8,rfl⟩
theorem stepOp_full {o:Oper}{rs:List Loc}{ws:List Wr}(h:stepOp P ops o A=some (rs,ws)):StpF P ops o A rs ws:=by
 unfold stepOp at h
 split at h
 ·rename_i hw;exact .eff rs ws hw h
 ·rename_i hw
  simp only [Option.some.injEq,Prod.mk.injEq] at h
  obtain ⟨rfl,rfl⟩:=h
  exact .skip hw
 ·cases h
theorem run_sound {Q:Exit→Act→World→Prop}{Φ:ASt→Prop}{l:List Oper}(h:Run P ops Φ l A) :
  (∀o∈l,∀d,o.dst=some d→C.can d)→∀(a:Act) (w:World),Rel C A a w→(∀A' a' w',Φ A' → Rel C A' a' w' → Q .normal a' w')→wpListIn (fen C) 0 P ops Q l a w:=by
 induction h with
 |nil h=>exact fun _ a w hR hQ=>hQ _ a w h hR
 |eff rs ws h _ ih=>
  intro hd a w hR hQ
  unfold wpListIn
  exact step_next hR (hd _ (by simp)) (stepOp_full h) fun a' w' hR'=>ih (fun o ho=>hd o (by simp [ho])) a' w' hR' hQ
 |call ws hw h _ ih=>
  intro hd a w hR hQ
  obtain ⟨rs,h⟩:=h.full
  unfold wpListIn
  exact step_next hR (hd _ (by simp)) (.call rs ws hw h) fun a' w' hR'=>ih (fun o ho=>hd o (by simp [ho])) a' w' hR' hQ
 |geff b rs d v ho hw h _ ih=>
  intro hd a w hR hQ
  unfold wpListIn
  exact step_next hR (hd _ (by simp)) (.geff rs b d v ho hw (by rw [←Ev.runS_eq];exact h)) fun a' w' hR'=>ih (fun o ho=>hd o (by simp [ho])) a' w' hR' hQ
 |gcall b d v ho hw h _ ih=>
  intro hd a w hR hQ
  obtain ⟨rs,h⟩:=h.full
  unfold wpListIn
  exact step_next hR (hd _ (by simp)) (.gcall rs b d v ho hw h) fun a' w' hR'=>ih (fun o ho=>hd o (by simp [ho])) a' w' hR' hQ
 |cally hdst hw hop hf hcan hwk hcon hok hbh _ ih=>
  intro hd a w hR hQ
  obtain ⟨S,M,ι,hR⟩:=hR
  unfold wpListIn
  rw [if_pos (wanted_rep hR hw)]
  refine Oper.wpIn_mono (fun a' w' h=>?_) (snd_callG hR (hd _ (by simp)) hdst hop hf hcan hwk hcon hok hbh Q)
  obtain ⟨res,obs,hl,hR'⟩:=h
  exact ih res obs hl (fun o ho=>hd o (by simp [ho])) a' w' hR' hQ
 |inv hdst hw hop hf hmeth hcan hwk hcon hok hbh _ ih=>
  intro hd a w hR hQ
  obtain ⟨S,M,ι,hR⟩:=hR
  unfold wpListIn
  rw [if_pos (wanted_rep hR hw)]
  refine Oper.wpIn_mono (fun a' w' h=>?_) (snd_inv hR (hd _ (by simp)) hdst hop hf hmeth hcan hwk hcon hok hbh Q)
  obtain ⟨res,obs,hl,hR'⟩:=h
  exact ih res obs hl (fun o ho=>hd o (by simp [ho])) a' w' hR' hQ
 |yl hdst hw hop hf hc hwk hbh _ ih=>
  intro hd a w hR hQ
  obtain ⟨S,M,ι,hR⟩:=hR
  unfold wpListIn
  rw [if_pos (wanted_rep hR hw)]
  refine Oper.wpIn_mono (fun a' w' h=>?_) (snd_yl hR (hd _ (by simp)) hdst hop hf hc hwk hbh Q)
  obtain ⟨t,hR'⟩:=h
  exact ih t (fun o ho=>hd o (by simp [ho])) a' w' hR' hQ
 |ghost h _ ih=>exact fun hd a w hR hQ=>ih hd a w (h P C a w hR) hQ
 |sem hw h _ ih=>
  intro hd a w hR hQ
  have hR0:=hR
  obtain ⟨S,M,ι,hR⟩:=hR
  unfold wpListIn
  rw [if_pos (wanted_rep hR hw)]
  refine Oper.wpIn_mono (fun a' w' h=>?_) (h C a w Q (hd _ (by simp)) hR0)
  obtain ⟨A',hk,hR'⟩:=h
  exact ih A' hk (fun o ho=>hd o (by simp [ho])) a' w' hR' hQ
def down (ops:Array Oper):Bool:=(List.range ops.size).all fun i=>match ops[i]? with
 |some o=>o.after.all fun e=>!Region.binds .any e || e.on<i
 |none=>true
def OpenL (P:Program)(ops:Array Oper)(Φ:ASt→Prop)(A:ASt):Prop:=
 ∃(n p:Nat) (fs:List Fp) (B:ASt),p≤ops.size∧RunF P ops (List.range p) A fs B∧fs.length=p∧down ops=true∧ordered ops n ((List.range p).zip fs)=true ∧
  (∀q,p≤q→q<ops.size→∀i,i<q→depOn ops n q i=true)∧Run P ops Φ (ops.toList.drop p) B
def Open (P:Program)(ops:Array Oper)(Φ:ASt→Prop)(A:ASt):Prop:=
 (∃(n:Nat) (fs:List Fp) (B:ASt),RunF P ops (List.range ops.size) A fs B∧fs.length=ops.size∧down ops=true∧ordered ops n ((List.range ops.size).zip fs)=true∧Φ B)∨OpenL P ops Φ A
theorem dep_listed {listed:Array Bool}(hclosed:∀i o,ops[i]? = some o→listed.getD i false=true→∀e∈o.after,Region.binds .any e=true→listed.getD e.on false=true) :
  ∀(n i j:Nat) (o:Oper),ops[i]? = some o→(∀e∈o.after,Region.binds .any e=true→listed.getD e.on false=true)→depOn ops n i j=true→listed.getD j false=true
 |0,_,_,_,_,_,h=>by simp [depOn] at h
 |n+1,i,j,o,ho,ha,h=>by
  simp only [depOn,ho] at h
  obtain ⟨k,hk,h⟩:=Array.any_eq_true.1 h
  have he:o.after[k]∈o.after:=Array.getElem_mem hk
  generalize o.after[k]=e at he h
  simp only [Bool.and_eq_true,Bool.or_eq_true,beq_iff_eq] at h
  obtain ⟨hb,h⟩:=h
  have hl:=ha e he hb
  rcases h with h|h
  ·rw [←h];exact hl
  ·cases hoe:ops[e.on]? with
   |none=>cases n<;>simp [depOn,hoe] at h
   |some oe=>exact dep_listed hclosed n e.on j oe hoe (hclosed e.on oe hoe hl) h
theorem ordered_pair {n:Nat}:∀ {l1:List (Nat × Fp)} {p:Nat × Fp} {l2:List (Nat × Fp)},ordered ops n (l1++p::l2)=true→(∀q∈l1,q.2.clash p.2=true→depOn ops n p.1 q.1=true)∧ordered ops n (l1++l2)=true
 |[],p,l2,h=>by
  simp only [List.nil_append,ordered,Bool.and_eq_true] at h
  exact ⟨by simp,h.2⟩
 |(j,g)::l1,p,l2,h=>by
  simp only [List.cons_append,ordered,Bool.and_eq_true,List.all_append,List.all_cons] at h
  obtain ⟨⟨h1,h2,h3⟩,h4⟩:=h
  obtain ⟨k1,k2⟩:=ordered_pair h4
  refine ⟨fun q hq hc=>?_,?_⟩
  ·rcases List.mem_cons.1 hq with rfl|hq
   ·simpa [hc] using h2
   ·exact k1 q hq hc
  ·simp only [List.cons_append,ordered,Bool.and_eq_true,List.all_append]
   exact ⟨⟨h1,h3⟩,k2⟩
theorem down_spec (h:down ops=true){i:Nat}{o:Oper}(ho:ops[i]? = some o):∀e∈o.after,Region.binds .any e=true→e.on<i:=by
 intro e he hb
 have hi:i<ops.size:=(Array.getElem?_eq_some_iff.1 ho).1
 have:=List.all_eq_true.1 h i (List.mem_range.2 hi)
 simp only [ho] at this
 have:=Array.all_eq_true_iff_forall_mem.1 this e he
 simpa [hb] using this
theorem open_any {Q:Exit→Act→World→Prop}{B:ASt}{n:Nat}(hdown:down ops=true)(hd:∀(i:Nat) (o:Oper),ops[i]? = some o→∀d,o.dst=some d→C.can d)(hQ:∀a' w',Rel C B a' w' → Q .normal a' w') :
  ∀(fuel:Nat) (listed:Array Bool) (l:List Nat) (fs:List Fp) (A:ASt) (a:Act) (w:World),l.length=fuel→fs.length=fuel→listed.size=ops.size →
  (∀i,i∈l↔i<ops.size∧listed.getD i true=false)→l.Pairwise (· < ·) →
  (∀(i:Nat) (o:Oper),ops[i]? = some o→listed.getD i false=true→∀e∈o.after,Region.binds .any e=true→listed.getD e.on false=true) →
  RunF P ops l A fs B→ordered ops n (l.zip fs)=true→Rel C A a w→(∀k,fuel≤k→wpAnyIn (fen C) 0 P .any ops Q k listed a w):=by
 intro fuel
 induction fuel with
 |zero=>
  intro listed l fs A a w hl hf hsz hmem hnd hcl hrun hord hR k _
  have hl0:l=[]:=List.eq_nil_of_length_eq_zero hl
  have hf0:fs=[]:=List.eq_nil_of_length_eq_zero hf
  subst hl0 hf0
  have hr:Region.ready .any ops listed=[]:=by
   apply List.eq_nil_iff_forall_not_mem.2
   intro i hi
   obtain ⟨h0,o,ho,_⟩:=mem_ready.1 hi
   have:=(hmem i).2 ⟨(Array.getElem?_eq_some_iff.1 ho).1,h0⟩
   simp at this
  exact wpAnyIn_done hr (hQ a w (rel_same hrun hR)) k
 |succ m ih=>
  intro listed l fs A a w hl hf hsz hmem hnd hcl hrun hord hR k hk
  obtain ⟨k,rfl⟩:∃k',k=k'+1:=⟨k-1,by omega⟩
  have hgd:∀j d,j<ops.size→listed.getD j d=listed.getD j true:=fun j d hj=>by
   simp [Array.getD_eq_getD_getElem?,Array.getElem?_eq_getElem (show j<listed.size by omega)]
  refine ⟨fun hr=>?_,fun i hi=>?_⟩
  ·exfalso
   cases l with
   |nil=>simp at hl
   |cons i l=>
   have hi:=(hmem i).1 (by simp)
   have:i∈Region.ready .any ops listed:=by
    refine mem_ready.2 ⟨hi.2,ops[i]'hi.1,Array.getElem?_eq_getElem hi.1,fun e he hb=>?_⟩
    have hlt:=down_spec hdown (Array.getElem?_eq_getElem hi.1) e he hb
    have hlt':e.on<ops.size:=by omega
    rw [hgd _ _ hlt']
    cases hv:listed.getD e.on true with
    |true=>rfl
    |false=>
     have hm:=(hmem e.on).2 ⟨hlt',hv⟩
     rcases List.mem_cons.1 hm with h|h
     ·omega
     ·have:=(List.pairwise_cons.1 hnd).1 _ h;omega
   rw [hr] at this
   simp at this
  ·obtain ⟨h0,o,ho,haft⟩:=mem_ready.1 hi
   have hil:i∈l:=(hmem i).2 ⟨(Array.getElem?_eq_some_iff.1 ho).1,h0⟩
   obtain ⟨l1,l2,rfl⟩:=List.append_of_mem hil
   -- the footprints, in the same parts
   have hf1:(fs.take l1.length).length=l1.length:=by simp at hl ⊢;omega
   obtain ⟨f,f2,hf2⟩:∃f f2,fs.drop l1.length=f::f2:=by
    cases hq:fs.drop l1.length with
    |nil=>have:=congrArg List.length hq;simp at this hl;omega
    |cons f f2=>exact ⟨f,f2,rfl⟩
   have hfs:fs=fs.take l1.length++f::f2:=by rw [←hf2,List.take_append_drop]
   generalize fs.take l1.length=f1 at hf1 hfs
   subst hfs
   have hzip:(l1++i::l2).zip (f1++f::f2)=l1.zip f1++(i,f)::l2.zip f2:=by
    rw [List.zip_append hf1.symm];rfl
   rw [hzip] at hord
   obtain ⟨hclash,hord'⟩:=ordered_pair hord
   have hnone:∀g∈f1,g.clash f=false:=by
    intro g hg
    obtain ⟨q,hq⟩:=List.getElem?_of_mem hg
    have hql:q<l1.length:=by rw [←hf1];exact (List.getElem?_eq_some_iff.1 hq).1
    have hz:(l1[q],g)∈l1.zip f1:=by
     refine List.mem_of_getElem? (i:=q) ?_
     rw [List.getElem?_zip_eq_some]
     exact ⟨List.getElem?_eq_getElem hql,hq⟩
    cases hc:g.clash f with
    |false=>rfl
    |true=>
     have hdep:=hclash _ hz hc
     have:=dep_listed hcl n i l1[q] o ho haft hdep
     have hm:=(hmem l1[q]).1 (by simp)
     rw [hgd _ _ hm.1,hm.2] at this
     cases this
   obtain ⟨o',ws,ho',hst,hws,hrest⟩:=RunF.front hf1.symm hrun hnone
   rw [ho] at ho'
   simp only [Option.some.injEq] at ho'
   subst ho'
   have hpw:=List.pairwise_append.1 hnd
   have hnd':(l1++l2).Pairwise (· < ·):=List.pairwise_append.2 ⟨hpw.1,(List.pairwise_cons.1 hpw.2.1).2,fun x hx y hy=>hpw.2.2 x hx y V216⟩
   have hni:i ∉ l1++l2:=by
    intro hin
    rcases List.mem_append.1 hin with h|h
    ·have:=hpw.2.2 i h i (by simp);omega
    ·have:=(List.pairwise_cons.1 hpw.2.1).1 i h;omega
   have hmem':∀j,j∈l1++l2↔j<ops.size∧(listed.setIfInBounds i true).getD j true=false:=by
    intro j
    by_cases hji:i=j
    ·subst hji
     have hilt:i<listed.size:=by rw [hsz];exact (Array.getElem?_eq_some_iff.1 ho).1
     have ht:(listed.setIfInBounds i true).getD i true=true:=by simp [Array.getD_eq_getD_getElem?,hilt]
     rw [ht]
     exact ⟨fun h=>absurd h hni,fun h=>by cases h.2⟩
    ·rw [getD_set_ne true hji,←hmem j]
     simp [Ne.symm hji]
   have hcl':∀(j:Nat) (oj:Oper),ops[j]? = some oj→(listed.setIfInBounds i true).getD j false=true→∀e∈oj.after,Region.binds .any e=true→(listed.setIfInBounds i true).getD e.on false=true:=by
    intro j oj hj hlj e he hb
    by_cases hji:i=j
    ·subst hji
     rw [ho] at hj;simp only [Option.some.injEq] at hj;subst hj
     exact getD_set_true (haft e he hb)
    ·rw [getD_set_ne false hji] at hlj
     exact getD_set_true (hcl j oj hj hlj e he hb)
   unfold wpOpIn
   rw [ho]
   have:=step_next (Q:=Q) (K:=wpAnyIn (fen C) 0 P .any ops Q k (listed.setIfInBounds i true)) hR (hd i o ho) hst fun a' w' hR'=>
    ih (listed.setIfInBounds i true) (l1++l2) (f1++f2) _ a' w' (by simp at hl ⊢;omega) (by simp at hf ⊢;omega) (by simpa using hsz) hmem' hnd' hcl' hrest (by rw [List.zip_append hf1.symm];exact hord') hR' k (by omega)
   exact this
theorem seq_any {Q:Exit→Act→World→Prop}{n p:Nat}(hdown:down ops=true)(hdep:∀q,p≤q→q<ops.size→∀i,i<q→depOn ops n q i=true) :
  ∀(m q:Nat) (listed:Array Bool) (a:Act) (w:World),q+m=ops.size→p≤q→listed.size=ops.size→(∀j,j<q→listed.getD j true=true)→(∀j,q≤j→j<ops.size→listed.getD j true=false) →
  (∀(i:Nat) (o:Oper),ops[i]? = some o→listed.getD i false=true→∀e∈o.after,Region.binds .any e=true→listed.getD e.on false=true) →
  wpListIn (fen C) 0 P ops Q (ops.toList.drop q) a w→∀k,m≤k→wpAnyIn (fen C) 0 P .any ops Q k listed a w:=by
 intro m
 induction m with
 |zero=>
  intro q listed a w hq _ hsz h1 _ _ h k _
  have hd:ops.toList.drop q=[]:=List.drop_eq_nil_of_le V214
  rw [hd] at h
  refine wpAnyIn_done ?_ h k
  apply List.eq_nil_iff_forall_not_mem.2
  intro j hj
  obtain ⟨h0,o,ho,_⟩:=mem_ready.1 hj
  have hjl:=(Array.getElem?_eq_some_iff.1 ho).1
  rw [h1 j (by omega)] at h0;cases h0
 |succ m ih=>
  intro q listed a w hq hpq hsz h1 h2 hcl h k hk
  obtain ⟨k,rfl⟩:∃k',k=k'+1:=⟨k-1,by omega⟩
  have hql:q<ops.size:=by omega
  have hgd:∀j d,j<ops.size→listed.getD j d=listed.getD j true:=fun j d hj=>by
   simp [Array.getD_eq_getD_getElem?,Array.getElem?_eq_getElem (show j<listed.size by omega)]
  have hoq:ops[q]? = some ops[q]:=Array.getElem?_eq_getElem hql
  refine ⟨fun hr=>?_,fun i hi=>?_⟩
  ·exfalso
   have:q∈Region.ready .any ops listed:=mem_ready.2 ⟨h2 q (Nat.le_refl _) hql,_,hoq,fun e he hb=>by
    have hlt:=down_spec hdown hoq e he hb
    rw [hgd _ _ (by omega)];exact h1 _ hlt⟩
   rw [hr] at this;simp at this
  ·obtain ⟨h0,o,ho,haft⟩:=mem_ready.1 hi
   have hil:=(Array.getElem?_eq_some_iff.1 ho).1
   have hiq:i=q:=by
    rcases Nat.lt_or_ge i q with h|h
    ·rw [h1 i h] at h0;cases h0
    ·by_cases e:i=q
     ·exact e
     ·exfalso
      have:=dep_listed hcl n i q o ho haft (hdep i (by omega) hil q (by omega))
      rw [hgd _ _ hql,h2 q (Nat.le_refl _) hql] at this
      cases this
   subst hiq
   have hdrop:ops.toList.drop i=o::ops.toList.drop (i+1):=by
    have hl:i<ops.toList.length:=by simpa using hil
    rw [List.drop_eq_getElem_cons hl]
    congr 1
    rw [hoq] at ho;simpa using ho
   rw [hdrop] at h
   have hnext:∀(a':Act) (w':World),wpListIn (fen C) 0 P ops Q (ops.toList.drop (i+1)) a' w' → wpAnyIn (fen C) 0 P .any ops Q k (listed.setIfInBounds i true) a' w':=fun a' w' h=>by
    refine ih (i+1) (listed.setIfInBounds i true) a' w' (by omega) (by omega) (by simpa using hsz) (fun j hj=>?_) (fun j hj hj2=>?_) (fun j oj hj hlj e he hb=>?_) h k (by omega)
    ·by_cases hji:i=j
     ·subst hji;simp [Array.getD_eq_getD_getElem?,show i<listed.size by omega]
     ·rw [getD_set_ne true hji];exact h1 j (by omega)
    ·rw [getD_set_ne true (by omega)];exact h2 j (by omega) hj2
    ·by_cases hji:i=j
     ·subst hji
      rw [ho] at hj;simp only [Option.some.injEq] at hj;subst hj
      exact getD_set_true (haft e he hb)
     ·rw [getD_set_ne false hji] at hlj
      exact getD_set_true (hcl j oj hj hlj e he hb)
   unfold wpOpIn
   rw [ho]
   unfold wpListIn at h
   show (if Region.wanted o (yielded ops a.tmps) then _ else _:Prop)
   split
   ·rename_i hw
    rw [if_pos hw] at h
    exact Oper.wpIn_mono hnext h
   ·rename_i hw
    rw [if_neg hw] at h
    exact ⟨h.1,hnext _ _ h.2⟩
theorem open_anyL {Q:Exit→Act→World→Prop}{B:ASt}{n p:Nat}(hple:p≤ops.size)(hdep:∀q,p≤q→q<ops.size→∀i,i<q→depOn ops n q i=true)(hdown:down ops=true)(hd:∀(i:Nat) (o:Oper),ops[i]? = some o→∀d,o.dst=some d→C.can d)
  (hQ:∀a w,Rel C B a w→wpListIn (fen C) 0 P ops Q (ops.toList.drop p) a w) :
  ∀(fuel:Nat) (listed:Array Bool) (l:List Nat) (fs:List Fp) (A:ASt) (a:Act) (w:World),l.length=fuel→fs.length=fuel→listed.size=ops.size →
  (∀i,i∈l↔i<p∧listed.getD i true=false)→(∀q,p≤q→q<ops.size→listed.getD q true=false)→l.Pairwise (· < ·) →
  (∀(i:Nat) (o:Oper),ops[i]? = some o→listed.getD i false=true→∀e∈o.after,Region.binds .any e=true→listed.getD e.on false=true) →
  RunF P ops l A fs B→ordered ops n (l.zip fs)=true→Rel C A a w→(∀k,fuel+(ops.size-p)≤k→wpAnyIn (fen C) 0 P .any ops Q k listed a w):=by
 intro fuel
 induction fuel with
 |zero=>
  intro listed l fs A a w hl hf hsz hmem hpl hnd hcl hrun hord hR k hk
  have hl0:l=[]:=List.eq_nil_of_length_eq_zero hl
  have hf0:fs=[]:=List.eq_nil_of_length_eq_zero hf
  subst hl0 hf0
  have hon:∀j,j<p→listed.getD j true=true:=fun j hj=>by
   cases h:listed.getD j true with
   |true=>rfl
   |false=>exact absurd ((hmem j).2 ⟨hj,h⟩) (by simp)
  exact seq_any hdown hdep (ops.size-p) p listed a w (by omega) (Nat.le_refl _) hsz hon hpl hcl (hQ a w (rel_same hrun hR)) k (by omega)
 |succ m ih=>
  intro listed l fs A a w hl hf hsz hmem hpl hnd hcl hrun hord hR k hk
  obtain ⟨k,rfl⟩:∃k',k=k'+1:=⟨k-1,by omega⟩
  have hgd:∀j d,j<ops.size→listed.getD j d=listed.getD j true:=fun j d hj=>by
   simp [Array.getD_eq_getD_getElem?,Array.getElem?_eq_getElem (show j<listed.size by omega)]
  refine ⟨fun hr=>?_,fun i hi=>?_⟩
  ·exfalso
   cases l with
   |nil=>simp at hl
   |cons i l=>
   have hi:=(hmem i).1 (by simp)
   have:i∈Region.ready .any ops listed:=by
    have hi1:i<ops.size:=by omega
    refine mem_ready.2 ⟨hi.2,ops[i]'hi1,Array.getElem?_eq_getElem hi1,fun e he hb=>?_⟩
    have hlt:=down_spec hdown (Array.getElem?_eq_getElem hi1) e he hb
    have hlt':e.on<ops.size:=by omega
    rw [hgd _ _ hlt']
    cases hv:listed.getD e.on true with
    |true=>rfl
    |false=>
     have hm:=(hmem e.on).2 ⟨by omega,hv⟩
     rcases List.mem_cons.1 hm with h|h
     ·omega
     ·have:=(List.pairwise_cons.1 hnd).1 _ h;omega
   rw [hr] at this
   simp at this
  ·obtain ⟨h0,o,ho,haft⟩:=mem_ready.1 hi
   have hisz:=(Array.getElem?_eq_some_iff.1 ho).1
   have hip:i<p:=by
    rcases Nat.lt_or_ge i p with h|h
    ·exact h
    ·exfalso
     cases l with
     |nil=>simp at hl
     |cons j l=>
      have hj:=(hmem j).1 (by simp)
      have:=dep_listed hcl n i j o ho haft (hdep i h hisz j (by omega))
      rw [hgd _ _ (by omega),hj.2] at this
      cases this
   have hil:i∈l:=(hmem i).2 ⟨hip,h0⟩
   obtain ⟨l1,l2,rfl⟩:=List.append_of_mem hil
   -- the footprints, in the same parts
   have hf1:(fs.take l1.length).length=l1.length:=by simp at hl ⊢;omega
   obtain ⟨f,f2,hf2⟩:∃f f2,fs.drop l1.length=f::f2:=by
    cases hq:fs.drop l1.length with
    |nil=>have:=congrArg List.length hq;simp at this hl;omega
    |cons f f2=>exact ⟨f,f2,rfl⟩
   have hfs:fs=fs.take l1.length++f::f2:=by rw [←hf2,List.take_append_drop]
   generalize fs.take l1.length=f1 at hf1 hfs
   subst hfs
   have hzip:(l1++i::l2).zip (f1++f::f2)=l1.zip f1++(i,f)::l2.zip f2:=by
    rw [List.zip_append hf1.symm];rfl
   rw [hzip] at hord
   obtain ⟨hclash,hord'⟩:=ordered_pair hord
   have hnone:∀g∈f1,g.clash f=false:=by
    intro g hg
    obtain ⟨q,hq⟩:=List.getElem?_of_mem hg
    have hql:q<l1.length:=by rw [←hf1];exact (List.getElem?_eq_some_iff.1 hq).1
    have hz:(l1[q],g)∈l1.zip f1:=by
     refine List.mem_of_getElem? (i:=q) ?_
     rw [List.getElem?_zip_eq_some]
     exact ⟨List.getElem?_eq_getElem hql,hq⟩
    cases hc:g.clash f with
    |false=>rfl
    |true=>
     have hdep:=hclash _ hz hc
     have:=dep_listed hcl n i l1[q] o ho haft hdep
     have hm:=(hmem l1[q]).1 (by simp)
     rw [hgd _ _ (by omega),hm.2] at this
     cases this
   obtain ⟨o',ws,ho',hst,hws,hrest⟩:=RunF.front hf1.symm hrun hnone
   rw [ho] at ho'
   simp only [Option.some.injEq] at ho'
   subst ho'
   have hpw:=List.pairwise_append.1 hnd
   have hnd':(l1++l2).Pairwise (· < ·):=List.pairwise_append.2 ⟨hpw.1,(List.pairwise_cons.1 hpw.2.1).2,fun x hx y hy=>hpw.2.2 x hx y V216⟩
   have hni:i ∉ l1++l2:=by
    intro hin
    rcases List.mem_append.1 hin with h|h
    ·have:=hpw.2.2 i h i (by simp);omega
    ·have:=(List.pairwise_cons.1 hpw.2.1).1 i h;omega
   have hmem':∀j,j∈l1++l2↔j<p∧(listed.setIfInBounds i true).getD j true=false:=by
    intro j
    by_cases hji:i=j
    ·subst hji
     have hilt:i<listed.size:=by rw [hsz];exact (Array.getElem?_eq_some_iff.1 ho).1
     have ht:(listed.setIfInBounds i true).getD i true=true:=by simp [Array.getD_eq_getD_getElem?,hilt]
     rw [ht]
     exact ⟨fun h=>absurd h hni,fun h=>by cases h.2⟩
    ·rw [getD_set_ne true hji,←hmem j]
     simp [Ne.symm hji]
   have hpl':∀q,p≤q→q<ops.size→(listed.setIfInBounds i true).getD q true=false:=fun q hq hq2=>by rw [getD_set_ne true (by omega)];exact hpl q hq hq2
   have hcl':∀(j:Nat) (oj:Oper),ops[j]? = some oj→(listed.setIfInBounds i true).getD j false=true→∀e∈oj.after,Region.binds .any e=true→(listed.setIfInBounds i true).getD e.on false=true:=by
    intro j oj hj hlj e he hb
    by_cases hji:i=j
    ·subst hji
     rw [ho] at hj;simp only [Option.some.injEq] at hj;subst hj
     exact getD_set_true (haft e he hb)
    ·rw [getD_set_ne false hji] at hlj
     exact getD_set_true (hcl j oj hj hlj e he hb)
   unfold wpOpIn
   rw [ho]
   have:=step_next (Q:=Q) (K:=wpAnyIn (fen C) 0 P .any ops Q k (listed.setIfInBounds i true)) hR (hd i o ho) hst fun a' w' hR'=>
    ih (listed.setIfInBounds i true) (l1++l2) (f1++f2) _ a' w' (by simp at hl ⊢;omega) (by simp at hf ⊢;omega) (by simpa using hsz) hmem' hpl' hnd' hcl' hrest (by rw [List.zip_append hf1.symm];exact hord') hR' k (by omega)
   exact this
theorem open_sound {Q:Exit→Act→World→Prop}{Φ:ASt→Prop}(hm:P.follows .mixedOrders=true)(h:Open P ops Φ A)(hd:∀(i:Nat) (o:Oper),ops[i]? = some o→∀d,o.dst=some d→C.can d)
  {id:Nat} (hR:Rel C A a w) (hQ:∀A' a' w',Φ A' → Rel C A' a' w' → Q .normal a' w'):(Code.region id ops true).wpIn (fen C) 0 P Q a w:=by
 have hR':Rel C A a { w with drawn:=w.drawn+1 }:=by
  obtain ⟨S,M,ι,hR⟩:=hR
  exact ⟨S,M,ι,hR.kept (b:=A.bh) ⟨rfl,rfl,rfl,Nat.le_refl _,fun _ _=>rfl,fun _ _ _=>rfl⟩ (C.E.step hR.env ⟨rfl,rfl,rfl,Nat.le_refl _,fun _ _ _=>rfl,fun _ _ _=>rfl⟩ (fun _ h=>h) (fun _ h=>.inl h) (fun _ _ h=>h) fun _ _ h=>.inl h)⟩
 refine wpIn_region_any hm ?_
 rcases h with ⟨n,fs,B,hrun,hf,hdown,hord,hB⟩|⟨n,p,fs,B,hple,hrun,hf,hdown,hord,hdep,hrest⟩
 rotate_left
 ·refine open_anyL hple hdep hdown hd (fun a w hR=>run_sound hrest (fun o ho d hod=>by
   obtain ⟨i,hi⟩:=List.getElem?_of_mem (List.mem_of_mem_drop ho)
   exact hd i o (by simpa using hi) d hod) a w hR hQ) p _ (List.range p) fs A a _ (by simp) hf (by simp) ?_ ?_ List.pairwise_lt_range ?_ hrun hord hR' _ (by omega)
  ·intro i
   simp only [List.mem_range,Array.getD_eq_getD_getElem?,Array.getElem?_replicate]
   constructor
   ·intro h;simp [show i<ops.size by omega];omega
   ·intro h;exact h.1
  ·intro q _ hq
   simp [Array.getD_eq_getD_getElem?,Array.getElem?_replicate,hq]
  ·intro i o ho hli
   have hi:i<ops.size:=(Array.getElem?_eq_some_iff.1 ho).1
   simp [Array.getD_eq_getD_getElem?,Array.getElem?_replicate,hi] at hli
 refine open_any hdown hd (fun a' w' h=>hQ B a' w' hB h) ops.size _ (List.range ops.size) fs A a _ (by simp) hf (by simp) ?_ List.pairwise_lt_range ?_ hrun hord hR' _ (Nat.le_refl _)
 ·intro i
  simp only [List.mem_range,Array.getD_eq_getD_getElem?,Array.getElem?_replicate]
  constructor
  ·intro h;simp [h]
  ·intro h;exact h.1
 ·intro i o ho hli
  have hi:i<ops.size:=(Array.getElem?_eq_some_iff.1 ho).1
  simp [Array.getD_eq_getD_getElem?,Array.getElem?_replicate,hi] at hli
end sound
end Go.Mw
namespace Go.Mw
open Go.RowKit
section far
variable {P:Program} {C:Ctx P} {S:Settled} {M:Blocks} {ι:Nat→Value} {A:ASt} {a:Act} {w w':World}
theorem repV_mono {S S':Settled}{ι:Nat→Value}{H:Nat→Option AO}{w w':World}{x:AV}{v:Value}(hS:∀b o,S b o→S' b o)(hc:∀b o,S b o→w'.cell? ⟨b,o,none⟩=w.cell? ⟨b,o,none⟩)
  (h:RepV S noVal noObj w x v):RepV S' ι H w' x v:=
 Mv.v (S:=S) (ι:=noVal) (H:=noObj) (w:=w) ⟨fun _ _ h=>h.mono hS hc,fun o ls h=>by simp [noObj] at h,fun o e k es h=>by simp [noObj] at h,fun b o h=>⟨hS b o h,hc b o h⟩,fun o x h=>by simp [noObj] at h⟩ h
theorem mark_inj {rs rs':List Nat}(h:rs.map mark=rs'.map mark):rs=rs':=by
 induction rs generalizing rs' with
 |nil=>cases rs' with
  |nil=>rfl
  |cons _ _=>simp at h
 |cons r rs ih=>cases rs' with
  |nil=>simp at h
  |cons r' rs'=>
   simp only [List.map_cons,List.cons.injEq] at h
   have e:r=r':=by
    have:=h.1
    simp only [mark,Deferred.mk.injEq,Target.collected.injEq,and_true] at this
    exact this
   rw [e,ih h.2]
theorem RelC.far {U:Blocks}(hR:RelC C S M ι A a w)(hobj:∀o x k,A.obj o=some x→blk (ι o)=some k→U k)(hmk:∀r,mark r∈a.defers→U r)(hrd:∀l r,C.rd=some (l,r)→U l)
  (hk:∀k,U k→w'.heap[k]? = w.heap[k]?) (hsz:w.heap.size≤w'.heap.size) (hc:∀b o,S b o→w'.cell? ⟨b,o,none⟩=w.cell? ⟨b,o,none⟩)
  {S':Settled} {M':Blocks} (hS:∀b o,S b o→S' b o) (hM:∀k,M k→M' k) (hN:∀b o,S' b o→S b o∨(M' b∧¬U b)) (hin:∀b o,S' b o→b<w'.heap.size) (hmin:∀k,M' k→k<w'.heap.size)
  {b:Beh} (hJ:C.E.J b S' M' w'):RelC C S' M' ι ⟨A.tm,A.ob,b⟩ a w':=by
 have _:=hsz
 have hm:Mv S ι A.obj w S' ι A.obj w':=⟨fun _ _ h=>h.mono hS hc,fun o ls h=>⟨⟨ls,h⟩,rfl⟩,fun o e k es h=>⟨es,h,Nat.le_refl _,fun _=>rfl⟩,fun b o h=>⟨hS b o h,hc b o h⟩,fun o x h hx=>⟨⟨x,h,hx⟩,rfl⟩⟩
 exact {
  sub:=fun b o h=>hS _ _ (hR.sub b o h)
  new:=fun b o h=>by
   rcases hN b o h with h|h
   ·exact (hR.new b o h).imp id (hM b)
   ·exact .inr h.1
  inn:=hin
  minn:=hmin
  sz:=hR.sz
  tms:=fun s=>hm.v (hR.tms s)
  objs:=fun o x h=>(hR.objs o x h).other hm rfl (fun k hk'=>hk k (hobj o x k h hk')) fun k off hk' hs=>by
   rcases hN k off hs with h1|h1
   ·exact h1
   ·exact absurd (hobj o x k h hk') h1.2
  dis:=hR.dis
  own:=fun o x k h hk'=>hM k (hR.own o x k h hk')
  env:=hJ
  tok:=hR.tok
  fixed:=hR.fixed
  marks:=by
   obtain ⟨rs,h1,h2,h3⟩:=hR.marks
   exact ⟨rs,h1,h2,fun r hr=>⟨hM r (h3 r hr).1,(hk r (hmk r (by rw [h1];exact List.mem_map_of_mem hr))).trans (h3 r hr).2⟩⟩
  rdok:=fun l r h=>⟨hM l (hR.rdok l r h).1,(hk l (hrd l r h)).trans (hR.rdok l r h).2⟩
  pinned:=hR.pinned
  pinN:=hR.pinN }
theorem cell_putObj {l:Nat}{r r':Loop}(hl:w.heap[l]? = some (.loop r))(p:Addr):(w.putObj l (.loop r')).cell? p=w.cell? p:=by
 by_cases e:p.block=l
 ·unfold World.cell?
  rw [e,World.putObj_heap_same (Array.getElem?_eq_some_iff.1 hl).1,hl]
 ·exact World.cell?_of_block (World.putObj_heap_other e)
theorem fr_putObj {l:Nat}{r r':Loop}(hl:w.heap[l]? = some (.loop r))(hM:M l):Fr S M w (w.putObj l (.loop r')):=
 ⟨rfl,rfl,rfl,by simp,fun b _ hb=>World.putObj_heap_other fun e=>hb (e▸hM),fun b o _=>cell_putObj hl _⟩
theorem RelC.putLoop (hR:RelC C S M ι A a w){l:Nat}{r:Loop}(r':Loop)(hl:C.rd=some (l,r)):RelC { C with rd:=some (l,r') } S M ι A a (w.putObj l (.loop r')):=by
 obtain ⟨hM,hheap⟩:=hR.rdok l r hl
 have hlt:=(Array.getElem?_eq_some_iff.1 hheap).1
 have hm:Mv S ι A.obj w S ι A.obj (w.putObj l (.loop r')):=⟨fun _ _ h=>h.mono (fun _ _ h=>h) fun b o _=>cell_putObj hheap _,fun o ls h=>⟨⟨ls,h⟩,rfl⟩,fun o e k es h=>⟨es,h,Nat.le_refl _,fun _=>rfl⟩,fun b o h=>⟨h,cell_putObj hheap _⟩,fun o x h hx=>⟨⟨x,h,hx⟩,rfl⟩⟩
 exact {
  sub:=hR.sub
  new:=hR.new
  inn:=fun b o h=>by simpa using hR.inn b o h
  minn:=fun k h=>by simpa using hR.minn k h
  sz:=hR.sz
  tms:=fun s=>hm.v (hR.tms s)
  objs:=fun o x h=>(hR.objs o x h).other hm rfl (fun k hk=>World.putObj_heap_other fun e=>by
   obtain ⟨_,_,z,hz,hd⟩:=(hR.objs o x h).blk_ge hk
   rw [e,hheap] at hz;cases hz;cases hd) fun _ _ _ h=>h
  dis:=hR.dis
  own:=hR.own
  env:=C.E.step hR.env (fr_putObj hheap hM) (fun _ h=>h) (fun _ h=>.inl h) (fun _ _ h=>h) fun _ _ h=>.inl h
  tok:=hR.tok
  fixed:=hR.fixed
  marks:=by
   obtain ⟨rs,h1,h2,h3⟩:=hR.marks
   exact ⟨rs,h1,h2,fun r1 hr=>⟨(h3 r1 hr).1,(World.putObj_heap_other fun e=>by
    have:=(h3 r1 hr).2
    rw [e,hheap] at this;cases this).trans (h3 r1 hr).2⟩⟩
  rdok:=fun l1 r1 h=>by
   simp only [Option.some.injEq,Prod.mk.injEq] at h
   obtain ⟨rfl,rfl⟩:=h
   exact ⟨hM,World.putObj_heap_same hlt⟩
  pinned:=hR.pinned
  pinN:=hR.pinN }
theorem run_enterLoop_inner {l0:Nat}{r0:Loop}(h0:w.heap[l0]? = some (.loop r0))(fn:FuncId)(tmps:Array Value)(ps:Array Tmp)(assign body:Code) :
  (Instr.enterLoop fn tmps ps assign body (some l0)).run P w =
   .ok (w.heap.size,[]) (w.alloc (.loop { state:=.ready,pending:=none,fn,tmps,params:=ps,assign,body,defers:=r0.defers })):=by
 unfold Instr.enterLoop
 simp only [Sem.run_bind,run_getLoop h0,run_newObj_alloc,Result.andThen,Sem.run_pure]
end far
end Go.Mw
namespace Go.Mw
open Go.RowKit
def ASt.lim (A:ASt)(ss:List Nat):ASt:=⟨ss.map fun s=>(s,A.get s),A.ob,A.bh⟩
theorem look_lim (A:ASt)(s:Nat):∀(ss:List Nat),look (ss.map fun s=>(s,A.get s)) s=if s∈ss then some (A.get s) else none
 |[]=>by simp [look]
 |q::ss=>by
  simp only [List.map_cons,look,look_lim A s ss,List.mem_cons]
  by_cases h:s=q
  ·subst h;simp
  ·simp [h]
theorem get_lim (A:ASt)(ss:List Nat)(s:Nat):(A.lim ss).get s=if s∈ss then A.get s else .dead:=by
 show ((look (ss.map fun s=>(s,A.get s)) s).getD .dead)=_
 rw [look_lim]
 split<;>rfl
def jumpOf:Exit→Option Code
 |.ret=>some .ret
 |.exit i=>some (.exit i)
 |_=>none
structure JitC {P:Program} (C:Ctx P) (a1:Act) (l:Nat) (rc:LoopState→Option Code→Loop) (St:Beh→ASt) (X:Beh→Prop) (Φ:List (Nat × AO)→Exit→ASt→Prop) (b:Beh) (S:Settled) (M:Blocks) (w:World)
  (Sc:Settled) (Mt U:Blocks) (ι:Nat→Value) (A3:ASt) (st:LoopState) (pe:Option Code):Prop where
 rel:RelC C Sc Mt ι A3 a1 w
 umt:∀k,U k→Mt k
 apart:∀k,U k→¬M k
 mmt:∀k,M k→Mt k
 uobj:∀o x k,A3.obj o=some x→blk (ι o)=some k→U k
 umark:∀r,mark r∈a1.defers→U r
 urd:∀l0 r,C.rd=some (l0,r)→U l0∧l0≠l
 ul:U l
 hl:w.heap[l]? = some (.loop (rc st pe))
 ssc:∀b o,S b o→Sc b o
 scs:∀b o,Sc b o→M b→S b o
 mode:(st=.ready∧pe=none∧X b∧A3=St b)∨(∃res obs,b=.ret res obs∧st=.done∧∃e c,jumpOf e=some c∧pe=some c∧Φ obs e A3)
def Jit {P:Program}(C:Ctx P)(a1:Act)(l:Nat)(rc:LoopState→Option Code→Loop)(St:Beh→ASt)(X:Beh→Prop)(Φ:List (Nat × AO)→Exit→ASt→Prop)(b:Beh)(S:Settled)(M:Blocks)(w:World):Prop:=
 ∃Sc Mt U ι A3 st pe,JitC C a1 l rc St X Φ b S M w Sc Mt U ι A3 st pe
section jit
variable {P:Program} {C:Ctx P} {a1:Act} {l:Nat} {rc:LoopState→Option Code→Loop} {St:Beh→ASt} {X:Beh→Prop} {Φ:List (Nat × AO)→Exit→ASt→Prop}
theorem Jit.step {b:Beh}{S:Settled}{M:Blocks}{w:World}{S':Settled}{M':Blocks}{w':World}(h:Jit C a1 l rc St X Φ b S M w)(hf:Fr S M w w')(hM:∀k,M k→M' k)
  (hN:∀k,M' k→M k∨(w.heap.size≤k∧k<w'.heap.size)) (hS:∀k o,S k o→S' k o) (hT:∀k o,S' k o→S k o∨M' k):Jit C a1 l rc St X Φ b S' M' w':=by
 obtain ⟨Sc,Mt,U,ι,A3,st,pe,h⟩:=h
 have hR:=h.rel
 have hU:∀k,U k→w'.heap[k]? = w.heap[k]? :=fun k hk=>hf.block k (hR.minn k (h.umt k hk)) (h.apart k hk)
 have hcell:∀b o,Sc b o→w'.cell? ⟨b,o,none⟩=w.cell? ⟨b,o,none⟩:=fun b o hs=>by
  by_cases hb:M b
  ·exact hf.cell b o (h.scs b o hs hb)
  ·exact World.cell?_of_block (hf.block b (hR.inn b o hs) hb)
 have hap:∀k,U k→¬M' k:=fun k hk hm=>by
  rcases hN k hm with h1|h1
  ·exact h.apart k hk h1
  ·have:=hR.minn k (h.umt k hk);omega
 have hlt:∀k,M' k→k<w'.heap.size:=fun k hk=>by
  rcases hN k hk with h1|h1
  ·exact Nat.lt_of_lt_of_le (hR.minn k (h.mmt k h1)) hf.size
  ·exact h1.2
 have hJ:C.E.J A3.bh (fun b o=>Sc b o∨S' b o) (fun k=>Mt k∨M' k) w':=by
  refine C.E.step hR.env ⟨hf.os,hf.tape,hf.output,hf.size,fun k hk hn=>hf.block k hk fun hm=>hn (h.mmt k hm),hcell⟩ (fun _ h=>.inl h) (fun k hk=>?_) (fun _ _ h=>.inl h) (fun k o hk=>?_)
  ·rcases hk with hk|hk
   ·exact .inl hk
   ·exact (hN k hk).imp (h.mmt k) id
  ·rcases hk with hk|hk
   ·exact .inl hk
   ·rcases hT k o hk with h1|h1
    ·exact .inl (h.ssc k o h1)
    ·exact .inr (.inr h1)
 refine ⟨fun b o=>Sc b o∨S' b o,fun k=>Mt k∨M' k,U,ι,A3,st,pe,{
  rel:=hR.far (U:=U) h.uobj h.umark (fun l0 r hl0=>(h.urd l0 r hl0).1) hU hf.size hcell (fun _ _ h=>.inl h) (fun _ h=>.inl h) (fun b o hs=>?_) (fun b o hs=>?_) (fun k hk=>?_) hJ
  umt:=fun k hk=>.inl (h.umt k hk)
  apart:=hap
  mmt:=fun k hk=>.inr hk
  uobj:=h.uobj
  umark:=h.umark
  urd:=h.urd
  ul:=h.ul
  hl:=(hU l h.ul).trans h.hl
  ssc:=fun b o hs=>.inr hs
  scs:=fun b o hs hm=>?_
  mode:=h.mode }⟩
 ·rcases hs with hs|hs
  ·exact .inl hs
  ·rcases hT b o hs with h1|h1
   ·exact .inl (h.ssc b o h1)
   ·exact .inr ⟨.inr h1,fun hu=>hap b hu h1⟩
 ·rcases hs with hs|hs
  ·exact Nat.lt_of_lt_of_le (hR.inn b o hs) hf.size
  ·rcases hT b o hs with h1|h1
   ·exact Nat.lt_of_lt_of_le (hR.inn b o (h.ssc b o h1)) hf.size
   ·exact hlt b h1
 ·rcases hk with hk|hk
  ·exact Nat.lt_of_lt_of_le (hR.minn k hk) hf.size
  ·exact hlt k hk
 ·rcases hs with hs|hs
  ·rcases hN b hm with h1|h1
   ·exact hS b o (h.scs b o hs h1)
   ·have:=hR.inn b o hs;omega
  ·exact hs
theorem setAll_rep {R:AV→Value→Prop}(N:Nat):∀ {ps:List Nat} {vals:List AV} {vs:List Value} {tmps:Array Value},All2 R vals vs→ps.length=vals.length→ps.Nodup→(∀p∈ps,p<N)→tmps.size=N →
  ((ps.zip vs).foldl (fun t q=>t.setIfInBounds q.1 q.2) tmps).size=N ∧
  ∀s,(∃x,s∈ps∧look (ps.zip vals) s=some x∧R x (((ps.zip vs).foldl (fun t q=>t.setIfInBounds q.1 q.2) tmps).getD s undef)) ∨
   (s ∉ ps∧look (ps.zip vals) s=none∧((ps.zip vs).foldl (fun t q=>t.setIfInBounds q.1 q.2) tmps).getD s undef=tmps.getD s undef)
 |[],vals,vs,tmps,_,_,_,_,hN=>by
  simp [look,hN]
 |p::ps,[],_,_,_,hl,_,_,_=>by simp at hl
 |p::ps,x::vals,[],_,h,_,_,_,_=>h.elim
 |p::ps,x::vals,v::vs,tmps,h,hl,hnd,hlt,hN=>by
  obtain ⟨hnp,hnd'⟩:=List.nodup_cons.1 hnd
  have hp:p<N:=hlt p (by simp)
  obtain ⟨h1,h2⟩:=setAll_rep N (tmps:=tmps.setIfInBounds p v) h.2 V211 hnd' (fun q hq=>hlt q (by simp [hq])) (by simpa using hN)
  simp only [List.zip_cons_cons,List.foldl_cons]
  refine ⟨h1,fun s=>?_⟩
  rcases h2 s with ⟨y,hy1,hy2,hy3⟩|⟨hy1,hy2,hy3⟩
  ·refine .inl ⟨y,by simp [hy1],?_,hy3⟩
   have:s≠p:=fun e=>hnp (e▸hy1)
   simp [look,this,hy2]
  ·by_cases e:s=p
   ·subst e
    refine .inl ⟨x,by simp,by simp [look],?_⟩
    rw [hy3]
    have:(tmps.setIfInBounds s v).getD s undef=v:=by simp [Array.getD_eq_getD_getElem?,hN,hp]
    rw [this];exact h.1
   ·refine .inr ⟨by simp [e,hy1],by simp [look,e,hy2],?_⟩
    rw [hy3]
    simp [Array.getD_eq_getD_getElem?,Ne.symm e]
theorem look_append {α:Type}(s:Nat):∀(l m:List (Nat × α)),look (l++m) s=match look l s with|some x=>some x|none=>look m s
 |[],m=>rfl
 |(k,v)::l,m=>by
  simp only [List.cons_append,look]
  by_cases h:s=k
  ·simp [h]
  ·simp [h,look_append s l m]
end jit
end Go.Mw
namespace Go.Mw
open Go.RowKit
def chain0 (pv:Value):List PanicEntry:=[{ v:=pv,recovered:=false }]
def Pan (P:Program)(pv:Value)(f:FuncId)(args:List AV)(pre:List (Nat × AO)):Prop:=
 ∀(l:Nat) (S:Settled) (M:Blocks) (ι:Nat→Value) (w:World) (vs:List Value),GOk P S w→(∀b o,S b o→b<w.heap.size)→(∀k,M k→k<w.heap.size) →
  (∀o x,look pre o=some x→ObjOK S ι (look pre) w o x) →
  (∀o o' x x' b,look pre o=some x→look pre o'=some x' → o≠o' → blk (ι o)=some b→blk (ι o')≠some b) →
  (∀o x b,look pre o=some x→blk (ι o)=some b→M b) →
  (∀o,look pre o=some .yl→ι o=.func (.yield l) #[] #[]) →
  All2 (RepV S ι (look pre) w) args vs →
  CallsIn Fence.wide 0 P f vs.toArray w fun e w'=>e=.panicked (chain0 pv)∧Fr S M w w'
theorem look_in {α:Type}:∀ {l:List (Nat × α)} {q:Nat} {x:α},look l q=some x→(q,x)∈l
 |[],_,_,h=>by cases h
 |(k,v)::l,q,x,h=>by
  unfold look at h
  split at h
  ·rename_i e;cases h;subst e;simp
  ·exact List.mem_cons_of_mem _ (look_in h)
section pan
variable {P:Program} {C:Ctx P} {S:Settled} {M:Blocks} {ι:Nat→Value} {A:ASt} {a:Act} {w w':World} {o:Oper} {pv:Value}
theorem RelC.forget (hR:RelC C S M ι A a w){U:Blocks}(hU:∀k,U k→∃o x,A.obj o=some x∧blk (ι o)=some k)(hf:Fr S U w w'):Rel C ⟨[],[],A.bh⟩ a w':=by
 have hUM:∀k,U k→M k:=fun k hk=>by obtain ⟨o,x,h1,h2⟩:=hU k hk;exact hR.own o x k h1 h2
 have hstay:∀k y,M k→w.heap[k]? = some y→isData y=false→w'.heap[k]? = some y:=fun k y hm hy hd=>by
  refine (hf.block k (hR.minn k hm) fun hu=>?_).trans hy
  obtain ⟨o,x,h1,h2⟩:=hU k hu
  obtain ⟨_,_,z,hz,hdz⟩:=(hR.objs o x h1).blk_ge h2
  rw [hy] at hz;cases hz;rw [hd] at hdz;cases hdz
 refine ⟨S,M,ι,{
  sub:=hR.sub
  new:=hR.new
  inn:=fun b o h=>Nat.lt_of_lt_of_le (hR.inn b o h) hf.size
  minn:=fun k h=>Nat.lt_of_lt_of_le (hR.minn k h) hf.size
  sz:=hR.sz
  tms:=fun s=>trivial
  objs:=fun o x h=>by cases h
  dis:=fun o o' x x' b h=>by cases h
  own:=fun o x b h=>by cases h
  env:=C.E.step hR.env ⟨hf.os,hf.tape,hf.output,hf.size,fun b hb hn=>hf.block b hb fun hu=>hn (hUM b hu),hf.cell⟩ (fun _ h=>h) (fun _ h=>.inl h) (fun _ _ h=>h) fun _ _ h=>.inl h
  tok:=fun o h=>by cases h
  fixed:=hR.fixed
  marks:=?_
  rdok:=fun l r h=>⟨(hR.rdok l r h).1,hstay l _ (hR.rdok l r h).1 (hR.rdok l r h).2 rfl⟩
  pinned:=fun q u n x _ h=>by cases h
  pinN:=hR.pinN }⟩
 obtain ⟨rs,h1,h2,h3⟩:=hR.marks
 exact ⟨rs,h1,h2,fun r hr=>⟨(h3 r hr).1,hstay r _ (h3 r hr).1 (h3 r hr).2 rfl⟩⟩
theorem snd_panX (hR:RelC C S M ι A a w){g:FuncId}{B:Nat}{avs args:List AV}{us:List Value}{lend:List (Nat × Nat)}{pre:List (Nat × AO)}
  (hexec:(execOp a.eval o).run P w=.ok (.enter g us.toArray) w) (h3:All2 (RepV S ι A.obj w) avs us) (hwk:All2 (WkR (rn lend B) (nms pre)) avs args)
  (hpan:Pan P pv g args pre) (htg:(pre.all fun p=>(tagTy (p.1%1000)).isNone)=true) (lent:∀q x,look pre q=some x→∃n y,look lend q=some n∧A.obj n=some y∧OLe y (x.ren (rn lend B))∧x.inn (nms pre)=true) (inj:∀q q' n,look lend q=some n→look lend q'=some n→q=q')
  (K:Act→World→Prop) (Q:Exit→Act→World→Prop) (hQ:∀a' w',Rel C ⟨[],[],A.bh⟩ a' w' → Q (.panic (chain0 pv)) a' w') :
  o.wpIn (fen C) 0 P a w K Q:=by
 refine wp_run hexec V209 ?_
 rw [Oper.uponIn_enter]
 refine ⟨fen_isSome C,callsIn_fen C ?_⟩
 have rlent:∀q n,look lend q=some n→rn lend B q=n:=fun q n h=>by unfold rn;rw [h]
 have hH:∀q∈nms pre,∃x y,look pre q=some x∧A.obj (rn lend B q)=some y∧OLe y (x.ren (rn lend B)):=by
  intro q hq
  obtain ⟨p,hp,rfl⟩:=List.mem_map.1 hq
  obtain ⟨x,hx⟩:=look_mem hp
  obtain ⟨n,y,hn,hy,hle,_⟩:=lent p.1 x hx
  exact ⟨x,y,hx,by rw [rlent _ n hn];exact hy,hle⟩
 have hargs:All2 (RepV S (fun q=>ι (rn lend B q)) (look pre) w) args us:=by
  clear hpan hexec
  induction args generalizing avs us with
  |nil=>cases avs with
   |nil=>cases us with
    |nil=>trivial
    |cons _ _=>exact h3.elim
   |cons _ _=>exact hwk.elim
  |cons y ys ih=>cases avs with
   |nil=>exact hwk.elim
   |cons x xs=>cases us with
    |nil=>exact h3.elim
    |cons v vs=>exact ⟨repV_un hH hwk.1.1 (hwk.1.2 S ι A.obj w v h3.1),ih h3.2 hwk.2⟩
 have hb2:∀k,lentB ι lend pre k→∃o x,A.obj o=some x∧blk (ι o)=some k:=by
  rintro k ⟨q,n,x,hx,hn,hb⟩
  obtain ⟨n',y,hn',hy,_⟩:=lent q x hx
  rw [hn] at hn';cases hn'
  exact ⟨n,y,hy,hb⟩
 have hcall:=hpan C.E.l S (lentB ι lend pre) (fun q=>ι (rn lend B q)) w us (C.E.glob hR.env) hR.inn (fun k hk=>by obtain ⟨o,x,h1,h2⟩:=hb2 k hk;exact hR.minn k (hR.own o x k h1 h2)) ?_ ?_ ?_ ?_ hargs
 ·refine hcall.mono fun e w' ⟨he,hf⟩=>?_
  subst he
  exact hQ a w' (hR.forget hb2 hf)
 ·intro q x hx
  obtain ⟨n,y,hn,hy,hle,hin⟩:=lent q x hx
  have hy':A.obj (rn lend B q)=some y:=by rw [rlent q n hn];exact hy
  exact objOK_un hH (fun ls e t ht=>by have:=List.all_eq_true.1 htg _ (look_in hx);simp [ht] at this) hle hin (hR.objs _ y hy')
 ·intro q q' x x' k hx hx' hne hb
  obtain ⟨n,y,hn,hy,_⟩:=lent q x hx
  obtain ⟨n',y',hn',hy',_⟩:=lent q' x' hx'
  simp only [rlent q n hn] at hb
  simp only [rlent q' n' hn']
  exact hR.dis n n' y y' k hy hy' (fun e=>hne (inj q q' n hn (e▸hn'))) hb
 ·intro q x k hx hb
  obtain ⟨n,y,hn,hy,_⟩:=lent q x hx
  simp only [rlent q n hn] at hb
  exact ⟨q,n,x,hx,hn,hb⟩
 ·intro q hx
  obtain ⟨n,y,hn,hy,hle,_⟩:=lent q _ hx
  simp only [AO.ren,OLe] at hle
  subst hle
  simp only [rlent q n hn]
  exact hR.tok n hy
def StpPanC (P:Program)(pv:Value)(o:Oper)(A:ASt)(rs:List Loc):Prop:=
 ∃(f:Operand) (as:List Operand) (g:FuncId) (ds:List D) (B:Nat) (args:List AV) (lend:List (Nat × Nat)) (pre:List (Nat × AO)),
  opCall o.op=some (f,as)∧A.ev f=.leaf (.d (.fn g ds))∧canCall P g=true∧All2 (WkR (rn lend B) (nms pre)) (as.map A.ev++ds.map fun x=>.leaf (.d x)) args∧(Pan P pv g args pre∧(pre.all fun p=>(tagTy (p.1%1000)).isNone)=true) ∧
  (∀q x,look pre q=some x→∃n y,look lend q=some n∧A.obj n=some y∧OLe y (x.ren (rn lend B))∧x.inn (nms pre)=true)∧(∀q q' n,look lend q=some n→look lend q'=some n→q=q') ∧
  rs=opLocs (f::as)++lend.map fun p=>.obj p.2
theorem snd_panC (hR:RelC C S M ι A a w){rs:List Loc}(h:StpPanC P pv o A rs)(K:Act→World→Prop)(Q:Exit→Act→World→Prop)(hQ:∀a' w',Rel C ⟨[],[],A.bh⟩ a' w' → Q (.panic (chain0 pv)) a' w') :
  o.wpIn (fen C) 0 P a w K Q:=by
 obtain ⟨f,as,g,ds,B,args,lend,pre,hop,hf,hcan,hwk,⟨hpan,htg⟩,lent,inj,_⟩:=h
 obtain ⟨us,hfv,hus⟩:=FnOf.rep (caps:=ds.map .d) hR (.inl ⟨ds,hf,rfl⟩) (rep_ev hR f)
 cases hop':o.op<;>rw [hop'] at hop<;>try (simp [opCall] at hop;done)
 rename_i c
 obtain ⟨callee,cargs,cty⟩:=c
 cases callee<;>simp only [opCall,reduceCtorEq,Option.some.injEq,Prod.mk.injEq] at hop
 rename_i f'
 obtain ⟨rfl,rfl⟩:=hop
 have hexec:(execOp a.eval o).run P w=.ok (.enter g (cargs.map a.eval++us.toArray)) w:=by
  simp [execOp,hop',resolve,hfv,Deferred.ofValue,invoke,run_callFunc hcan]
 have e1:cargs.map a.eval++us.toArray=(cargs.toList.map a.eval++us).toArray:=by apply Array.ext';simp
 have h1:=rep_evs hR cargs.toList
 have h2:All2 (RepV S ι A.obj w) (ds.map fun x=>AV.leaf (.d x)) us:=by
  have:=all2_map (R:=RepL S ι A.obj w) AV.leaf (fun _ _ h=>leaf_rep h) hus
  rwa [List.map_map] at this
 exact snd_panX hR (by rw [←e1];exact hexec) (h1.append h2) hwk hpan htg lent inj K Q hQ
theorem StpPanC.agree {A':ASt}{rs:List Loc}(h:StpPanC P pv o A rs)(ha:∀l∈rs,Mw.agree A A' l):StpPanC P pv o A' rs:=by
 obtain ⟨f,as,g,ds,B,args,lend,pre,h1,h2,h3,h4,h5,h6,h7,rfl⟩:=h
 have ef:A'.ev f=A.ev f:=ev_agree fun l hl=>ha l V207
 have eas:as.map A'.ev=as.map A.ev:=evs_agree fun l hl=>ha l V207
 refine ⟨f,as,g,ds,B,args,lend,pre,h1,ef.trans h2,h3,by rw [eas];exact h4,h5,fun q x hx=>?_,h7,rfl⟩
 obtain ⟨n,y,hn,hy,hr⟩:=h6 q x hx
 obtain ⟨n',hm⟩:=mem_look hn
 have hn2:∃m,(m,n)∈lend:=by
  clear hm hr hy h6 h7 h4 ha eas ef
  induction lend with
  |nil=>cases hn
  |cons p r ih=>
   obtain ⟨k,v⟩:=p
   by_cases e:q=k
   ·subst e;simp only [look,if_true,Option.some.injEq] at hn;subst hn;exact ⟨q,by simp⟩
   ·simp only [look,if_neg e] at hn
    obtain ⟨m,hm⟩:=ih hn
    exact ⟨m,by simp [hm]⟩
 obtain ⟨m,hm2⟩:=hn2
 have e:Mw.agree A A' (.obj n):=ha (.obj n) (List.mem_append.2 (.inr (List.mem_map.2 ⟨(m,n),hm2,rfl⟩)))
 exact ⟨n,y,hn,Eq.trans e hy,hr⟩
def StpPanI (pv:Value)(o:Oper)(A:ASt)(rs:List Loc):Prop:=∃(x:Operand) (d:D) (t:TypeId) (v:Value),o.op=.panic x∧A.ev x=.leaf (.d d)∧pv=.iface t v∧(∀S w u,RepD S w d u→u=pv)∧rs=opLocs [x]
theorem snd_panI (hR:RelC C S M ι A a w){rs:List Loc}(h:StpPanI pv o A rs)(K:Act→World→Prop)(Q:Exit→Act→World→Prop)(hQ:∀a' w',Rel C ⟨[],[],A.bh⟩ a' w' → Q (.panic (chain0 pv)) a' w') :
  o.wpIn (fen C) 0 P a w K Q:=by
 obtain ⟨x,d,t,v,hop,hx,rfl,hd,_⟩:=h
 have hv:=rep_ev hR x
 rw [hx] at hv
 have hv:=hd _ _ _ (rep_leaf hv)
 refine ⟨fun f _=>fen_fn C f,?_⟩
 have hr:(execOp a.eval o).run P w=.halt (.panic (.iface t v)) w:=by
  simp [execOp,hop,hv,Instr.panic,goPanic]
 rw [Oper.semAt_eq _ _ _ (fun c hc=>by rw [hop] at hc;cases hc),hr]
 exact hQ a w (hR.forget (U:=fun _=>False) (fun _ h=>h.elim) ⟨rfl,rfl,rfl,Nat.le_refl _,fun _ _ _=>rfl,fun _ _ _=>rfl⟩)
def StpPanF (P:Program)(ops:Array Oper)(pv:Value)(o:Oper)(A:ASt)(rs:List Loc):Prop:=wantedA ops o.guard A=some true∧∃rs',rs=guardLoc ops o++rs' ∧ (StpPanC P pv o A rs' ∨ StpPanI pv o A rs')
theorem StpPanF.agree {A':ASt}{ops:Array Oper}{rs:List Loc}(h:StpPanF P ops pv o A rs)(ha:∀l∈rs,Mw.agree A A' l):StpPanF P ops pv o A' rs:=by
 obtain ⟨hw,rs',rfl,h⟩:=h
 refine ⟨(wanted_agree fun l hl=>ha l V217).trans hw,rs',rfl,?_⟩
 rcases h with h|⟨x,d,t,v,h1,h2,h3,h4,rfl⟩
 ·exact .inl (h.agree fun l hl=>ha l V217)
 ·exact .inr ⟨x,d,t,v,h1,(ev_agree fun l hl=>ha l V217).trans h2,h3,h4,rfl⟩
theorem snd_pan {ops:Array Oper}{rs:List Loc}(hR:Rel C A a w)(h:StpPanF P ops pv o A rs):Region.wanted o (yielded ops a.tmps)=true∧∀(K:Act→World→Prop) (Q:Exit→Act→World→Prop),(∀a' w',Rel C ⟨[],[],A.bh⟩ a' w' → Q (.panic (chain0 pv)) a' w')→o.wpIn (fen C) 0 P a w K Q:=by
 obtain ⟨S,M,ι,hR⟩:=hR
 obtain ⟨hw,rs',_,h⟩:=h
 refine ⟨wanted_rep hR hw,fun K Q hQ=>?_⟩
 rcases h with h|h
 ·exact snd_panC hR h K Q hQ
 ·exact snd_panI hR h K Q hQ
end pan
theorem wpIn_monoQ {F:Fence}{n:Nat}{P:Program}{o:Oper}{a:Act}{w:World}{K K':Act→World→Prop}{Q Q':Exit→Act→World→Prop}(h:∀a w,K a w→K' a w)(h1:∀c a w,Q (.panic c) a w→Q' (.panic c) a w)(h2:∀a w,Q .outgrown a w→Q' .outgrown a w)
  (hh:o.wpIn F n P a w K Q):o.wpIn F n P a w K' Q':=by
 unfold Oper.wpIn at *
 refine ⟨hh.1,?_⟩
 have hh:=hh.2
 generalize (o.semAt F.round a.eval).run P w=r at *
 have h3:LetsOut Q→LetsOut Q':=fun ⟨a,w,h⟩=>⟨a,w,h2 a w h⟩
 cases r with
 |ok x w'=>
  cases x<;>simp only [Oper.uponIn] at hh ⊢ <;>
   first
    |exact h _ _ hh
    |exact ⟨hh.1,CallsIn.mono hh.2 (fun e w'' he=>by cases e<;>first|exact h _ _ he|exact h1 _ _ _ he|exact h3 he)⟩
    |exact ⟨hh.1,RowsIn.mono hh.2 (fun _ _ he=>h _ _ he)⟩
    |exact ⟨hh.1,RoundIn.mono hh.2 (fun e w'' he=>by cases e<;>first|exact h _ _ he|exact h1 _ _ _ he|exact h3 he)⟩
    |exact hh.elim
 |halt e w'=>
  cases e<;>simp only [Oper.uponIn] at hh ⊢<;>first|exact h1 _ _ _ hh|exact hh.elim
theorem wpListIn_app {F:Fence}{n:Nat}{P:Program}{ops:Array Oper}{Q:Exit→Act→World→Prop}{l2:List Oper}:∀(l1:List Oper) (a:Act) (w:World),
  wpListIn F n P ops (fun e a w=>match e with |.normal=>wpListIn F n P ops Q l2 a w|e=>Q e a w) l1 a w→wpListIn F n P ops Q (l1++l2) a w
 |[],_,_,h=>h
 |o::l1,a,w,h=>by
  rw [List.cons_append]
  unfold wpListIn at h ⊢
  split at h
  ·rename_i hw
   rw [if_pos hw]
   exact wpIn_monoQ (fun a w h=>wpListIn_app l1 a w h) (fun _ _ _ h=>h) (fun _ _ h=>h) h
  ·rename_i hw
   rw [if_neg hw]
   exact ⟨h.1,wpListIn_app l1 _ w h.2⟩
def RunP (P:Program)(ops:Array Oper)(Φ:Value→ASt→Prop)(A:ASt):Prop:=
 ∃(pv:Value) (l1:List Oper) (o:Oper) (l2:List Oper),ops.toList=l1++o::l2∧Run P ops (fun B=>(∃rs,StpPanF P ops pv o B rs)∧Φ pv ⟨[],[],B.bh⟩) l1 A
theorem runP_sound {P:Program}{C:Ctx P}{ops:Array Oper}{A:ASt}{Q:Exit→Act→World→Prop}{Φ:Value→ASt→Prop}(h:RunP P ops Φ A)(hd:∀o∈ops.toList,∀d,o.dst=some d→C.can d)(a:Act)(w:World)(hR:Rel C A a w)
  (hQ:∀pv A' a' w',Φ pv A' → Rel C A' a' w' → Q (.panic (chain0 pv)) a' w'):wpListIn (fen C) 0 P ops Q ops.toList a w:=by
 obtain ⟨pv,l1,o,l2,e,h⟩:=h
 rw [e] at hd ⊢
 refine wpListIn_app l1 a w (run_sound h (fun o ho=>hd o (by simp [ho])) a w hR fun A' a' w' ⟨⟨rs,h1⟩,h2⟩ hR'=>?_)
 show wpListIn _ _ _ _ _ (o::l2) a' w'
 obtain ⟨hw,hp⟩:=snd_pan hR' h1
 unfold wpListIn
 rw [if_pos hw]
 exact hp _ _ fun a2 w2 h=>hQ pv _ a2 w2 h2 h
def liveOf (ops:Array Oper)(n p:Nat):List Nat:=(List.range ops.size).filter fun i=>!(i==p) && !depOn ops n i p
def deadOK (ops:Array Oper)(n p:Nat):Bool:= !depOn ops n p p&&(List.range ops.size).all fun i=>match ops[i]? with
 |some o=>o.after.all fun e=>!Region.binds .any e || !(e.on==p || depOn ops n e.on p) || depOn ops n i p
 |none=>true
def OpenP (P:Program)(ops:Array Oper)(Φ:Value→ASt→Prop)(A:ASt):Prop:=
 ∃(pv:Value) (n p:Nat) (o:Oper) (fs:List Fp) (B:ASt) (rs:List Loc),ops[p]? = some o∧RunF P ops (liveOf ops n p) A fs B∧StpPanF P ops pv o B rs∧fs.length=(liveOf ops n p).length∧down ops=true ∧
  ordered ops n ((liveOf ops n p).zip fs++[(p,⟨rs,[]⟩)])=true∧deadOK ops n p=true∧Φ pv ⟨[],[],A.bh⟩
theorem RunF.keeps {P:Program}{ops:Array Oper}{rs:List Loc}:∀ {l:List Nat} {A:ASt} {fs:List Fp} {B:ASt},RunF P ops l A fs B→(∀f∈fs,∀x∈f.ws,x ∉ rs)→∀x∈rs,Mw.agree A B x
 |[],_,[],_,h,_,x,_=>h.1 x
 |[],_,_::_,_,h,_,_,_=>h.elim
 |_::_,_,[],_,h,_,_,_=>h.elim
 |i::r,A,f::fs,B,h,hd,x,hx=>by
  obtain ⟨o,ws,h1,h2,h3,h4⟩:=h
  exact agree_trans (put_agree ws A x fun hw=>hd f (by simp) x (h3▸hw) hx) (RunF.keeps h4 (fun g hg=>hd g (by simp [hg])) x hx)
section openp
variable {P:Program} {C:Ctx P} {ops:Array Oper}
theorem deadOK_spec {n p:Nat}(h:deadOK ops n p=true):depOn ops n p p=false∧∀(i:Nat) (o:Oper),ops[i]? = some o→∀e∈o.after,Region.binds .any e=true→(e.on=p∨depOn ops n e.on p=true)→depOn ops n i p=true:=by
 simp only [deadOK,Bool.and_eq_true,Bool.not_eq_true'] at h
 refine ⟨h.1,fun i o ho e he hb hd=>?_⟩
 have hi:i<ops.size:=(Array.getElem?_eq_some_iff.1 ho).1
 have:=List.all_eq_true.1 h.2 i (List.mem_range.2 hi)
 simp only [ho] at this
 have:=Array.all_eq_true_iff_forall_mem.1 this e he
 rcases hd with hd|hd<;>simpa [hb,hd] using this
theorem open_pan {Q:Exit→Act→World→Prop}{B:ASt}{b0:Beh}{n p:Nat}{op:Oper}{pv:Value}{rs:List Loc}(hop:ops[p]? = some op)(hB:StpPanF P ops pv op B rs)(hdown:down ops=true)(hdead:deadOK ops n p=true)(hd:∀(i:Nat) (o:Oper),ops[i]? = some o→∀d,o.dst=some d→C.can d)
  (hQ:∀a' w',Rel C ⟨[],[],b0⟩ a' w' → Q (.panic (chain0 pv)) a' w') :
  ∀(fuel:Nat) (listed:Array Bool) (l:List Nat) (fs:List Fp) (A:ASt) (a:Act) (w:World),l.length=fuel→fs.length=fuel→listed.size=ops.size→A.bh=b0 →
  (∀i,i∈l↔i<ops.size∧listed.getD i true=false∧i≠p∧depOn ops n i p=false)→listed.getD p false=false→l.Pairwise (· < ·) →
  (∀(i:Nat) (o:Oper),ops[i]? = some o→listed.getD i false=true→∀e∈o.after,Region.binds .any e=true→listed.getD e.on false=true) →
  RunF P ops l A fs B→ordered ops n (l.zip fs++[(p,⟨rs,[]⟩)])=true→Rel C A a w→(∀k,fuel+1≤k→wpAnyIn (fen C) 0 P .any ops Q k listed a w):=by
 intro fuel
 obtain ⟨hpp,hdep⟩:=deadOK_spec hdead
 have hpsz:p<ops.size:=(Array.getElem?_eq_some_iff.1 hop).1
 induction fuel using Nat.strongRecOn with
 |_ fuel ih=>
  intro listed l fs A a w hl hf hsz hbh hmem hpl hnd hcl hrun hord hR k hk
  obtain ⟨k,rfl⟩:∃k',k=k'+1:=⟨k-1,by omega⟩
  have hgd:∀j d,j<ops.size→listed.getD j d=listed.getD j true:=fun j d hj=>by
   simp [Array.getD_eq_getD_getElem?,Array.getElem?_eq_getElem (show j<listed.size by omega)]
  have hpl':listed.getD p true=false:=by rw [←hgd p false hpsz];exact hpl
  -- an operation that is not listed, nor hangs on p, is ready if what it hangs on is
  have hrdy:∀i,i<ops.size→listed.getD i true=false→(i=p∨depOn ops n i p=false)→(∀j∈l,i≤j)→i∈Region.ready .any ops listed:=by
   intro i hi hli hip hmin
   refine mem_ready.2 ⟨hli,ops[i],Array.getElem?_eq_getElem hi,fun e he hb=>?_⟩
   have hlt:=down_spec hdown (Array.getElem?_eq_getElem hi) e he hb
   have hlt':e.on<ops.size:=by omega
   rw [hgd _ _ hlt']
   cases hv:listed.getD e.on true with
   |true=>rfl
   |false=>
    have hdi:∀h:e.on=p∨depOn ops n e.on p=true,False:=fun h=>by
     have:=hdep i ops[i] (Array.getElem?_eq_getElem hi) e he hb h
     rcases hip with rfl|hip
     ·rw [hpp] at this;cases this
     ·rw [hip] at this;cases this
    have hm:=(hmem e.on).2 ⟨hlt',hv,fun h=>hdi (.inl h),by cases hq:depOn ops n e.on p with
     |false=>rfl
     |true=>exact (hdi (.inr hq)).elim⟩
    have:=hmin _ hm
    omega
  refine ⟨fun hr=>?_,fun i hi=>?_⟩
  ·exfalso
   cases hl0:l with
   |nil=>
    have:=hrdy p hpsz hpl' (.inl rfl) (by rw [hl0];simp)
    rw [hr] at this;simp at this
   |cons i l'=>
    have hi:=(hmem i).1 (by rw [hl0];simp)
    have:=hrdy i hi.1 hi.2.1 (.inr hi.2.2.2) fun j hj=>by
     rw [hl0] at hj hnd
     rcases List.mem_cons.1 hj with rfl|hj
     ·exact Nat.le_refl _
     ·exact Nat.le_of_lt ((List.pairwise_cons.1 hnd).1 j hj)
    rw [hr] at this;simp at this
  ·obtain ⟨h0,o,ho,haft⟩:=mem_ready.1 hi
   by_cases hip:i=p
   ·subst hip
    rw [hop] at ho;simp only [Option.some.injEq] at ho;subst ho
    have hno:∀f∈fs,∀x∈f.ws,x ∉ rs:=by
     intro f hf' x hx hxr
     obtain ⟨q,hq⟩:=List.getElem?_of_mem hf'
     have hql:q<l.length:=by rw [hl,←hf];exact (List.getElem?_eq_some_iff.1 hq).1
     have hz:(l[q],f)∈l.zip fs:=by
      refine List.mem_of_getElem? (i:=q) ?_
      rw [List.getElem?_zip_eq_some]
      exact ⟨List.getElem?_eq_getElem hql,hq⟩
     have hc:f.clash ⟨rs,[]⟩=true:=by
      cases hc:f.clash ⟨rs,[]⟩ with
      |true=>rfl
      |false=>
       simp only [Fp.clash,Bool.not_eq_false',Bool.and_eq_true] at hc
       exact absurd hxr (disj_spec hc.1.1 x hx)
     have hdp:=(ordered_pair hord).1 _ hz hc
     have:=dep_listed hcl n i l[q] op hop haft hdp
     have hm:=(hmem l[q]).1 (by simp)
     rw [hgd _ _ hm.1,hm.2.1] at this
     cases this
    obtain ⟨hw,hp⟩:=snd_pan hR (hB.agree fun x hx=>agree_symm (hrun.keeps hno x hx))
    unfold wpOpIn
    rw [hop]
    simp only [hw,if_true]
    exact hp _ _ fun a' w' h=>hQ a' w' (hbh▸h)
   ·have hnd2:depOn ops n i p=false:=by
     cases hq:depOn ops n i p with
     |false=>rfl
     |true=>
      have:=dep_listed hcl n i p o ho haft hq
      rw [hpl] at this;cases this
    have hil:i∈l:=(hmem i).2 ⟨(Array.getElem?_eq_some_iff.1 ho).1,h0,hip,hnd2⟩
    obtain ⟨l1,l2,rfl⟩:=List.append_of_mem hil
    have hf1:(fs.take l1.length).length=l1.length:=by simp at hl ⊢;omega
    obtain ⟨f,f2,hf2⟩:∃f f2,fs.drop l1.length=f::f2:=by
     cases hq:fs.drop l1.length with
     |nil=>have:=congrArg List.length hq;simp at this hl;omega
     |cons f f2=>exact ⟨f,f2,rfl⟩
    have hfs:fs=fs.take l1.length++f::f2:=by rw [←hf2,List.take_append_drop]
    generalize fs.take l1.length=f1 at hf1 hfs
    subst hfs
    have hzip:(l1++i::l2).zip (f1++f::f2)++[(p,(⟨rs,[]⟩:Fp))]=l1.zip f1++(i,f)::(l2.zip f2++[(p,⟨rs,[]⟩)]):=by
     rw [List.zip_append hf1.symm,List.append_assoc];rfl
    rw [hzip] at hord
    obtain ⟨hclash,hord'⟩:=ordered_pair hord
    have hnone:∀g∈f1,g.clash f=false:=by
     intro g hg
     obtain ⟨q,hq⟩:=List.getElem?_of_mem hg
     have hql:q<l1.length:=by rw [←hf1];exact (List.getElem?_eq_some_iff.1 hq).1
     have hz:(l1[q],g)∈l1.zip f1:=by
      refine List.mem_of_getElem? (i:=q) ?_
      rw [List.getElem?_zip_eq_some]
      exact ⟨List.getElem?_eq_getElem hql,hq⟩
     cases hc:g.clash f with
     |false=>rfl
     |true=>
      have hdep:=hclash _ hz hc
      have:=dep_listed hcl n i l1[q] o ho haft hdep
      have hm:=(hmem l1[q]).1 (by simp)
      rw [hgd _ _ hm.1,hm.2.1] at this
      cases this
    obtain ⟨o',ws,ho',hst,hws,hrest⟩:=RunF.front hf1.symm hrun hnone
    rw [ho] at ho'
    simp only [Option.some.injEq] at ho'
    subst ho'
    have hpw:=List.pairwise_append.1 hnd
    have hnd':(l1++l2).Pairwise (· < ·):=List.pairwise_append.2 ⟨hpw.1,(List.pairwise_cons.1 hpw.2.1).2,fun x hx y hy=>hpw.2.2 x hx y V216⟩
    have hni:i ∉ l1++l2:=by
     intro hin
     rcases List.mem_append.1 hin with h|h
     ·have:=hpw.2.2 i h i (by simp);omega
     ·have:=(List.pairwise_cons.1 hpw.2.1).1 i h;omega
    have hmem':∀j,j∈l1++l2↔j<ops.size∧(listed.setIfInBounds i true).getD j true=false∧j≠p∧depOn ops n j p=false:=by
     intro j
     by_cases hji:i=j
     ·subst hji
      have hilt:i<listed.size:=by rw [hsz];exact (Array.getElem?_eq_some_iff.1 ho).1
      have ht:(listed.setIfInBounds i true).getD i true=true:=by simp [Array.getD_eq_getD_getElem?,hilt]
      rw [ht]
      exact ⟨fun h=>absurd h hni,fun h=>by cases h.2.1⟩
     ·rw [getD_set_ne true hji,←hmem j]
      simp [Ne.symm hji]
    have hcl':∀(j:Nat) (oj:Oper),ops[j]? = some oj→(listed.setIfInBounds i true).getD j false=true→∀e∈oj.after,Region.binds .any e=true→(listed.setIfInBounds i true).getD e.on false=true:=by
     intro j oj hj hlj e he hb
     by_cases hji:i=j
     ·subst hji
      rw [ho] at hj;simp only [Option.some.injEq] at hj;subst hj
      exact getD_set_true (haft e he hb)
     ·rw [getD_set_ne false hji] at hlj
      exact getD_set_true (hcl j oj hj hlj e he hb)
    unfold wpOpIn
    rw [ho]
    have hlen:(l1++l2).length<fuel:=by simp at hl ⊢;omega
    exact step_next (Q:=Q) (K:=wpAnyIn (fen C) 0 P .any ops Q k (listed.setIfInBounds i true)) hR (hd i o ho) hst fun a' w' hR'=>
     ih (l1++l2).length hlen (listed.setIfInBounds i true) (l1++l2) (f1++f2) _ a' w' rfl (by simp at hf hl ⊢;omega) (by simpa using hsz) (by rw [put_bh];exact hbh) hmem' (by rw [getD_set_ne false hip];exact hpl) hnd' hcl' hrest (by rw [List.zip_append hf1.symm,List.append_assoc];exact hord') hR' k (by omega)
theorem openP_sound {Q:Exit→Act→World→Prop}{Φ:Value→ASt→Prop}{A:ASt}{a:Act}{w:World}(hm:P.follows .mixedOrders=true)(h:OpenP P ops Φ A)(hd:∀(i:Nat) (o:Oper),ops[i]? = some o→∀d,o.dst=some d→C.can d)
  {id:Nat} (hR:Rel C A a w) (hQ:∀pv A' a' w',Φ pv A' → Rel C A' a' w' → Q (.panic (chain0 pv)) a' w'):(Code.region id ops true).wpIn (fen C) 0 P Q a w:=by
 obtain ⟨pv,n,p,o,fs,B,rs,hop,hrun,hB,hf,hdown,hord,hdead,hΦ⟩:=h
 have hR':Rel C A a { w with drawn:=w.drawn+1 }:=by
  obtain ⟨S,M,ι,hR⟩:=hR
  exact ⟨S,M,ι,hR.kept (b:=A.bh) ⟨rfl,rfl,rfl,Nat.le_refl _,fun _ _=>rfl,fun _ _ _=>rfl⟩ (C.E.step hR.env ⟨rfl,rfl,rfl,Nat.le_refl _,fun _ _ _=>rfl,fun _ _ _=>rfl⟩ (fun _ h=>h) (fun _ h=>.inl h) (fun _ _ h=>h) fun _ _ h=>.inl h)⟩
 have hpsz:p<ops.size:=(Array.getElem?_eq_some_iff.1 hop).1
 refine wpIn_region_any hm ?_
 have hlt:(liveOf ops n p).length+1≤ops.size:=by
  have h1:(List.range ops.size).length=ops.size:=List.length_range
  have h2:(liveOf ops n p).length<(List.range ops.size).length:=by
   refine List.length_filter_lt_length_iff_exists.2 ⟨p,List.mem_range.2 hpsz,by simp⟩
  omega
 have hrep:∀i,i<ops.size→∀d,(Array.replicate ops.size false).getD i d=false:=fun i hi d=>by simp [Array.getD_eq_getD_getElem?,Array.getElem?_replicate,hi]
 refine open_pan hop hB hdown hdead hd (fun a' w' h=>hQ pv _ a' w' hΦ h) (liveOf ops n p).length _ (liveOf ops n p) fs A a _ rfl hf (by simp) rfl ?_ (hrep p hpsz _) ?_ ?_ hrun hord hR' _ hlt
 ·intro i
  simp only [liveOf,List.mem_filter,List.mem_range,Bool.and_eq_true,Bool.not_eq_true',beq_eq_false_iff_ne,ne_eq]
  exact ⟨fun ⟨h1,h2,h3⟩=>⟨h1,hrep i h1 _,h2,h3⟩,fun ⟨h1,_,h2,h3⟩=>⟨h1,h2,h3⟩⟩
 ·exact List.Pairwise.filter _ List.pairwise_lt_range
 ·intro i o ho hli
  rw [hrep i (Array.getElem?_eq_some_iff.1 ho).1] at hli
  cases hli
end openp
end Go.Mw
namespace Go.Mw
open Go.RowKit
def dstOK (p:Nat→Bool):Code→Bool
 |.region _ ops _=>ops.all fun o=>match o.dst with|some d=>p d|none=>true
 |.seq x y=>dstOK p x&&dstOK p y
 |.cond _ x y=>dstOK p x&&dstOK p y
 |.block _ x=>dstOK p x
 |.loop x=>dstOK p x
 |.scope x=>dstOK p x
 |.rangeFunc _ ps x y=>ps.toList.all p&&(dstOK p x&&dstOK p y)
 |_=>true
def off (ss:List Nat)(d:Nat):Bool:= !ss.contains d
def loopDst (ss:List Nat)(ps:Array Tmp)(x y:Code):Bool:=ps.toList.all (off ss)&&decide ps.toList.Nodup&&dstOK (off ss) x&&dstOK (off ss) y
def Restr (A A':ASt):Prop:=(∀(S:Settled) (ι:Nat→Value) (w:World) (s:Nat) (v:Value),RepV S ι A.obj w (A.get s) v→RepV S ι A'.obj w (A'.get s) v) ∧
 (∀(S:Settled) (ι:Nat→Value) (w:World) (o:Nat) (x':AO),A'.obj o=some x' → ∃x,A.obj o=some x∧(ObjOK S ι A.obj w o x→ObjOK S ι A'.obj w o x')∧(x'=.yl→x=.yl)∧∀u v n,x.pinned u v n→x'.pinned u v n)∧A'.bh=A.bh
def lendOK (T:Nat)(pre ob:List (Nat × AO)):Prop:=look pre T=none∧∀q x,look pre q=some x→x≠.yl∧x.inn (nms pre)=true∧look ob q=none
def backOK (pre obs ob:List (Nat × AO)):Prop:=∀q x',look obs q=some x' → look ob q=none∧x' ≠ .yl∧∃x,look pre q=some x∧Back x x'
def Exec (P:Program):Code→(Exit→ASt→Prop)→ASt→Prop
 |.skip,Φ,A=>Φ .normal A
 |.region _ ops false,Φ,A=>Run P ops (Φ .normal) ops.toList A∨RunP P ops (fun pv=>Φ (.panic (chain0 pv))) A
 |.region _ ops true,Φ,A=>(∃A',Ghost A A' ∧ Open P ops (fun B=>∃B',Ghost B B' ∧ Φ .normal B') A')∨∃A',Ghost A A' ∧ OpenP P ops (fun pv=>Φ (.panic (chain0 pv))) A'
 |.seq x y,Φ,A=>Exec P x (fun e A'=>match e with |.normal=>∃B,Ghost A' B∧Exec P y Φ B|e=>Φ e A') A
 |.cond c x y,Φ,A=>∃b,asBool (A.ev c)=some b∧(b=true→Exec P x Φ A)∧(b=false→Exec P y Φ A)
 |.block id body,Φ,A=>Exec P body (fun e A'=>match e with |.exit j=>if j=id then Φ .normal A' else Φ (.exit j) A'|e=>Φ e A') A
 |.loop body,Φ,A=>∃I:Nat→ASt→Prop,(∃n A',Ghost A A' ∧ I n A')∧∀n A1,I n A1→Exec P body (fun e A2=>match e with |.normal=>∃m A3,m<n∧Ghost A2 A3∧I m A3|e=>Φ e A2) A1
 |.exit id,Φ,A=>Φ (.exit id) A
 |.ret,Φ,A=>Φ .ret A
 |.label _,Φ,A=>Φ .normal A
 |.scope body,Φ,A=>Exec P body (fun e A'=>match e with |.goto _=>False|e=>Φ e A') A
 |.rangeFunc g ps assign body,Φ,A=>∃(gf:FuncId) (ds:List D) (args:List AV) (T:Nat) (b0:Beh) (tm0 tm:List (Nat × AV)) (ob:Beh→List (Nat × AO)) (bh:Beh→Beh) (X:Beh→Prop) (pre:List (Nat × AO)),
   (ASt.mk tm (ob b0) (bh b0)).ev g=.leaf (.d (.fn gf ds))∧canCall P gf=true∧All2 WkP (ds.map fun x=>.leaf (.d x)) args∧Con P gf (.leaf (.obj T)::args) ((T,.yl)::pre) b0 ∧
   Ghost A ⟨tm0,pre++ob b0,bh b0⟩∧Restr ⟨tm0,pre++ob b0,bh b0⟩ ⟨tm,ob b0,bh b0⟩∧lendOK T pre (ob b0)∧X b0∧loopDst (tm.map Prod.fst) ps assign body=true ∧
   (∀vals k,X (.yld vals k)→vals.length=ps.size∧Exec P assign (fun e A1=>e=.normal∧Exec P body (fun e A2=>match e with
     |.normal=>Ghost (A2.lim (tm.map Prod.fst)) ⟨tm,ob (k true),bh (k true)⟩∧X (k true)
     |.ret=>∃res obs,k false=.ret res obs∧backOK pre obs A2.ob∧Φ .ret ⟨(A2.lim (tm.map Prod.fst)).tm,obs++A2.ob,A2.bh⟩
     |.exit i=>∃res obs,k false=.ret res obs∧backOK pre obs A2.ob∧Φ (.exit i) ⟨(A2.lim (tm.map Prod.fst)).tm,obs++A2.ob,A2.bh⟩
     |_=>False) A1) ⟨ps.toList.zip vals++tm,ob (.yld vals k),bh (.yld vals k)⟩) ∧
   (∀res obs,X (.ret res obs)→backOK pre obs (ob (.ret res obs))∧Φ .normal ⟨tm,obs++ob (.ret res obs),bh (.ret res obs)⟩)
 |_,_,_=>False
def Sound (P:Program)(p:Nat→Bool)(c:Code):Prop:=∀(C:Ctx P) (Φ:Exit→ASt→Prop) (A:ASt) (a:Act) (w:World),(∀d,p d=true→C.can d)→Exec P c Φ A→Rel C A a w →
 ∀Q:Exit→Act→World→Prop,(∀e A' a' w',Φ e A' → Rel C A' a' w' → Q e a' w')→c.wpIn (fen C) 0 P Q a w
theorem Ghost.lim (A:ASt)(ss:List Nat):Ghost A (A.lim ss):=
 ghost_of (fun S ι w s v h=>by rw [get_lim];split;exact h;trivial) fun S ι w o x' h=>⟨x',h,fun h=>h,fun h=>h,fun _ _ _ h=>h⟩
section round
variable {P:Program} {C:Ctx P} {a1:Act} {l:Nat} {fn:FuncId} {ps:Array Tmp} {assign body:Code} {D:Nat} {X:Beh→Prop} {Φ:List (Nat × AO)→Exit→ASt→Prop}
def recOf (fn:FuncId)(tmps:Array Value)(ps:Array Tmp)(assign body:Code)(D:Nat)(st:LoopState)(pe:Option Code):Loop:={ state:=st,pending:=pe,fn,tmps,params:=ps,assign,body,defers:=D }
def rndCtx (C:Ctx P)(Sc:Settled)(Mt L:Blocks)(w:World)(h0:∀k,Mt k→k<w.heap.size)(ss:List Nat)(tmps:Array Value)(l:Nat)(r:Loop):Ctx P:=
 { E:=C.E.frame id (fun _ _=>rfl) Sc Mt L w h0,S0:=Sc,N:=C.N,fix:=fun s=>if s∈ss then some (tmps.getD s undef) else C.fix s,rd:=some (l,r),pin:=C.pin,lim:=C.lim }
theorem round_back {St:Beh→ASt}{b:Beh}{S:Settled}{M:Blocks}{w:World}{Sc:Settled}{Mt U:Blocks}{ι:Nat→Value}{A3:ASt}{st:LoopState}{pe:Option Code}{rc:LoopState→Option Code→Loop}
  (h:JitC C a1 l rc St X Φ b S M w Sc Mt U ι A3 st pe) {L:Blocks} (hL:∀k,L k↔((∃o x,A3.obj o=some x∧blk (ι o)=some k)∨k=l)) {ss:List Nat} {r r':Loop} {S3:Settled} {M3:Blocks} {ι3:Nat→Value} {A4:ASt} {a2:Act} {w2:World}
  (hR:RelC (rndCtx C Sc Mt L w h.rel.minn ss a1.tmps l r) S3 M3 ι3 A4 a2 w2) (hdead:∀s,s ∉ ss→A4.get s=.dead) {b':Beh} {st':LoopState} {pe':Option Code} (hr':r'=rc st' pe')
  (hmode:(st'=.ready∧pe'=none∧X b' ∧ A4=St b')∨(∃res obs,b'=.ret res obs∧st'=.done∧∃e c,jumpOf e=some c∧pe'=some c∧Φ obs e A4)) :
  Keep S M w (w2.putObj l (.loop r'))∧Jit C a1 l rc St X Φ b' S M (w2.putObj l (.loop r')):=by
 have hR0:=h.rel
 obtain ⟨hJ,hkeep,hM3,hsz,hcell,hos,htape,hout⟩:=hR.env
 have hLl:L l:=(hL l).2 (.inr rfl)
 obtain ⟨hMl,hl2⟩:=hR.rdok l r rfl
 have hLU:∀k,L k→U k:=fun k hk=>by
  rcases (hL k).1 hk with ⟨o,x,h1,h2⟩|rfl
  ·exact h.uobj o x k h1 h2
  ·exact h.ul
 have hML:∀k,M k→¬L k:=fun k hk hl=>h.apart k (hLU k hl) hk
 have hMl':∀k,M k→k≠l:=fun k hk e=>h.apart l h.ul (e▸hk)
 have hM3M:∀k,M3 k→¬M k:=fun k hk hm=>by
  rcases hM3 k hk with h1|h1
  ·exact hML k hm h1
  ·have:=hR0.minn k (h.mmt k hm);omega
 have hcell':∀b o,Sc b o→(w2.putObj l (.loop r')).cell? ⟨b,o,none⟩=w.cell? ⟨b,o,none⟩:=fun b o hs=>(cell_putObj hl2 _).trans (hcell b o hs).2
 -- other records and marks
 have hold:∀k y,U k→k≠l→w.heap[k]? = some y→isData y=false→(w2.putObj l (.loop r')).heap[k]? = some y:=fun k y hu hne hy hd=>by
  refine (World.putObj_heap_other hne).trans ((hkeep k (h.umt k hu) fun hl=>?_).trans hy)
  rcases (hL k).1 hl with ⟨o,x,h1,h2⟩|e
  ·obtain ⟨_,_,z,hz,hdz⟩:=(hR0.objs o x h1).blk_ge h2
   rw [hy] at hz;cases hz;rw [hd] at hdz;cases hdz
  ·exact hne e
 have hm:Mv S3 ι3 A4.obj w2 S3 ι3 A4.obj (w2.putObj l (.loop r')):=⟨fun _ _ h=>h.mono (fun _ _ h=>h) fun b o _=>cell_putObj hl2 _,fun o ls h=>⟨⟨ls,h⟩,rfl⟩,fun o e k es h=>⟨es,h,Nat.le_refl _,fun _=>rfl⟩,fun b o hs=>⟨hs,cell_putObj hl2 _⟩,fun o x h hx=>⟨⟨x,h,hx⟩,rfl⟩⟩
 refine ⟨⟨hos,htape,hout,by simpa using hsz,fun k hk=>(World.putObj_heap_other (hMl' k hk)).trans (hkeep k (h.mmt k hk) (hML k hk)),fun b o hs=>hcell' b o (h.ssc b o hs)⟩,?_⟩
 refine ⟨S3,fun k=>Mt k∨M3 k,fun k=>U k∨M3 k,ι3,A4,st',pe',{
  rel:={
   sub:=fun b o hs=>(hcell b o (hR0.sub b o hs)).1
   new:=fun b o hs=>by
    rcases hR.new b o hs with h1|h1
    ·exact (hR0.new b o h1).imp id .inl
    ·exact .inr (.inr h1)
   inn:=fun b o hs=>by simpa using hR.inn b o hs
   minn:=fun k hk=>by
    rcases hk with hk|hk
    ·have:=hR0.minn k hk;simp;omega
    ·simpa using hR.minn k hk
   sz:=hR0.sz
   tms:=fun s=>by
    by_cases hs:s∈ss
    ·have h1:=hm.v (hR.tms s)
     have h2:=hR.fixed s (a1.tmps.getD s undef) (by simp [rndCtx,hs])
     rw [h2] at h1
     exact h1
    ·rw [hdead s hs];trivial
   objs:=fun o x ho=>(hR.objs o x ho).other hm rfl (fun k hk=>World.putObj_heap_other fun e=>by
    obtain ⟨_,_,z,hz,hd⟩:=(hR.objs o x ho).blk_ge hk
    rw [e,hl2] at hz;cases hz;cases hd) fun _ _ _ h=>h
   dis:=hR.dis
   own:=fun o x k ho hk=>.inr (hR.own o x k ho hk)
   env:=C.E.step hJ (fr_putObj hl2 (.inr hMl)) (fun _ h=>h) (fun _ h=>.inl h) (fun _ _ h=>h) fun _ _ h=>.inl h
   tok:=hR.tok
   fixed:=hR0.fixed
   marks:=by
    obtain ⟨rs,h1,h2,h3⟩:=hR0.marks
    refine ⟨rs,h1,h2,fun q hq=>⟨.inl (h3 q hq).1,hold q _ (h.umark q (by rw [h1];exact List.mem_map_of_mem hq)) (fun e=>?_) (h3 q hq).2 rfl⟩⟩
    have:=(h3 q hq).2
    rw [e,h.hl] at this;cases this
   rdok:=fun l0 r0 hl0=>⟨.inl (hR0.rdok l0 r0 hl0).1,hold l0 _ (h.urd l0 r0 hl0).1 (h.urd l0 r0 hl0).2 (hR0.rdok l0 r0 hl0).2 rfl⟩
   pinned:=hR.pinned
   pinN:=hR0.pinN }
  umt:=fun k hk=>hk.imp (h.umt k) id
  apart:=fun k hk=>hk.elim (h.apart k) (hM3M k)
  mmt:=fun k hk=>.inl (h.mmt k hk)
  uobj:=fun o x k ho hk=>.inr (hR.own o x k ho hk)
  umark:=fun q hq=>.inl (h.umark q hq)
  urd:=fun l0 r0 hl0=>⟨.inl (h.urd l0 r0 hl0).1,(h.urd l0 r0 hl0).2⟩
  ul:=.inl h.ul
  hl:=by rw [World.putObj_heap_same (Array.getElem?_eq_some_iff.1 hl2).1,hr']
  ssc:=fun b o hs=>(hcell b o (h.ssc b o hs)).1
  scs:=fun b o hs hb=>by
   rcases hR.new b o hs with h1|h1
   ·exact h.scs b o h1 hb
   ·exact absurd hb (hM3M b h1)
  mode:=hmode }⟩
end round
end Go.Mw
namespace Go.Mw
open Go.RowKit
section round
variable {P:Program} {C:Ctx P} {a1:Act} {l:Nat} {fn:FuncId} {ps:Array Tmp} {assign body:Code} {D:Nat} {X:Beh→Prop} {Φ:List (Nat × AO)→Exit→ASt→Prop}
theorem jit_yld {p:Nat→Bool}{tm:List (Nat × AV)}{ob:Beh→List (Nat × AO)}{bh:Beh→Beh}(hp:∀d,p d=true→C.can d)(hps:ps.toList.all p=true)(hld:loopDst (tm.map Prod.fst) ps assign body=true)
  (hsa:Sound P (fun d=>p d&&off (tm.map Prod.fst) d) assign) (hsb:Sound P (fun d=>p d&&off (tm.map Prod.fst) d) body)
  (hX:∀vals k,X (.yld vals k)→vals.length=ps.size∧Exec P assign (fun e A1=>e=.normal∧Exec P body (fun e A2=>match e with
     |.normal=>Ghost (A2.lim (tm.map Prod.fst)) ⟨tm,ob (k true),bh (k true)⟩∧X (k true)
     |.ret=>∃res obs,k false=.ret res obs∧Φ obs .ret (A2.lim (tm.map Prod.fst))
     |.exit i=>∃res obs,k false=.ret res obs∧Φ obs (.exit i) (A2.lim (tm.map Prod.fst))
     |_=>False) A1) ⟨ps.toList.zip vals++tm,ob (.yld vals k),bh (.yld vals k)⟩)
  {vals:List AV} {k:Bool→Beh} {S:Settled} {M:Blocks} {w:World} {vs:List Value} (hJ:Jit C a1 l (recOf fn a1.tmps ps assign body D) (fun b=>⟨tm,ob b,bh b⟩) X Φ (.yld vals k) S M w) (hvs:All2 (RepV S noVal noObj w) vals vs) :
  YieldAt Fence.wide 0 P l vs.toArray w fun e w'=>∃r,e=.returned (.bool r)∧Keep S M w w' ∧ Jit C a1 l (recOf fn a1.tmps ps assign body D) (fun b=>⟨tm,ob b,bh b⟩) X Φ (k r) S M w':=by
 obtain ⟨Sc,Mt,U,ι,A3,st,pe,h⟩:=hJ
 have hR:=h.rel
 rcases h.mode with ⟨rfl,rfl,hx,rfl⟩|⟨_,_,hb,_⟩
 case inr=>cases hb
 obtain ⟨hlen,hexec⟩:=hX vals k hx
 have hsz:vs.toArray.size=ps.size:=by rw [List.size_toArray,←hvs.length,hlen]
 have hy:=run_yield (P:=P) (args:=vs.toArray) h.hl hsz
 refine ⟨_,_,_,_,hy,roundIn_of_wpIn trivial ?_⟩
 simp only [loopDst,Bool.and_eq_true,List.all_eq_true,decide_eq_true_eq] at hld hps
 obtain ⟨⟨⟨hld1,hnd⟩,hld2⟩,hld3⟩:=hld
 have hfold:((recOf fn a1.tmps ps assign body D .ready none).params.zip vs.toArray).foldl (fun tmps x=>match x with|(t,a)=>tmps.setIfInBounds t a) (recOf fn a1.tmps ps assign body D .ready none).tmps =
   (ps.toList.zip vs).foldl (fun t q=>t.setIfInBounds q.1 q.2) a1.tmps:=by
  rw [←Array.foldl_toList,Array.toList_zip]
  rfl
 rw [hfold]
 let L:Blocks:=fun q=>(∃o x,(ASt.mk tm (ob (.yld vals k)) (bh (.yld vals k))).obj o=some x∧blk (ι o)=some q)∨q=l
 have hL:∀q,L q↔((∃o x,(ASt.mk tm (ob (.yld vals k)) (bh (.yld vals k))).obj o=some x∧blk (ι o)=some q)∨q=l):=fun q=>Iff.rfl
 have hLM:∀q,L q→Mt q:=fun q hq=>by
  rcases hq with ⟨o,x,h1,h2⟩|rfl
  ·exact hR.own o x q h1 h2
  ·exact h.umt _ h.ul
 have hset:=setAll_rep (R:=fun x v=>RepV Sc ι (ASt.mk tm (ob (.yld vals k)) (bh (.yld vals k))).obj w x v) C.N (tmps:=a1.tmps) (All2.mono (fun x v h1=>repV_mono h.ssc (fun _ _ _=>rfl) h1) hvs)
  (by simpa using hlen.symm) hnd (fun q hq=>(hp q (hps q hq)).1) hR.sz
 have hoff:∀q∈ps.toList,q ∉ tm.map Prod.fst:=fun q hq=>by
  have:=hld1 q hq
  simpa [off] using this
 let C1:=rndCtx C Sc Mt L w hR.minn (tm.map Prod.fst) a1.tmps l (recOf fn a1.tmps ps assign body D .ready none)
 have hcan:∀(r:Loop) d,(p d&&off (tm.map Prod.fst) d)=true→(rndCtx C Sc Mt L w hR.minn (tm.map Prod.fst) a1.tmps l r).can d:=fun r d hd=>by
  simp only [Bool.and_eq_true] at hd
  obtain ⟨h1,h2⟩:=hd
  obtain ⟨c1,c2,c3⟩:=hp d h1
  refine ⟨c1,?_,c3⟩
  have:d ∉ tm.map Prod.fst:=by simpa [off] using h2
  show (if d∈tm.map Prod.fst then _ else C.fix d)=none
  rw [if_neg this]
  exact c2
 have hget:∀s,(ASt.mk (ps.toList.zip vals++tm) (ob (.yld vals k)) (bh (.yld vals k))).get s=match look (ps.toList.zip vals) s with|some x=>x|none=>(ASt.mk tm (ob (.yld vals k)) (bh (.yld vals k))).get s:=fun s=>by
  show (look (ps.toList.zip vals++tm) s).getD .dead=_
  rw [look_append]
  cases look (ps.toList.zip vals) s<;>rfl
 have hR1:RelC C1 Sc L ι ⟨ps.toList.zip vals++tm,ob (.yld vals k),bh (.yld vals k)⟩ { tmps:=(ps.toList.zip vs).foldl (fun t q=>t.setIfInBounds q.1 q.2) a1.tmps,defers:=[] } w:={
  sub:=fun _ _ h=>h
  new:=fun _ _ h=>.inl h
  inn:=hR.inn
  minn:=fun q hq=>hR.minn q (hLM q hq)
  sz:=hset.1
  tms:=fun s=>by
   rw [hget]
   rcases hset.2 s with ⟨x,_,h2,h3⟩|⟨_,h2,h3⟩
   ·rw [h2];exact h3
   ·rw [h2]
    show RepV Sc ι _ w _ (((ps.toList.zip vs).foldl (fun t q=>t.setIfInBounds q.1 q.2) a1.tmps).getD s undef)
    rw [h3];exact hR.tms s
  objs:=hR.objs
  dis:=hR.dis
  own:=fun o x q ho hq=>.inl ⟨o,x,ho,hq⟩
  env:=⟨C.E.J_eqv hR.env (fun q hq=>.inl hq) (fun q hq=>hq.elim id (hLM q)) (fun _ _ h=>h) fun _ _ h=>.inl h,fun _ _ _=>rfl,fun q hq=>.inl hq,Nat.le_refl _,fun b o h=>⟨h,rfl⟩,rfl,rfl,rfl⟩
  tok:=hR.tok
  fixed:=fun s v hs=>by
   have hs':(if s∈tm.map Prod.fst then some (a1.tmps.getD s undef) else C.fix s)=some v:=hs
   show ((ps.toList.zip vs).foldl (fun t q=>t.setIfInBounds q.1 q.2) a1.tmps).getD s undef=v
   rcases hset.2 s with ⟨x,h1,_,_⟩|⟨_,_,h3⟩
   ·rw [if_neg (hoff s h1),(hp s (hps s h1)).2.1] at hs'
    cases hs'
   ·rw [h3]
    split at hs'
    ·simpa using hs'
    ·exact hR.fixed s v hs'
  marks:=⟨[],rfl,List.nodup_nil,by simp⟩
  rdok:=fun l' r hl=>by
   have hl':some (l,recOf fn a1.tmps ps assign body D .ready none)=some (l',r):=hl
   simp only [Option.some.injEq,Prod.mk.injEq] at hl'
   obtain ⟨rfl,rfl⟩:=hl'
   exact ⟨.inr rfl,h.hl⟩
  pinned:=hR.pinned
  pinN:=hR.pinN }
 refine hsa C1 _ _ _ _ (hcan _) hexec ⟨Sc,L,ι,hR1⟩ _ fun e A1 a1' w1 hE hRa=>?_
 obtain ⟨rfl,hE⟩:=hE
 obtain ⟨S1,M1,ι1,hRa⟩:=hRa
 show ∃w₂,(Instr.beginRound l).run P w1=.ok () w₂∧_
 refine ⟨_,run_beginRound (hRa.rdok l _ rfl).2 rfl,?_⟩
 have hRb:=hRa.putLoop (l:=l) (recOf fn a1.tmps ps assign body D .busy none) rfl
 refine hsb _ _ _ _ _ (hcan (recOf fn a1.tmps ps assign body D .busy none)) hE ⟨S1,M1,ι1,hRb⟩ _ fun e A2 a2 w2 hE2 hR2=>?_
 have hR2':Rel (rndCtx C Sc Mt L w hR.minn (tm.map Prod.fst) a1.tmps l (recOf fn a1.tmps ps assign body D .busy none)) (A2.lim (tm.map Prod.fst)) a2 w2:=Ghost.lim A2 _ P _ a2 w2 hR2
 have hdead:∀s,s ∉ tm.map Prod.fst→(A2.lim (tm.map Prod.fst)).get s=.dead:=fun s hs=>by rw [get_lim,if_neg hs]
 have hjump:∀(e:Exit) (c:Code),jumpOf e=some c→(∃res obs,k false=.ret res obs∧Φ obs e (A2.lim (tm.map Prod.fst)))→∃v w',(Instr.endRound l (some c)).run P w2=.ok v w' ∧
   ∃r,Ending.returned v=.returned (.bool r)∧Keep S M w w' ∧ Jit C a1 l (recOf fn a1.tmps ps assign body D) (fun b=>⟨tm,ob b,bh b⟩) X Φ (k r) S M w':=fun e c hc ⟨res,obs,hk,hΦ⟩=>by
  obtain ⟨S3,M3,ι3,hR3⟩:=hR2'
  refine ⟨_,_,run_endRound (some c) (hR3.rdok l _ rfl).2,false,rfl,?_⟩
  exact round_back h hL hR3 hdead (st':=.done) (pe':=some c) rfl (.inr ⟨res,obs,hk,rfl,e,c,hc,rfl,hΦ⟩)
 cases e with
 |normal=>
  obtain ⟨hg,hx'⟩:=hE2
  obtain ⟨S3,M3,ι3,hR3⟩:=hg P _ a2 w2 hR2'
  refine ⟨_,_,run_endRound none (hR3.rdok l _ rfl).2,true,rfl,?_⟩
  refine round_back h hL hR3 (fun s hs=>?_) (st':=.ready) (pe':=none) rfl (.inl ⟨rfl,rfl,hx',rfl⟩)
  show (look tm s).getD .dead=.dead
  have:look tm s=none:=by
   cases hl:look tm s with
   |none=>rfl
   |some x=>
    obtain ⟨y,hy⟩:=mem_look hl
    exact absurd (List.mem_map_of_mem (f:=Prod.fst) hy) hs
  rw [this];rfl
 |ret=>exact hjump .ret .ret rfl hE2
 |exit i=>exact hjump (.exit i) (.exit i) rfl hE2
 |goto _=>exact hE2.elim
 |panic _=>exact hE2.elim
 |outgrown=>exact hE2.elim
end round
end Go.Mw

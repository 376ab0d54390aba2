/- From a contract to a row: what a call's arguments read as, and that what was there before the call is as it was; no condition but those in each. -/
import Derived.Test.YtpmdcdglfeicaaaGreatDoorB3
import Derived.ProofKit
import Derived.Carry
import Derived.OpenShut
import Derived.HandedShaped
import Derived.Shelf.Vars
import Derived.MakeChecks
import Derived.LaidSub
import Derived.Test.YtpmdcdglfeicaaaGreatDoorB4
set_option linter.unusedSimpArgs false
set_option linter.unusedVariables false
set_option linter.unusedSectionVars false
set_option linter.deprecated false
namespace Go.Mw
open Go.RowKit Go.ChangeShapes Go.WideShapes
inductive LK where
 |int (k:IntKind)
 |bool
 |str
deriving DecidableEq
def LK.has:LK→Value→Prop
 |.int k,v=>∃n,v=.int k n∧(Lit.int k n).wf=true
 |.bool,v=>∃b,v=.bool b
 |.str,v=>∃s:ByteArray,v=.string s∧s.size≤maxLen
def JHW (P:Program)(t:TypeId):Option LK:=match P.underlying t with
 |some (.int k)=>some (.int k)
 |some .bool=>some .bool
 |some .string=>some .str
 |_=>none
def JCj (P:Program):Nat→List Field→Option (List LK)
 |_,[]=>some []
 |i,f::r=>match JHW P f.type with
  |some k=>if f.offset=i∧P.cellsOf f.type=1 then (JCj P (i+1) r).map (k :: ·) else none
  |none=>none
def flatK (P:Program)(t:TypeId):Option (List LK):=match P.underlying t with
 |some (.struct fs)=>match JCj P 0 fs.toList with
  |some ks=>if P.cellsOf t=ks.length then some ks else none
  |none=>none
 |_=>(JHW P t).map fun k=>[k]
section read
variable {H:Type} {enc:TypeId × Value→H} {P:Program} {w:World} {base:Nat} {spare:Nat→Bool} {held:Bool} {fuel:Nat} {t:TypeId} {cs:List Value} {x:DataW H × List MemPlace}
theorem JMX {k:LK}(hk:JHW P t=some k)(h:DataW.trod enc P w base spare held fuel t cs=some x):∃v,cs=[v]∧k.has v:=by
 unfold JHW at hk
 split at hk
 ·rename_i ht
  cases hk
  obtain ⟨n,rfl,_,hw⟩:=DataW.trod_int ht h
  exact ⟨_,rfl,n,rfl,hw⟩
 ·rename_i ht
  cases hk
  obtain ⟨b,rfl,_⟩:=DataW.trod_bool ht h
  exact ⟨_,rfl,b,rfl⟩
 ·rename_i ht
  cases hk
  obtain ⟨s,rfl,_,hs⟩:=DataW.trod_string ht h
  exact ⟨_,rfl,s,rfl,hs⟩
 ·cases hk
theorem JL6 {n:Nat}:∀ {fs:List Field} {i:Nat} {ks:List LK},JCj P i fs=some ks→cs.length=i+fs.length →
  (∀(j:Nat) (f:Field),fs[j]? = some f→∃y,DataW.trod enc P w base spare held n f.type ((cs.drop f.offset).take (P.cellsOf f.type))=some y)→JS LK.has ks (cs.drop i)
 |[],i,ks,hk,hl,_=>by
  simp only [JCj,Option.some.injEq] at hk
  subst hk
  rw [List.drop_eq_nil_of_le (by simp at hl;omega)]
  trivial
 |f::fs,i,ks,hk,hl,h=>by
  unfold JCj at hk
  split at hk
  ·rename_i k hlk
   split at hk
   ·rename_i hc
    obtain ⟨ks',hks,rfl⟩:=Option.map_eq_some_iff.1 hk
    obtain ⟨y,hy⟩:=h 0 f rfl
    rw [hc.1,hc.2] at hy
    obtain ⟨v,hv,hh⟩:=JMX hlk hy
    have ih:=JL6 hks (by simp at hl;omega) fun j g hg=>h (j+1) g hg
    have hd:cs.drop i=v::cs.drop (i+1):=by
     have e1:(cs.drop i)[0]? = some v:=by
      have:((cs.drop i).take 1)[0]? = some v:=by rw [hv];rfl
      simpa using this
     have e2:cs[i]? = some v:=by simpa using e1
     obtain ⟨hi,rfl⟩:=List.getElem?_eq_some_iff.1 e2
     exact (List.getElem_cons_drop hi).symm
    rw [hd]
    exact ⟨hh,ih⟩
   ·cases hk
  ·cases hk
theorem JRm {ks:List LK}(hk:flatK P t=some ks)(h:DataW.trod enc P w base spare held fuel t cs=some x):JS LK.has ks cs:=by
 unfold flatK at hk
 split at hk
 ·rename_i fs ht
  split at hk
  ·rename_i ks' hks
   split at hk
   ·rename_i hc
    cases hk
    obtain ⟨xs,n,_,_,hl,hxs,hf⟩:=DataW.trod_struct ht h
    have hlen:∀ {l:List Field} {i:Nat} {ks:List LK},JCj P i l=some ks→ks.length=l.length:=fun {l}=>by
     induction l with
     |nil=>intro i ks h;simp only [JCj,Option.some.injEq] at h;subst h;rfl
     |cons f l ih=>
      intro i ks h
      unfold JCj at h
      split at h
      ·split at h
       ·obtain ⟨ks',h1,rfl⟩:=Option.map_eq_some_iff.1 h
        simp [ih h1]
       ·cases h
      ·cases h
    have:=JL6 (n:=n) hks (by rw [hl,hc,hlen hks];simp) fun j f hj=>by
     have hj':fs[j]? = some f:=by simpa using hj
     have hjl:=(Array.getElem?_eq_some_iff.1 hj').1
     exact ⟨_,(hf j f hj').trans (List.getElem?_eq_getElem (by omega))⟩
    rw [List.drop_zero] at this
    exact this
   ·cases hk
  ·cases hk
 ·obtain ⟨k,hlk,rfl⟩:=Option.map_eq_some_iff.1 hk
  obtain ⟨v,rfl,hv⟩:=JMX hlk h
  exact ⟨hv,trivial⟩
def JCk (P:Program):Nat→List Field→Option (List TypeId)
 |_,[]=>some []
 |i,f::r=>if f.offset=i∧P.cellsOf f.type=1 then (JCk P (i+1) r).map (f.type :: ·) else none
def JL3 (P:Program)(t:TypeId):Option (List TypeId):=match P.underlying t with
 |some (.struct fs)=>match JCk P 0 fs.toList with
  |some ts=>if P.cellsOf t=ts.length then some ts else none
  |none=>none
 |_=>none
theorem JL4 {P:Program}:∀ {l:List Field} {i:Nat} {ts:List TypeId},JCk P i l=some ts→ts.length=l.length
 |[],i,ts,h=>by simp only [JCk,Option.some.injEq] at h;subst h;rfl
 |f::l,i,ts,h=>by
  unfold JCk at h
  split at h
  ·obtain ⟨ks',h1,rfl⟩:=Option.map_eq_some_iff.1 h
   simp [JL4 h1]
  ·cases h
theorem JL5 {n:Nat}:∀ {fs:List Field} {i:Nat} {ts:List TypeId},JCk P i fs=some ts→cs.length=i+fs.length →
  (∀(j:Nat) (f:Field),fs[j]? = some f→∃y,DataW.trod enc P w base spare held n f.type ((cs.drop f.offset).take (P.cellsOf f.type))=some y) →
  JS (fun t v=>∃y,DataW.trod enc P w base spare held n t [v]=some y) ts (cs.drop i)
 |[],i,ts,hk,hl,_=>by
  simp only [JCk,Option.some.injEq] at hk
  subst hk
  rw [List.drop_eq_nil_of_le (by simp at hl;omega)]
  trivial
 |f::fs,i,ts,hk,hl,h=>by
  unfold JCk at hk
  split at hk
  ·rename_i hc
   obtain ⟨ts',hts,rfl⟩:=Option.map_eq_some_iff.1 hk
   obtain ⟨y,hy⟩:=h 0 f rfl
   rw [hc.1,hc.2] at hy
   have hil:i<cs.length:=by simp at hl;omega
   have hd:cs.drop i=cs[i]::cs.drop (i+1):=(List.getElem_cons_drop hil).symm
   have ih:=JL5 hts (by simp at hl;omega) fun j g hg=>h (j+1) g hg
   rw [hd] at hy ⊢
   exact ⟨⟨y,hy⟩,ih⟩
  ·cases hk
theorem JOX {ts:List TypeId}(hk:JL3 P t=some ts)(h:DataW.trod enc P w base spare held fuel t cs=some x):∃n,JS (fun t v=>∃y,DataW.trod enc P w base spare held n t [v]=some y) ts cs:=by
 unfold JL3 at hk
 split at hk
 ·rename_i fs ht
  split at hk
  ·rename_i ts' hts
   split at hk
   ·rename_i hc
    cases hk
    obtain ⟨xs,n,_,_,hl,hxs,hf⟩:=DataW.trod_struct ht h
    have:=JL5 (n:=n) hts (by rw [hl,hc,JL4 hts];simp) fun j f hj=>by
     have hj':fs[j]? = some f:=by simpa using hj
     have hjl:=(Array.getElem?_eq_some_iff.1 hj').1
     exact ⟨_,(hf j f hj').trans (List.getElem?_eq_getElem (by omega))⟩
    rw [List.drop_zero] at this
    exact ⟨n,this⟩
   ·cases hk
  ·cases hk
 ·cases hk
theorem LK.one {k:LK}{v:Value}(h:k.has v):v.oneCell'=true:=by
 cases k with
 |int k=>obtain ⟨n,rfl,_⟩:=h;rfl
 |bool=>obtain ⟨n,rfl⟩:=h;rfl
 |str=>obtain ⟨n,rfl,_⟩:=h;rfl
theorem JAv {α β:Type}{R:α→β→Prop}{a:α}{l:List α}{m:List β}(h:JS R (a::l) m):∃b m',m=b::m' ∧ R a b∧JS R l m':=by
 cases m with
 |nil=>exact h.elim
 |cons b m=>exact ⟨b,m,rfl,h.1,h.2⟩
theorem JEA {α β:Type}{R:α→β→Prop}{m:List β}(h:JS R [] m):m=[]:=by
 cases m with
 |nil=>rfl
 |cons b m=>exact h.elim
end read
def JT3 (P:Program)(W:World):Env P where
 l:=0
 J:=fun b S M w=>((∃r o,b=.ret r o)∧Below W.heap.size W w∧∀k,M k→W.heap.size≤k)∧Zk P S w
 glob:=fun h=>h.2
 step:=by
  rintro b S M w S' M' w' ⟨⟨h1,h2,h3⟩,h4⟩ hf _ hM hS _
  refine ⟨⟨h1,h2.trans ⟨hf.os,hf.tape,hf.output,hf.size,fun k hk=>hf.block k (Nat.lt_of_lt_of_le hk h2.size) fun hm=>?_⟩,fun k hk=>?_⟩,h4.step hS hf.cell⟩
  ·have:=h3 k hm;omega
  ·rcases hM k hk with h|h
   ·exact h3 k h
   ·have:=h2.size;omega
 yld:=by
  rintro args k S M w vs ⟨⟨⟨r,o,h⟩,_⟩,_⟩
  cases h
theorem Zk.none {P:Program}{S:Jc}{w:World}(h1:P.globalNamed "internal/strconv.uint64pow10" = .none)(h2:P.globalNamed "internal/bytealg.MaxLen" = .none):Zk P S w where
 tab:=fun nm k zs hm g hg=>by
  simp only [JFf,List.mem_cons,List.not_mem_nil,or_false,Prod.mk.injEq] at hm
  rw [hm.1,h1] at hg;cases hg
 max:=fun g hg=>by rw [h2] at hg;cases hg
theorem JT5 {P:Program}{f:FuncId}{args:List AV}{b:Bool}(h:Jb P f args (.bool b) [])(W:World)(vs:List Value)(hr:JS (Jk (fun b _=>b<W.heap.size) Yc (look []) W) args vs)(hG:Zk P (fun b _=>b<W.heap.size) W:=by exact Zk.none (by rfl) (by rfl)) :
  Calls P f vs.toArray W fun e W'=>e=.returned (.bool b)∧Below W.heap.size W W':=by
 rw [←callsIn_wide]
 refine CallsIn.mono (h (JT3 P W) (fun b _=>b<W.heap.size) (fun _=>False) Yc W vs (fun _ _ h=>h) (fun _ h=>h.elim) (fun o x h=>by simp [look] at h) (fun o o' x x' b h=>by simp [look] at h) (fun o x b h=>by simp [look] at h) (fun o h=>by simp [look] at h) hr ⟨⟨⟨_,_,rfl⟩,Below.refl _ _,fun _ h=>h.elim⟩,hG⟩) fun e W' h=>?_
 obtain ⟨v,res,obs,S',M',ι',rfl,hl,hJ,hp⟩:=h
 obtain ⟨rfl,rfl⟩:=hl.inv
 refine ⟨?_,hJ.1.2.1⟩
 have hv:=hp.res
 have:v=.bool b:=by
  obtain ⟨l,hl1,hl2⟩:=hv
  cases hl1
  exact Qm hl2
 rw [this]
section post
variable {H:Type} {enc:TypeId × Value→H} {P:Program}
theorem JOh (hl:laidOutB P=true){W W':World}(hb:Below W.heap.size W W'):∀ {ts:List TypeId} {vs:List Value} {ds:List (DataW H)} {ps:List MemPlace},(∀t∈ts,P.readableRec t=true∧t<P.types.size) →
  DataW.TrodAll enc P W 0 (fun _=>true) true ts vs ds ps→DataW.TrodAll enc P W' 0 (fun b=>decide (b<W.heap.size)) true ts vs ds ps
 |[],vs,ds,ps,_,h=>by
  obtain ⟨rfl,rfl,rfl⟩:=trodAll_nil h
  exact rfl
 |t::ts,vs,ds,ps,ht,h=>by
  have hlt:=DataW.TrodAll.lt h
  obtain ⟨v,vs1,d,ds1,a,b,rfl,rfl,rfl,h1,h2⟩:=trodAll_cons h
  exact ⟨a,b,Below.trod hl (ht t (by simp)).1 (ht t (by simp)).2 h1 hb fun x hx=>hlt x (by simp [hx]),JOh hl hb (fun t h=>ht t (by simp [h])) h2,rfl⟩
theorem JTe {f:Func}{s:ChangeSpec}{fresh handsOn:Bool}{W W':World}{args:Array Value}{ds gs:List (DataW H)}{before:List MemPlace}{tb:TypeId}
  (hW:DataW.Whole enc P f.params.toList s.vars false W args.toList ds gs before) (hb:Below W.heap.size W W') (hv:s.vars=[]) (hfn:s.fn H (ds++gs)={ results:=[.lit (.bool true)],args:=ds })
  (ht:f.resultTypes=#[tb]) (htb:P.underlying tb=some .bool) (hl:laidOutB P=true) (hrd:∀t∈f.params.toList,P.readableRec t=true∧t<P.types.size) :
  s.post enc P f false fresh handsOn false W args (.bool true) W':=by
 have hW2:=hW
 obtain ⟨p,q,hA,hV,hpq,hz,hn⟩:=hW2
 rw [hv] at hV
 obtain ⟨rfl,rfl⟩:=trodVars_none hV
 refine ⟨ds,[],before,[],p,[],hW,?_,?_,?_,?_,fun h=>by cases h⟩
 ·rw [hfn,ht]
  exact trodAll_mk1 (shut_bool htb true)
 ·rw [hfn]
  exact JOh hl hb hrd hA
 ·rw [hfn,hv];rfl
 ·exact hb.frame _
end post
end Go.Mw
namespace Go.Mw
open Go.RowKit Go.ChangeShapes Go.WideShapes
section
variable {H:Type} {enc:TypeId × Value→H} {P:Program} {w:World} {base:Nat} {spare:Nat→Bool} {held:Bool} {v:Value} {d:DataW H} {ps:List MemPlace} {t:TypeId}
theorem JVO {t0 t1 t2 t3 t4:TypeId}{args:Array Value}{ds:List (DataW H)}(h:DataW.TrodAll enc P w base spare held [t0,t1,t2,t3,t4] args.toList ds ps) :
  ∃v0 v1 v2 v3 v4 d0 d1 d2 d3 d4 p0 p1 p2 p3 p4,args=#[v0,v1,v2,v3,v4]∧ds=[d0,d1,d2,d3,d4]∧ps=p0++p1++p2++p3++p4∧DataW.Trod enc P w base spare held t0 v0 d0 p0∧DataW.Trod enc P w base spare held t1 v1 d1 p1 ∧
   DataW.Trod enc P w base spare held t2 v2 d2 p2∧DataW.Trod enc P w base spare held t3 v3 d3 p3∧DataW.Trod enc P w base spare held t4 v4 d4 p4:=by
 obtain ⟨v0,vs0,d0,ds0,p0,q0,hargs,rfl,rfl,h0,h⟩:=trodAll_cons h
 obtain ⟨v1,vs1,d1,ds1,p1,q1,rfl,rfl,rfl,h1,h⟩:=trodAll_cons h
 obtain ⟨v2,vs2,d2,ds2,p2,q2,rfl,rfl,rfl,h2,h⟩:=trodAll_cons h
 obtain ⟨v3,vs3,d3,ds3,p3,q3,rfl,rfl,rfl,h3,h⟩:=trodAll_cons h
 obtain ⟨v4,vs4,d4,ds4,p4,q4,rfl,rfl,rfl,h4,h⟩:=trodAll_cons h
 obtain ⟨rfl,rfl,rfl⟩:=trodAll_nil h
 exact ⟨v0,v1,v2,v3,v4,d0,d1,d2,d3,d4,p0,p1,p2,p3,p4,by cases args;simp_all,rfl,by simp,h0,h1,h2,h3,h4⟩
end
end Go.Mw
namespace Go.Mw
open Go.RowKit Go.ChangeShapes Go.WideShapes
section
variable {H:Type} {enc:TypeId × Value→H} {P:Program} {w:World} {base:Nat} {spare:Nat→Bool} {held:Bool} {v:Value} {d:DataW H} {ps:List MemPlace} {t:TypeId}
theorem JHr {e:TypeId}{k:Nat}{es:List (List D)}{S:Jc}{ι:Nat→Value}{Q:Nat→Option AO}(ht:P.underlying t=some (.slice e)){b0:Nat}{r:Reach}(hv:Value.okWide P w r b0 t v)(h:DataW.Trod enc P w base spare held t v d ps)
  (hr:Jk S ι Q w (.leaf (.d (.sl k es))) v):es.length≤9223372036854775807:=by
 obtain ⟨fuel,hf⟩:=h
 obtain ⟨l,e1,hd⟩:=hr
 cases e1
 have hd:RepD S w (.sl k es) v:=hd
 cases hd with
 |nil=>simp
 |sl _ _ b off c vals hc=>
  rcases DataW.trod_slice ht hf with ⟨h0,_⟩|⟨a,len,cap,elems,rest,n,_,h0,_,_,hl,hm,_⟩
  ·have h1:[Value.slice (some ⟨b,off,none⟩) es.length c]=[Value.slice none 0 0]:=h0
   cases h1
  ·have h1:[Value.slice (some ⟨b,off,none⟩) es.length c]=[Value.slice (some a) len cap]:=h0
   injection h1 with h2
   injection h2 with _ h3 _
   have hmx:maxLen=9223372036854775807:=by decide
   omega
end
end Go.Mw
namespace Go.Mw
open Go.RowKit Go.ChangeShapes Go.WideShapes
section
variable {H:Type} {enc:TypeId × Value→H} {P:Program} {w:World} {base:Nat} {spare:Nat→Bool} {held:Bool} {fuel:Nat} {t:TypeId} {cs:List Value} {x:DataW H × List MemPlace}
def Reads (enc:TypeId × Value→H)(P:Program)(w:World)(base:Nat)(spare:Nat→Bool)(held:Bool)(t:TypeId)(Q:List D→Prop):Prop:=
 ∀(fuel:Nat) (cs:List Value) (x:DataW H × List MemPlace),DataW.trod enc P w base spare held fuel t cs=some x→∃ds,Q ds∧JS (RepD (fun b _=>b<w.heap.size) w) ds cs
theorem JHm {ks:List LK}(hk:flatK P t=some ks){Q:List D→Prop}(hq:∀r:List Value,JS LK.has ks r→Q (r.map .raw)):Reads enc P w base spare held t Q:=by
 intro fuel cs x h
 have ha:=JRm hk h
 refine ⟨cs.map .raw,hq cs ha,?_⟩
 have:∀ {l:List LK} {m:List Value},JS LK.has l m→JS (RepD (fun b _=>b<w.heap.size) w) (m.map .raw) m:=fun {l}=>by
  induction l with
  |nil=>intro m h;cases m with
   |nil=>trivial
   |cons _ _=>exact h.elim
  |cons k l ih=>intro m h;cases m with
   |nil=>exact h.elim
   |cons u m=>exact ⟨.raw _ (LK.one h.1),ih h.2⟩
 exact this ha
theorem JQ5 {n:Nat}{p:Nat→List D→Prop}(h:∀i,i<n→∃r,p i r):∃l:List (List D),l.length=n∧∀i r,l[i]? = some r→p i r:=by
 induction n with
 |zero=>exact ⟨[],rfl,fun i r h=>by simp at h⟩
 |succ n ih=>
  obtain ⟨l,hl,hp⟩:=ih fun i hi=>h i (by omega)
  obtain ⟨r,hr⟩:=h n (by omega)
  refine ⟨l++[r],by simp [hl],fun i q hq=>?_⟩
  by_cases hi:i<n
  ·rw [List.getElem?_append_left (by omega)] at hq;exact hp i q hq
  ·have hin:i=n:=by
    have:=(List.getElem?_eq_some_iff.1 hq).1
    simp at this;omega
   subst hin
   rw [List.getElem?_append_right (by omega),hl] at hq
   simp at hq
   subst hq;exact hr
theorem JTv {e:TypeId}{k:Nat}(ht:P.underlying t=some (.slice e)){Q:List D→Prop}(hr:Reads enc P w base spare held e Q)(hc:P.cellsOf e=k)(h0:0<k): 
  Reads enc P w base spare held t (fun ds=>∃rows,ds=[.sl k rows]∧∀r∈rows,Q r):=by
 intro fuel cs x h
 rcases DataW.trod_slice ht h with ⟨rfl,_⟩|⟨a,len,cap,elems,rest,n,_,rfl,_,hb,hl,_,hlen,hel,_,_⟩
 ·exact ⟨[.sl k []],⟨[],rfl,by simp⟩,.nil _ _ _,trivial⟩
 ·have hrow:∀i,i<len→∃r:List D,Q r∧r.length=k∧∀j d,r[j]? = some d→∃u,w.cell? ((a.add (i*k)).add j)=some u∧RepD (fun b _=>b<w.heap.size) w d u:=by
   intro i hi
   have h1:=hel i hi
   rw [List.getElem?_eq_getElem (by omega)] at h1
   obtain ⟨cs',h2,h3⟩:=Option.bind_eq_some_iff.1 h1
   rw [hc] at h2
   obtain ⟨h6,h4,h5⟩:=World.cells?_some h2
   obtain ⟨ds,hq,hds⟩:=hr _ _ _ h3
   have hcl:cs'.length=k:=by first|exact h4|exact h6|simpa using h4
   refine ⟨ds,hq,by rw [←hcl];exact hds.length,fun j d hj=>?_⟩
   obtain ⟨u,hu,hru⟩:=hds.get' hj
   have hjk:j<k:=by rw [←hcl];exact (List.getElem?_eq_some_iff.1 hu).1
   exact ⟨u,(h5 j hjk).trans hu,hru⟩
  obtain ⟨rows,hrl,hrp⟩:=JQ5 hrow
  refine ⟨[.sl k rows],⟨rows,rfl,fun r hr=>?_⟩,?_,trivial⟩
  ·obtain ⟨i,hi⟩:=List.getElem?_of_mem hr
   exact (hrp i r hi).1
  ·by_cases hz:len=0
   ·subst hz
    have:rows=[]:=List.eq_nil_of_length_eq_zero hrl
    subst this
    exact .nil _ _ _
   ·obtain ⟨r0,hr0⟩:∃r0,rows[0]? = some r0:=⟨_,List.getElem?_eq_getElem (by omega)⟩
    have hsp:a.spot=none∧a.block<w.heap.size:=by
     obtain ⟨_,g1,g2⟩:=hrp 0 r0 hr0
     obtain ⟨u,g3,_⟩:=g2 0 _ (List.getElem?_eq_getElem (by omega))
     have e:(a.add (0*k)).add 0=a:=by simp [Addr.add]
     rw [e] at g3
     unfold World.cell? at g3
     split at g3
     ·rename_i hh
      split at g3
      ·cases g3
      ·rename_i hsp
       exact ⟨by simpa using hsp,(Array.getElem?_eq_some_iff.1 hh).1⟩
     ·cases g3
    obtain ⟨hsp,hbk⟩:=hsp
    have hadd:∀n m:Nat,(a.add n).add m=⟨a.block,a.off+n+m,none⟩:=by
     intro n m
     obtain ⟨ab,ao,asp⟩:=a
     simp only at hsp
     subst hsp
     simp only [Addr.add]
     by_cases h1:n=0
     ·by_cases h2:m=0
      ·simp [h1,h2]
      ·simp [h1,h2]
     ·by_cases h2:m=0
      ·simp [h1,h2]
      ·simp [h1,h2]
    have ha:a=⟨a.block,a.off,none⟩:=by obtain ⟨ab,ao,asp⟩:=a;simp only at hsp;subst hsp;rfl
    have hcell:∀i r j d,rows[i]? = some r→r[j]? = some d→∃u,w.cell? ⟨a.block,a.off+i*k+j,none⟩=some u∧RepD (fun b _=>b<w.heap.size) w d u:=fun i r j d hi hj=>by
     obtain ⟨_,_,g2⟩:=hrp i r hi
     obtain ⟨u,g3,g4⟩:=g2 j d hj
     rw [hadd] at g3
     exact ⟨u,g3,g4⟩
    have:=RepD.sl (S:=fun b _=>b<w.heap.size) (w:=w) k rows a.block a.off cap (fun i j=>(w.cell? ⟨a.block,a.off+i*k+j,none⟩).getD .nilFunc) (by rw [hrl];exact hl)
     (fun i es hi=>(hrp i es hi).2.1)
     (fun i es j d hi hj=>hbk)
     (fun i es j d hi hj=>by
      obtain ⟨u,hu,_⟩:=hcell i es j d hi hj
      simp only [hu,Option.getD_some])
     (fun i es j d hi hj=>by
      obtain ⟨u,hu,hr⟩:=hcell i es j d hi hj
      simp only [hu,Option.getD_some]
      exact hr)
    rw [hrl,←ha] at this
    exact this
theorem JHn {Q:List D→Prop}{v:Value}(hr:Reads enc P w base spare held t Q)(h:∃y,DataW.trod enc P w base spare held fuel t [v]=some y):∃d,Q [d]∧RepD (fun b _=>b<w.heap.size) w d v:=by
 obtain ⟨y,hy⟩:=h
 obtain ⟨ds,hq,ha⟩:=hr _ _ _ hy
 match ds,ha with
 |[d],ha=>exact ⟨d,hq,ha.1⟩
end
end Go.Mw
namespace Go.Mw
open Go.RowKit
theorem JT1 {H:Type}{enc:TypeId × Value→H}{a:Assume}{C:Checked}{os:Os}{f:FuncId}{fn:Func}{s:ChangeSpec}{conds:List PathCond}{apart fresh handsOn again:Bool}{X:World→Array Value→Prop}
  (hX:∀(w w':World) (args:Array Value),w.heap=w'.heap→X w args→X w' args)
  (own:ownKnob C.prog.godebug=none) (started:os.Started) (noInit:C.prog.inits.idxOf? f=none) (hfn:C.prog.funcs[f]? = some fn)
  (witness:∃(w:World) (tape:Tape) (i:Input),w.os=os∧(w.forCall tape i).Shaped C.prog∧i.vars=[]∧Input.okWide C.prog (w.forCall tape i) .any w.heap.size f i ∧
   ((s.pre enc C.prog fn conds apart (w.forCall tape i).memory i.args∧X (w.forCall tape i).memory i.args)∧sizedMet enc C.prog fn (OpenSpec.ofChange s) apart (w.forCall tape i).memory i.args)∧a.holds C.prog (lone (Frame.enter C.prog f i.args .normal) [] (w.forCall tape i)))
  (contract:∀(W:World) (base:Nat) (args:Array Value) (ds gs:List (DataW H)) (before:List MemPlace),
   (∀(j:Nat) t v,fn.params[j]? = some t→args[j]? = some v→Value.okWide C.prog W .any base t v) →
   DataW.Whole enc C.prog fn.params.toList s.vars apart W args.toList ds gs before →
   W.ShapedOpen C.prog→X W args →
   Calls C.prog f args W fun e W'=>∃v,e=.returned v∧s.post enc C.prog fn apart fresh handsOn again W args v W') :
  ReturnsInHanded a C os f .any (fun w args=>(s.pre enc C.prog fn conds apart w args∧X w args)∧sizedMet enc C.prog fn (OpenSpec.ofChange s) apart w args) (s.post enc C.prog fn apart fresh handsOn again):=by
 refine returnsInHanded_of_calls own started noInit witness ?_
 intro w tape i _ hsh _ hok hpre hholds
 obtain ⟨_,_,_,fn',hfn',_,_,_,_,hval⟩:=hok
 have e:fn'=fn:=Option.some.inj (hfn'.symm.trans hfn)
 subst e
 obtain ⟨⟨⟨ds,gs,before,hw,hc⟩,hx⟩,hz⟩:=hpre
 have hw':=DataW.Whole.of_heap (w':=w.forCall tape i) (by rfl) hw
 refine (contract (w.forCall tape i) w.heap.size i.args ds gs before hval hw' hsh (hX _ _ _ (by rfl) hx)).mono fun e W' ⟨v,he,hp⟩=>?_
 subst he
 exact ChangeSpec.post_blind hp
theorem Zk.of {P:Program}{W:World}{laid:List (String × DataW Unit)}{g m:Nat}{t e:TypeId}{n:Nat}{tm:TypeId}{zero:Array Value}
  (hL:laidMetH P laid W) (hpl:(laid.all fun x=>x.2.handleName?.isNone)=true)
  (hf:(laid.filter fun x=>x.1 == "internal/strconv.uint64pow10")=[("internal/strconv.uint64pow10",Lib.tabData .u64 Lib.pow10Tab)])
  (hg:P.globalNamed "internal/strconv.uint64pow10" = some g) (hty:(P.globals[g]?).map (·.type)=some t) (ht:P.underlying t=some (.array n e)) (he:P.underlying e=some (.int .u64)) (hce:P.cellsOf e=1) (hct:P.cellsOf t=n)
  (hm:P.globalNamed "internal/bytealg.MaxLen" = some m) (hs:W.ShapedOpen P) (hgs:m<P.globals.size)
  (h0:((begin P (fun _ _=>0) default).world.heap[m]?).bind Obj.row? = some (zero,tm)) (hz:zero.size=1)
  (hb:P.buildable tm=true) (hcm:P.cellTypes P.depth tm=some [tm]) (hu:P.underlying tm=some (.int .i64)):Zk P (fun b _=>b<W.heap.size) W where
 tab:=fun nm k zs hmem g' hg'=>by
  simp only [JFf,List.mem_cons,List.not_mem_nil,or_false,Prod.mk.injEq] at hmem
  obtain ⟨rfl,rfl,rfl⟩:=hmem
  have h1:=laidMetH.filter (fun x=>x.1 == "internal/strconv.uint64pow10") hL
  rw [hf,MakeChecks.laidMetH_plain _ _ _ (by rfl)] at h1
  have h2:=Lib.tabIs_of_head hg hty ht he hce hct h1
  refine ⟨fun i=>?_,h2⟩
  obtain rfl:=Option.some.inj (hg.symm.trans hg')
  have h3:=h2
  unfold Lib.TabIs World.var? at h3
  simp only [hg,Option.bind_some] at h3
  cases hb:W.heap[g]? with
  |none=>simp [hb] at h3
  |some x=>exact (Array.getElem?_eq_some_iff.1 hb).1
 max:=fun g' hg'=>by
  obtain rfl:=Option.some.inj (hm.symm.trans hg')
  obtain ⟨x,hx⟩:=Go.Proofs.cell_of_shapedOpen_int hs hgs h0 hz hb hcm hu
  refine ⟨?_,x,hx⟩
  unfold World.cell? at hx
  split at hx
  ·rename_i hh
   exact (Array.getElem?_eq_some_iff.1 hh).1
  ·cases hx
end Go.Mw

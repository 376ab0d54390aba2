/- From a contract to a row: what a call's arguments read as, and that what was there before the call is as it was; no condition but those in each. -/
import Derived.Test.YtpmdcdglfeicaaaGreatDoorB4
import Derived.ProofKit
import Derived.Carry
import Derived.OpenShut
import Derived.HandedShaped
import Derived.Shelf.Vars
import Derived.MakeChecks
import Derived.LaidSub
import Derived.Test.YtpmdcdglfeicaaaGreatDoorB5
set_option linter.unusedSimpArgs false
set_option linter.unusedVariables false
set_option linter.unusedSectionVars false
set_option linter.deprecated false
namespace Go.Mw
open Go.RowKit Go.ChangeShapes Go.WideShapes
inductive LK where
 |int (k:IntKind)
 |bool
 |str
deriving DecidableEq
def LK.has:LK→Value→Prop
 |.int k,v=>∃n,v=.int k n∧(Lit.int k n).wf=true
 |.bool,v=>∃b,v=.bool b
 |.str,v=>∃s:ByteArray,v=.string s∧s.size≤maxLen
def JHG (P:Program)(t:TypeId):Option LK:=match P.underlying t with
 |some (.int k)=>some (.int k)
 |some .bool=>some .bool
 |some .string=>some .str
 |_=>none
def JCW (P:Program):Nat→List Field→Option (List LK)
 |_,[]=>some []
 |i,f::r=>match JHG P f.type with
  |some k=>if f.offset=i∧P.cellsOf f.type=1 then (JCW P (i+1) r).map (k :: ·) else none
  |none=>none
def flatK (P:Program)(t:TypeId):Option (List LK):=match P.underlying t with
 |some (.struct fs)=>match JCW P 0 fs.toList with
  |some ks=>if P.cellsOf t=ks.length then some ks else none
  |none=>none
 |_=>(JHG P t).map fun k=>[k]
section read
variable {H:Type} {enc:TypeId × Value→H} {P:Program} {w:World} {base:Nat} {spare:Nat→Bool} {held:Bool} {fuel:Nat} {t:TypeId} {cs:List Value} {x:DataW H × List MemPlace}
theorem JM9 {k:LK}(hk:JHG P t=some k)(h:DataW.trod enc P w base spare held fuel t cs=some x):∃v,cs=[v]∧k.has v:=by
 unfold JHG at hk
 split at hk
 ·rename_i ht
  cases hk
  obtain ⟨n,rfl,_,hw⟩:=DataW.trod_int ht h
  exact ⟨_,rfl,n,rfl,hw⟩
 ·rename_i ht
  cases hk
  obtain ⟨b,rfl,_⟩:=DataW.trod_bool ht h
  exact ⟨_,rfl,b,rfl⟩
 ·rename_i ht
  cases hk
  obtain ⟨s,rfl,_,hs⟩:=DataW.trod_string ht h
  exact ⟨_,rfl,s,rfl,hs⟩
 ·cases hk
theorem JMS {n:Nat}:∀ {fs:List Field} {i:Nat} {ks:List LK},JCW P i fs=some ks→cs.length=i+fs.length →
  (∀(j:Nat) (f:Field),fs[j]? = some f→∃y,DataW.trod enc P w base spare held n f.type ((cs.drop f.offset).take (P.cellsOf f.type))=some y)→JO LK.has ks (cs.drop i)
 |[],i,ks,hk,hl,_=>by
  simp only [JCW,Option.some.injEq] at hk
  subst hk
  rw [List.drop_eq_nil_of_le (by simp at hl;omega)]
  trivial
 |f::fs,i,ks,hk,hl,h=>by
  unfold JCW at hk
  split at hk
  ·rename_i k hlk
   split at hk
   ·rename_i hc
    obtain ⟨ks',hks,rfl⟩:=Option.map_eq_some_iff.1 hk
    obtain ⟨y,hy⟩:=h 0 f rfl
    rw [hc.1,hc.2] at hy
    obtain ⟨v,hv,hh⟩:=JM9 hlk hy
    have ih:=JMS hks (by simp at hl;omega) fun j g hg=>h (j+1) g hg
    have hd:cs.drop i=v::cs.drop (i+1):=by
     have e1:(cs.drop i)[0]? = some v:=by
      have:((cs.drop i).take 1)[0]? = some v:=by rw [hv];rfl
      simpa using this
     have e2:cs[i]? = some v:=by simpa using e1
     obtain ⟨hi,rfl⟩:=List.getElem?_eq_some_iff.1 e2
     exact (List.getElem_cons_drop hi).symm
    rw [hd]
    exact ⟨hh,ih⟩
   ·cases hk
  ·cases hk
theorem JRS {ks:List LK}(hk:flatK P t=some ks)(h:DataW.trod enc P w base spare held fuel t cs=some x):JO LK.has ks cs:=by
 unfold flatK at hk
 split at hk
 ·rename_i fs ht
  split at hk
  ·rename_i ks' hks
   split at hk
   ·rename_i hc
    cases hk
    obtain ⟨xs,n,_,_,hl,hxs,hf⟩:=DataW.trod_struct ht h
    have hlen:∀ {l:List Field} {i:Nat} {ks:List LK},JCW P i l=some ks→ks.length=l.length:=fun {l}=>by
     induction l with
     |nil=>intro i ks h;simp only [JCW,Option.some.injEq] at h;subst h;rfl
     |cons f l ih=>
      intro i ks h
      unfold JCW at h
      split at h
      ·split at h
       ·obtain ⟨ks',h1,rfl⟩:=Option.map_eq_some_iff.1 h
        simp [ih h1]
       ·cases h
      ·cases h
    have:=JMS (n:=n) hks (by rw [hl,hc,hlen hks];simp) fun j f hj=>by
     have hj':fs[j]? = some f:=by simpa using hj
     have hjl:=(Array.getElem?_eq_some_iff.1 hj').1
     exact ⟨_,(hf j f hj').trans (List.getElem?_eq_getElem (by omega))⟩
    rw [List.drop_zero] at this
    exact this
   ·cases hk
  ·cases hk
 ·obtain ⟨k,hlk,rfl⟩:=Option.map_eq_some_iff.1 hk
  obtain ⟨v,rfl,hv⟩:=JM9 hlk h
  exact ⟨hv,trivial⟩
def JCX (P:Program):Nat→List Field→Option (List TypeId)
 |_,[]=>some []
 |i,f::r=>if f.offset=i∧P.cellsOf f.type=1 then (JCX P (i+1) r).map (f.type :: ·) else none
def JMP (P:Program)(t:TypeId):Option (List TypeId):=match P.underlying t with
 |some (.struct fs)=>match JCX P 0 fs.toList with
  |some ts=>if P.cellsOf t=ts.length then some ts else none
  |none=>none
 |_=>none
theorem JMQ {P:Program}:∀ {l:List Field} {i:Nat} {ts:List TypeId},JCX P i l=some ts→ts.length=l.length
 |[],i,ts,h=>by simp only [JCX,Option.some.injEq] at h;subst h;rfl
 |f::l,i,ts,h=>by
  unfold JCX at h
  split at h
  ·obtain ⟨ks',h1,rfl⟩:=Option.map_eq_some_iff.1 h
   simp [JMQ h1]
  ·cases h
theorem JMR {n:Nat}:∀ {fs:List Field} {i:Nat} {ts:List TypeId},JCX P i fs=some ts→cs.length=i+fs.length →
  (∀(j:Nat) (f:Field),fs[j]? = some f→∃y,DataW.trod enc P w base spare held n f.type ((cs.drop f.offset).take (P.cellsOf f.type))=some y) →
  JO (fun t v=>∃y,DataW.trod enc P w base spare held n t [v]=some y) ts (cs.drop i)
 |[],i,ts,hk,hl,_=>by
  simp only [JCX,Option.some.injEq] at hk
  subst hk
  rw [List.drop_eq_nil_of_le (by simp at hl;omega)]
  trivial
 |f::fs,i,ts,hk,hl,h=>by
  unfold JCX at hk
  split at hk
  ·rename_i hc
   obtain ⟨ts',hts,rfl⟩:=Option.map_eq_some_iff.1 hk
   obtain ⟨y,hy⟩:=h 0 f rfl
   rw [hc.1,hc.2] at hy
   have hil:i<cs.length:=by simp at hl;omega
   have hd:cs.drop i=cs[i]::cs.drop (i+1):=(List.getElem_cons_drop hil).symm
   have ih:=JMR hts (by simp at hl;omega) fun j g hg=>h (j+1) g hg
   rw [hd] at hy ⊢
   exact ⟨⟨y,hy⟩,ih⟩
  ·cases hk
theorem JU9 {ts:List TypeId}(hk:JMP P t=some ts)(h:DataW.trod enc P w base spare held fuel t cs=some x):∃n,JO (fun t v=>∃y,DataW.trod enc P w base spare held n t [v]=some y) ts cs:=by
 unfold JMP at hk
 split at hk
 ·rename_i fs ht
  split at hk
  ·rename_i ts' hts
   split at hk
   ·rename_i hc
    cases hk
    obtain ⟨xs,n,_,_,hl,hxs,hf⟩:=DataW.trod_struct ht h
    have:=JMR (n:=n) hts (by rw [hl,hc,JMQ hts];simp) fun j f hj=>by
     have hj':fs[j]? = some f:=by simpa using hj
     have hjl:=(Array.getElem?_eq_some_iff.1 hj').1
     exact ⟨_,(hf j f hj').trans (List.getElem?_eq_getElem (by omega))⟩
    rw [List.drop_zero] at this
    exact ⟨n,this⟩
   ·cases hk
  ·cases hk
 ·cases hk
def JOu (P:Program)(t:TypeId):Bool:=match P.underlying t with
 |some (.struct _)=>true
 |_=>false
theorem JU8 {t:TypeId}{r:Reach}{b0:Nat}{v:Value}(hs:JOu P t=true)(h:Value.okWide P w r b0 t v):∃cs,v=.agg cs:=by
 unfold JOu at hs
 split at hs
 ·rename_i fs ht
  obtain ⟨cs,h1,_⟩:=okWide_struct ht h
  exact ⟨cs,h1⟩
 ·cases hs
theorem LK.one {k:LK}{v:Value}(h:k.has v):v.oneCell'=true:=by
 cases k with
 |int k=>obtain ⟨n,rfl,_⟩:=h;rfl
 |bool=>obtain ⟨n,rfl⟩:=h;rfl
 |str=>obtain ⟨n,rfl,_⟩:=h;rfl
theorem JC0 {α β:Type}{R:α→β→Prop}{a:α}{l:List α}{m:List β}(h:JO R (a::l) m):∃b m',m=b::m' ∧ R a b∧JO R l m':=by
 cases m with
 |nil=>exact h.elim
 |cons b m=>exact ⟨b,m,rfl,h.1,h.2⟩
theorem JIU {α β:Type}{R:α→β→Prop}{m:List β}(h:JO R [] m):m=[]:=by
 cases m with
 |nil=>rfl
 |cons b m=>exact h.elim
theorem JGX {α β:Type}{R:α→β→Prop}:∀ {l:List α} {m:List β},JO R l m→m.length=l.length
 |[],[],_=>rfl
 |_::_,_::_,h=>by simp [JGX h.2]
 |[],_::_,h=>h.elim
 |_::_,[],h=>h.elim
theorem JLS {α β:Type}{R:α→β→Prop}:∀ {l:List α} {m:List β} {i:Nat} {y:β},JO R l m→m[i]? = some y→∃x,l[i]? = some x∧R x y
 |x::_,y'::_,0,y,h,hy=>by simp at hy;subst hy;exact ⟨x,rfl,h.1⟩
 |x::_,y'::_,i+1,y,h,hy=>by simpa using JLS h.2 (by simpa using hy)
 |[],[],i,y,_,hy=>by simp at hy
 |[],_::_,_,_,h,_=>h.elim
 |_::_,[],_,_,h,_=>h.elim
theorem JQq {n:Nat}{p:Nat→List Value→Prop}(h:∀i,i<n→∃r,p i r):∃l:List (List Value),l.length=n∧∀i r,l[i]? = some r→p i r:=by
 induction n with
 |zero=>exact ⟨[],rfl,fun i r h=>by simp at h⟩
 |succ n ih=>
  obtain ⟨l,hl,hp⟩:=ih fun i hi=>h i (by omega)
  obtain ⟨r,hr⟩:=h n (by omega)
  refine ⟨l++[r],by simp [hl],fun i q hq=>?_⟩
  by_cases hi:i<n
  ·rw [List.getElem?_append_left (by omega)] at hq;exact hp i q hq
  ·have hin:i=n:=by
    have:=(List.getElem?_eq_some_iff.1 hq).1
    simp at this;omega
   subst hin
   rw [List.getElem?_append_right (by omega),hl] at hq
   simp at hq
   subst hq;exact hr
theorem JOc {e:TypeId}{ks:List LK}(ht:P.underlying t=some (.slice e))(hk:flatK P e=some ks)(hc:P.cellsOf e=ks.length)(h0:0<ks.length)(h:DataW.trod enc P w base spare held fuel t cs=some x) :
  ∃(v:Value) (rows:List (List Value)),cs=[v]∧(∀r∈rows,JO LK.has ks r)∧RepD (fun b _=>b<w.heap.size) w (.sl ks.length (rows.map (·.map .raw))) v:=by
 rcases DataW.trod_slice ht h with ⟨rfl,_⟩|⟨a,len,cap,elems,rest,n,_,rfl,_,hb,hl,_,hlen,hel,_,_⟩
 ·exact ⟨_,[],rfl,by simp,.nil _ _ _⟩
 ·have hrow:∀i,i<len→∃r:List Value,JO LK.has ks r∧∀j,j<ks.length→w.cell? ((a.add (i*ks.length)).add j)=r[j]? :=by
   intro i hi
   have h1:=hel i hi
   rw [List.getElem?_eq_getElem (by omega)] at h1
   obtain ⟨cs',h2,h3⟩:=Option.bind_eq_some_iff.1 h1
   rw [hc] at h2
   obtain ⟨_,h4,h5⟩:=World.cells?_some h2
   exact ⟨cs',JRS hk h3,h5⟩
  obtain ⟨rows,hrl,hrp⟩:=JQq hrow
  refine ⟨_,rows,rfl,fun r hr=>?_,?_⟩
  ·obtain ⟨i,hi⟩:=List.getElem?_of_mem hr
   exact (hrp i r hi).1
  ·by_cases hz:len=0
   ·subst hz
    have:rows=[]:=List.eq_nil_of_length_eq_zero hrl
    subst this
    exact .nil _ _ _
   ·obtain ⟨r0,hr0⟩:∃r0,rows[0]? = some r0:=⟨_,List.getElem?_eq_getElem (by omega)⟩
    have hsp:a.spot=none∧a.block<w.heap.size:=by
     obtain ⟨g1,g2⟩:=hrp 0 r0 hr0
     obtain ⟨u,hu⟩:∃u,r0[0]? = some u:=⟨_,List.getElem?_eq_getElem (by rw [JGX g1];exact h0)⟩
     have g3:=g2 0 h0
     rw [hu] at g3
     have e:(a.add (0*ks.length)).add 0=a:=by simp [Addr.add]
     rw [e] at g3
     unfold World.cell? at g3
     split at g3
     ·rename_i hh
      split at g3
      ·cases g3
      ·rename_i hsp
       exact ⟨by simpa using hsp,(Array.getElem?_eq_some_iff.1 hh).1⟩
     ·cases g3
    obtain ⟨hsp,hbk⟩:=hsp
    have hadd:∀n m:Nat,(a.add n).add m=⟨a.block,a.off+n+m,none⟩:=by
     intro n m
     obtain ⟨ab,ao,asp⟩:=a
     simp only at hsp
     subst hsp
     simp only [Addr.add]
     by_cases h1:n=0
     ·by_cases h2:m=0
      ·simp [h1,h2]
      ·simp [h1,h2]
     ·by_cases h2:m=0
      ·simp [h1,h2]
      ·simp [h1,h2]
    have hcell:∀(i j:Nat) (r:List Value) (u:Value),rows[i]? = some r→r[j]? = some u→w.cell? ⟨a.block,a.off+i*ks.length+j,none⟩=some u:=by
     intro i j r u hi hj
     obtain ⟨g1,g2⟩:=hrp i r hi
     have hjl:j<ks.length:=by
      have:=(List.getElem?_eq_some_iff.1 hj).1
      rw [JGX g1] at this;exact this
     have g3:=g2 j hjl
     rw [hj,hadd] at g3
     exact g3
    have hgr:∀(i:Nat) (es:List D),(rows.map (·.map D.raw))[i]? = some es→∃r,rows[i]? = some r∧es=r.map D.raw:=by
     intro i es hi
     rw [List.getElem?_map] at hi
     cases hr:rows[i]? with
     |none=>rw [hr] at hi;cases hi
     |some r=>rw [hr] at hi;simp at hi;exact ⟨r,rfl,hi.symm⟩
    have hgd:∀(r:List Value) (j:Nat) (d:D),(r.map D.raw)[j]? = some d→∃u,r[j]? = some u∧d=.raw u:=by
     intro r j d hj
     rw [List.getElem?_map] at hj
     cases hr:r[j]? with
     |none=>rw [hr] at hj;cases hj
     |some u=>rw [hr] at hj;simp at hj;exact ⟨u,rfl,hj.symm⟩
    have ha:a=⟨a.block,a.off,none⟩:=by obtain ⟨ab,ao,asp⟩:=a;simp only at hsp;subst hsp;rfl
    have hle:(rows.map (·.map D.raw)).length=len:=by rw [List.length_map,hrl]
    have:=RepD.sl (S:=fun b _=>b<w.heap.size) (w:=w) ks.length (rows.map (·.map D.raw)) a.block a.off cap (fun i j=>((rows[i]?.getD [])[j]?).getD .nilFunc) (by rw [hle];exact hl)
     (fun i es hi=>by
      obtain ⟨r,hr,rfl⟩:=hgr i es hi
      rw [List.length_map,JGX (hrp i r hr).1])
     (fun i es j d hi hj=>hbk)
     (fun i es j d hi hj=>by
      obtain ⟨r,hr,rfl⟩:=hgr i es hi
      obtain ⟨u,hu,rfl⟩:=hgd r j d hj
      simp only [hr,Option.getD_some,hu]
      exact hcell i j r u hr hu)
     (fun i es j d hi hj=>by
      obtain ⟨r,hr,rfl⟩:=hgr i es hi
      obtain ⟨u,hu,rfl⟩:=hgd r j d hj
      simp only [hr,Option.getD_some,hu]
      obtain ⟨k,_,hk⟩:=JLS (hrp i r hr).1 hu
      exact .raw u (LK.one hk))
    rw [hle,←ha] at this
    exact this
theorem JKK {α:Type}{f:α→List D}{ks:List LK}(hf:∀r,JO LK.has ks r→∃x,r.map D.raw=f x):∀ {rows:List (List Value)},(∀r∈rows,JO LK.has ks r)→∃l:List α,rows.map (·.map D.raw)=l.map f
 |[],_=>⟨[],rfl⟩
 |r::rows,h=>by
  obtain ⟨x,hx⟩:=hf r (h r (by simp))
  obtain ⟨l,hl⟩:=JKK hf (rows:=rows) fun q hq=>h q (List.mem_cons_of_mem _ hq)
  exact ⟨x::l,by rw [List.map_cons,List.map_cons,hx,hl]⟩
end read
def JTt (P:Program)(W:World):Env P where
 l:=0
 J:=fun b S M w=>((∃r o,b=.ret r o)∧Below W.heap.size W w∧∀k,M k→W.heap.size≤k)∧ZZ P S w
 glob:=fun h=>h.2
 step:=by
  rintro b S M w S' M' w' ⟨⟨h1,h2,h3⟩,h4⟩ hf _ hM hS _
  refine ⟨⟨h1,h2.trans ⟨hf.os,hf.tape,hf.output,hf.size,fun k hk=>hf.block k (Nat.lt_of_lt_of_le hk h2.size) fun hm=>?_⟩,fun k hk=>?_⟩,h4.step hS hf.cell⟩
  ·have:=h3 k hm;omega
  ·rcases hM k hk with h|h
   ·exact h3 k h
   ·have:=h2.size;omega
 yld:=by
  rintro args k S M w vs ⟨⟨⟨r,o,h⟩,_⟩,_⟩
  cases h
theorem ZZ.none {P:Program}{S:JZ}{w:World}(h1:P.globalNamed "internal/strconv.uint64pow10" = .none)(h2:P.globalNamed "internal/bytealg.MaxLen" = .none):ZZ P S w where
 tab:=fun nm k zs hm g hg=>by
  simp only [JFW,List.mem_cons,List.not_mem_nil,or_false,Prod.mk.injEq] at hm
  rw [hm.1,h1] at hg;cases hg
 max:=fun g hg=>by rw [h2] at hg;cases hg
theorem JTu {P:Program}{f:FuncId}{args:List AV}{b:Bool}(h:Jf P f args (.bool b) [])(W:World)(vs:List Value)(hr:JO (Jk (fun b _=>b<W.heap.size) JAO (look []) W) args vs)(hG:ZZ P (fun b _=>b<W.heap.size) W:=by exact ZZ.none (by rfl) (by rfl)) :
  Calls P f vs.toArray W fun e W'=>e=.returned (.bool b)∧Below W.heap.size W W':=by
 rw [←callsIn_wide]
 refine CallsIn.mono (h (JTt P W) (fun b _=>b<W.heap.size) (fun _=>False) JAO W vs (fun _ _ h=>h) (fun _ h=>h.elim) (fun o x h=>by simp [look] at h) (fun o o' x x' b h=>by simp [look] at h) (fun o x b h=>by simp [look] at h) (fun o h=>by simp [look] at h) hr ⟨⟨⟨_,_,rfl⟩,Below.refl _ _,fun _ h=>h.elim⟩,hG⟩) fun e W' h=>?_
 obtain ⟨v,res,obs,S',M',ι',rfl,hl,hJ,hp⟩:=h
 obtain ⟨rfl,rfl⟩:=hl.inv
 refine ⟨?_,hJ.1.2.1⟩
 have hv:=hp.res
 have:v=.bool b:=by
  obtain ⟨l,hl1,hl2⟩:=hv
  cases hl1
  exact Qd hl2
 rw [this]
section post
variable {H:Type} {enc:TypeId × Value→H} {P:Program}
theorem JO1 (hl:laidOutB P=true){W W':World}(hb:Below W.heap.size W W'):∀ {ts:List TypeId} {vs:List Value} {ds:List (DataW H)} {ps:List MemPlace},(∀t∈ts,P.readableRec t=true∧t<P.types.size) →
  DataW.TrodAll enc P W 0 (fun _=>true) true ts vs ds ps→DataW.TrodAll enc P W' 0 (fun b=>decide (b<W.heap.size)) true ts vs ds ps
 |[],vs,ds,ps,_,h=>by
  obtain ⟨rfl,rfl,rfl⟩:=trodAll_nil h
  exact rfl
 |t::ts,vs,ds,ps,ht,h=>by
  have hlt:=DataW.TrodAll.lt h
  obtain ⟨v,vs1,d,ds1,a,b,rfl,rfl,rfl,h1,h2⟩:=trodAll_cons h
  exact ⟨a,b,Below.trod hl (ht t (by simp)).1 (ht t (by simp)).2 h1 hb fun x hx=>hlt x (by simp [hx]),JO1 hl hb (fun t h=>ht t (by simp [h])) h2,rfl⟩
theorem JTS {f:Func}{s:ChangeSpec}{fresh handsOn:Bool}{W W':World}{args:Array Value}{ds gs:List (DataW H)}{before:List MemPlace}{tb:TypeId}
  (hW:DataW.Whole enc P f.params.toList s.vars false W args.toList ds gs before) (hb:Below W.heap.size W W') (hv:s.vars=[]) (hfn:s.fn H (ds++gs)={ results:=[.lit (.bool true)],args:=ds })
  (ht:f.resultTypes=#[tb]) (htb:P.underlying tb=some .bool) (hl:laidOutB P=true) (hrd:∀t∈f.params.toList,P.readableRec t=true∧t<P.types.size) :
  s.post enc P f false fresh handsOn false W args (.bool true) W':=by
 have hW2:=hW
 obtain ⟨p,q,hA,hV,hpq,hz,hn⟩:=hW2
 rw [hv] at hV
 obtain ⟨rfl,rfl⟩:=trodVars_none hV
 refine ⟨ds,[],before,[],p,[],hW,?_,?_,?_,?_,fun h=>by cases h⟩
 ·rw [hfn,ht]
  exact trodAll_mk1 (shut_bool htb true)
 ·rw [hfn]
  exact JO1 hl hb hrd hA
 ·rw [hfn,hv];rfl
 ·exact hb.frame _
end post
end Go.Mw
namespace Go.Mw
open Go.RowKit Go.ChangeShapes Go.WideShapes
section
variable {H:Type} {enc:TypeId × Value→H} {P:Program} {w:World} {base:Nat} {spare:Nat→Bool} {held:Bool} {v:Value} {d:DataW H} {ps:List MemPlace} {t:TypeId}
theorem JRy {k:IntKind}{b0:Nat}{r:Reach}(ht:P.underlying t=some (.int k))(hv:Value.okWide P w r b0 t v)(h:DataW.Trod enc P w base spare held t v d ps) :
  ∃n:Int,(Lit.int k n).wf=true∧Jk (fun b _=>b<w.heap.size) JAO (look []) w (.leaf (.d (.raw (.int k n)))) v:=by
 obtain ⟨n,rfl,_,_,hw⟩:=open_int ht hv h
 exact ⟨n,hw,_,rfl,.raw _ rfl⟩
end
end Go.Mw
namespace Go.Mw
open Go.RowKit Go.ChangeShapes Go.WideShapes
section
variable {H:Type} {enc:TypeId × Value→H} {P:Program} {w:World} {base:Nat} {spare:Nat→Bool} {held:Bool} {v:Value} {d:DataW H} {ps:List MemPlace} {t:TypeId}
end
end Go.Mw
namespace Go.Mw
open Go.RowKit Go.ChangeShapes Go.WideShapes
section
variable {H:Type} {enc:TypeId × Value→H} {P:Program} {w:World} {base:Nat} {spare:Nat→Bool} {held:Bool} {fuel:Nat} {t:TypeId} {cs:List Value} {x:DataW H × List MemPlace}
end
end Go.Mw
namespace Go.Mw
open Go.RowKit
theorem JTn {H:Type}{enc:TypeId × Value→H}{a:Assume}{C:Checked}{os:Os}{f:FuncId}{fn:Func}{s:ChangeSpec}{conds:List PathCond}{apart fresh handsOn again:Bool}{X:World→Array Value→Prop}
  (hX:∀(w w':World) (args:Array Value),w.heap=w'.heap→X w args→X w' args)
  (own:ownKnob C.prog.godebug=none) (started:os.Started) (noInit:C.prog.inits.idxOf? f=none) (hfn:C.prog.funcs[f]? = some fn)
  (witness:∃(w:World) (tape:Tape) (i:Input),w.os=os∧(w.forCall tape i).Shaped C.prog∧i.vars=[]∧Input.okWide C.prog (w.forCall tape i) .any w.heap.size f i ∧
   ((s.pre enc C.prog fn conds apart (w.forCall tape i).memory i.args∧X (w.forCall tape i).memory i.args)∧sizedMet enc C.prog fn (OpenSpec.ofChange s) apart (w.forCall tape i).memory i.args)∧a.holds C.prog (lone (Frame.enter C.prog f i.args .normal) [] (w.forCall tape i)))
  (contract:∀(W:World) (base:Nat) (args:Array Value) (ds gs:List (DataW H)) (before:List MemPlace),
   (∀(j:Nat) t v,fn.params[j]? = some t→args[j]? = some v→Value.okWide C.prog W .any base t v) →
   DataW.Whole enc C.prog fn.params.toList s.vars apart W args.toList ds gs before →
   W.ShapedOpen C.prog→X W args →
   Calls C.prog f args W fun e W'=>∃v,e=.returned v∧s.post enc C.prog fn apart fresh handsOn again W args v W') :
  ReturnsInHanded a C os f .any (fun w args=>(s.pre enc C.prog fn conds apart w args∧X w args)∧sizedMet enc C.prog fn (OpenSpec.ofChange s) apart w args) (s.post enc C.prog fn apart fresh handsOn again):=by
 refine returnsInHanded_of_calls own started noInit witness ?_
 intro w tape i _ hsh _ hok hpre hholds
 obtain ⟨_,_,_,fn',hfn',_,_,_,_,hval⟩:=hok
 have e:fn'=fn:=Option.some.inj (hfn'.symm.trans hfn)
 subst e
 obtain ⟨⟨⟨ds,gs,before,hw,hc⟩,hx⟩,hz⟩:=hpre
 have hw':=DataW.Whole.of_heap (w':=w.forCall tape i) (by rfl) hw
 refine (contract (w.forCall tape i) w.heap.size i.args ds gs before hval hw' hsh (hX _ _ _ (by rfl) hx)).mono fun e W' ⟨v,he,hp⟩=>?_
 subst he
 exact ChangeSpec.post_blind hp
theorem ZZ.of {P:Program}{W:World}{laid:List (String × DataW Unit)}{g m:Nat}{t e:TypeId}{n:Nat}{tm:TypeId}{zero:Array Value}
  (hL:laidMetH P laid W) (hpl:(laid.all fun x=>x.2.handleName?.isNone)=true)
  (hf:(laid.filter fun x=>x.1 == "internal/strconv.uint64pow10")=[("internal/strconv.uint64pow10",Lib.tabData .u64 Lib.pow10Tab)])
  (hg:P.globalNamed "internal/strconv.uint64pow10" = some g) (hty:(P.globals[g]?).map (·.type)=some t) (ht:P.underlying t=some (.array n e)) (he:P.underlying e=some (.int .u64)) (hce:P.cellsOf e=1) (hct:P.cellsOf t=n)
  (hm:P.globalNamed "internal/bytealg.MaxLen" = some m) (hs:W.ShapedOpen P) (hgs:m<P.globals.size)
  (h0:((begin P (fun _ _=>0) default).world.heap[m]?).bind Obj.row? = some (zero,tm)) (hz:zero.size=1)
  (hb:P.buildable tm=true) (hcm:P.cellTypes P.depth tm=some [tm]) (hu:P.underlying tm=some (.int .i64)):ZZ P (fun b _=>b<W.heap.size) W where
 tab:=fun nm k zs hmem g' hg'=>by
  simp only [JFW,List.mem_cons,List.not_mem_nil,or_false,Prod.mk.injEq] at hmem
  obtain ⟨rfl,rfl,rfl⟩:=hmem
  have h1:=laidMetH.filter (fun x=>x.1 == "internal/strconv.uint64pow10") hL
  rw [hf,MakeChecks.laidMetH_plain _ _ _ (by rfl)] at h1
  have h2:=Lib.tabIs_of_head hg hty ht he hce hct h1
  refine ⟨fun i=>?_,h2⟩
  obtain rfl:=Option.some.inj (hg.symm.trans hg')
  have h3:=h2
  unfold Lib.TabIs World.var? at h3
  simp only [hg,Option.bind_some] at h3
  cases hb:W.heap[g]? with
  |none=>simp [hb] at h3
  |some x=>exact (Array.getElem?_eq_some_iff.1 hb).1
 max:=fun g' hg'=>by
  obtain rfl:=Option.some.inj (hm.symm.trans hg')
  obtain ⟨x,hx⟩:=Go.Proofs.cell_of_shapedOpen_int hs hgs h0 hz hb hcm hu
  refine ⟨?_,x,hx⟩
  unfold World.cell? at hx
  split at hx
  ·rename_i hh
   exact (Array.getElem?_eq_some_iff.1 hh).1
  ·cases hx
end Go.Mw

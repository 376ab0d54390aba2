/- From a contract to a row: what a call's arguments read as, and that what was there before the call is as it was; no condition but those in each. -/
import Derived.Test.YtkpacnlinpbinaaD1
import Derived.Test.YtkpacnlinpbinaaB4
import Derived.ProofKit
import Derived.Carry
import Derived.OpenShut
import Derived.Test.YtkpacnlinpbinaaB5
set_option linter.unusedSimpArgs false
set_option linter.unusedVariables false
set_option linter.unusedSectionVars false
set_option linter.deprecated false
namespace Go.Mw
open Go.RowKit Go.ChangeShapes Go.WideShapes
inductive LK where
 |int (k:IntKind)
 |bool
 |str
deriving DecidableEq
def LK.has:LK→Value→Prop
 |.int k,v=>∃n,v=.int k n∧(Lit.int k n).wf=true
 |.bool,v=>∃b,v=.bool b
 |.str,v=>∃s:ByteArray,v=.string s∧s.size≤maxLen
def leafK (P:Program)(t:TypeId):Option LK:=match P.underlying t with
 |some (.int k)=>some (.int k)
 |some .bool=>some .bool
 |some .string=>some .str
 |_=>none
def fieldsK (P:Program):Nat→List Field→Option (List LK)
 |_,[]=>some []
 |i,f::r=>match leafK P f.type with
  |some k=>if f.offset=i∧P.cellsOf f.type=1 then (fieldsK P (i+1) r).map (k :: ·) else none
  |none=>none
def flatK (P:Program)(t:TypeId):Option (List LK):=match P.underlying t with
 |some (.struct fs)=>match fieldsK P 0 fs.toList with
  |some ks=>if P.cellsOf t=ks.length then some ks else none
  |none=>none
 |_=>(leafK P t).map fun k=>[k]
section read
variable {H:Type} {enc:TypeId × Value→H} {P:Program} {w:World} {base:Nat} {spare:Nat→Bool} {held:Bool} {fuel:Nat} {t:TypeId} {cs:List Value} {x:DataW H × List MemPlace}
theorem leaf_read {k:LK}(hk:leafK P t=some k)(h:DataW.trod enc P w base spare held fuel t cs=some x):∃v,cs=[v]∧k.has v:=by
 unfold leafK at hk
 split at hk
 ·rename_i ht
  cases hk
  obtain ⟨n,rfl,_,hw⟩:=DataW.trod_int ht h
  exact ⟨_,rfl,n,rfl,hw⟩
 ·rename_i ht
  cases hk
  obtain ⟨b,rfl,_⟩:=DataW.trod_bool ht h
  exact ⟨_,rfl,b,rfl⟩
 ·rename_i ht
  cases hk
  obtain ⟨s,rfl,_,hs⟩:=DataW.trod_string ht h
  exact ⟨_,rfl,s,rfl,hs⟩
 ·cases hk
theorem fields_read {n:Nat}:∀ {fs:List Field} {i:Nat} {ks:List LK},fieldsK P i fs=some ks→cs.length=i+fs.length →
  (∀(j:Nat) (f:Field),fs[j]? = some f→∃y,DataW.trod enc P w base spare held n f.type ((cs.drop f.offset).take (P.cellsOf f.type))=some y)→All2 LK.has ks (cs.drop i)
 |[],i,ks,hk,hl,_=>by
  simp only [fieldsK,Option.some.injEq] at hk
  subst hk
  rw [List.drop_eq_nil_of_le (by simp at hl;omega)]
  trivial
 |f::fs,i,ks,hk,hl,h=>by
  unfold fieldsK at hk
  split at hk
  ·rename_i k hlk
   split at hk
   ·rename_i hc
    obtain ⟨ks',hks,rfl⟩:=Option.map_eq_some_iff.1 hk
    obtain ⟨y,hy⟩:=h 0 f rfl
    rw [hc.1,hc.2] at hy
    obtain ⟨v,hv,hh⟩:=leaf_read hlk hy
    have ih:=fields_read hks (by simp at hl;omega) fun j g hg=>h (j+1) g hg
    have hd:cs.drop i=v::cs.drop (i+1):=by
     have e1:(cs.drop i)[0]? = some v:=by
      have:((cs.drop i).take 1)[0]? = some v:=by rw [hv];rfl
      simpa using this
     have e2:cs[i]? = some v:=by simpa using e1
     obtain ⟨hi,rfl⟩:=List.getElem?_eq_some_iff.1 e2
     exact (List.getElem_cons_drop hi).symm
    rw [hd]
    exact ⟨hh,ih⟩
   ·cases hk
  ·cases hk
theorem flat_read {ks:List LK}(hk:flatK P t=some ks)(h:DataW.trod enc P w base spare held fuel t cs=some x):All2 LK.has ks cs:=by
 unfold flatK at hk
 split at hk
 ·rename_i fs ht
  split at hk
  ·rename_i ks' hks
   split at hk
   ·rename_i hc
    cases hk
    obtain ⟨xs,n,_,_,hl,hxs,hf⟩:=DataW.trod_struct ht h
    have hlen:∀ {l:List Field} {i:Nat} {ks:List LK},fieldsK P i l=some ks→ks.length=l.length:=fun {l}=>by
     induction l with
     |nil=>intro i ks h;simp only [fieldsK,Option.some.injEq] at h;subst h;rfl
     |cons f l ih=>
      intro i ks h
      unfold fieldsK at h
      split at h
      ·split at h
       ·obtain ⟨ks',h1,rfl⟩:=Option.map_eq_some_iff.1 h
        simp [ih h1]
       ·cases h
      ·cases h
    have:=fields_read (n:=n) hks (by rw [hl,hc,hlen hks];simp) fun j f hj=>by
     have hj':fs[j]? = some f:=by simpa using hj
     have hjl:=(Array.getElem?_eq_some_iff.1 hj').1
     exact ⟨_,(hf j f hj').trans (List.getElem?_eq_getElem (by omega))⟩
    rw [List.drop_zero] at this
    exact this
   ·cases hk
  ·cases hk
 ·obtain ⟨k,hlk,rfl⟩:=Option.map_eq_some_iff.1 hk
  obtain ⟨v,rfl,hv⟩:=leaf_read hlk h
  exact ⟨hv,trivial⟩
def fieldsT (P:Program):Nat→List Field→Option (List TypeId)
 |_,[]=>some []
 |i,f::r=>if f.offset=i∧P.cellsOf f.type=1 then (fieldsT P (i+1) r).map (f.type :: ·) else none
def fieldsOne (P:Program)(t:TypeId):Option (List TypeId):=match P.underlying t with
 |some (.struct fs)=>match fieldsT P 0 fs.toList with
  |some ts=>if P.cellsOf t=ts.length then some ts else none
  |none=>none
 |_=>none
theorem fieldsT_len {P:Program}:∀ {l:List Field} {i:Nat} {ts:List TypeId},fieldsT P i l=some ts→ts.length=l.length
 |[],i,ts,h=>by simp only [fieldsT,Option.some.injEq] at h;subst h;rfl
 |f::l,i,ts,h=>by
  unfold fieldsT at h
  split at h
  ·obtain ⟨ks',h1,rfl⟩:=Option.map_eq_some_iff.1 h
   simp [fieldsT_len h1]
  ·cases h
theorem fieldsT_read {n:Nat}:∀ {fs:List Field} {i:Nat} {ts:List TypeId},fieldsT P i fs=some ts→cs.length=i+fs.length →
  (∀(j:Nat) (f:Field),fs[j]? = some f→∃y,DataW.trod enc P w base spare held n f.type ((cs.drop f.offset).take (P.cellsOf f.type))=some y) →
  All2 (fun t v=>∃y,DataW.trod enc P w base spare held n t [v]=some y) ts (cs.drop i)
 |[],i,ts,hk,hl,_=>by
  simp only [fieldsT,Option.some.injEq] at hk
  subst hk
  rw [List.drop_eq_nil_of_le (by simp at hl;omega)]
  trivial
 |f::fs,i,ts,hk,hl,h=>by
  unfold fieldsT at hk
  split at hk
  ·rename_i hc
   obtain ⟨ts',hts,rfl⟩:=Option.map_eq_some_iff.1 hk
   obtain ⟨y,hy⟩:=h 0 f rfl
   rw [hc.1,hc.2] at hy
   have hil:i<cs.length:=by simp at hl;omega
   have hd:cs.drop i=cs[i]::cs.drop (i+1):=(List.getElem_cons_drop hil).symm
   have ih:=fieldsT_read hts (by simp at hl;omega) fun j g hg=>h (j+1) g hg
   rw [hd] at hy ⊢
   exact ⟨⟨y,hy⟩,ih⟩
  ·cases hk
theorem struct_one {ts:List TypeId}(hk:fieldsOne P t=some ts)(h:DataW.trod enc P w base spare held fuel t cs=some x):∃n,All2 (fun t v=>∃y,DataW.trod enc P w base spare held n t [v]=some y) ts cs:=by
 unfold fieldsOne at hk
 split at hk
 ·rename_i fs ht
  split at hk
  ·rename_i ts' hts
   split at hk
   ·rename_i hc
    cases hk
    obtain ⟨xs,n,_,_,hl,hxs,hf⟩:=DataW.trod_struct ht h
    have:=fieldsT_read (n:=n) hts (by rw [hl,hc,fieldsT_len hts];simp) fun j f hj=>by
     have hj':fs[j]? = some f:=by simpa using hj
     have hjl:=(Array.getElem?_eq_some_iff.1 hj').1
     exact ⟨_,(hf j f hj').trans (List.getElem?_eq_getElem (by omega))⟩
    rw [List.drop_zero] at this
    exact ⟨n,this⟩
   ·cases hk
  ·cases hk
 ·cases hk
def structB (P:Program)(t:TypeId):Bool:=match P.underlying t with
 |some (.struct _)=>true
 |_=>false
theorem struct_agg {t:TypeId}{r:Reach}{b0:Nat}{v:Value}(hs:structB P t=true)(h:Value.okWide P w r b0 t v):∃cs,v=.agg cs:=by
 unfold structB at hs
 split at hs
 ·rename_i fs ht
  obtain ⟨cs,h1,_⟩:=okWide_struct ht h
  exact ⟨cs,h1⟩
 ·cases hs
theorem LK.one {k:LK}{v:Value}(h:k.has v):v.oneCell'=true:=by
 cases k with
 |int k=>obtain ⟨n,rfl,_⟩:=h;rfl
 |bool=>obtain ⟨n,rfl⟩:=h;rfl
 |str=>obtain ⟨n,rfl,_⟩:=h;rfl
theorem all2_inv {α β:Type}{R:α→β→Prop}{a:α}{l:List α}{m:List β}(h:All2 R (a::l) m):∃b m',m=b::m' ∧ R a b∧All2 R l m':=by
 cases m with
 |nil=>exact h.elim
 |cons b m=>exact ⟨b,m,rfl,h.1,h.2⟩
theorem all2_nil {α β:Type}{R:α→β→Prop}{m:List β}(h:All2 R [] m):m=[]:=by
 cases m with
 |nil=>rfl
 |cons b m=>exact h.elim
theorem all2_len {α β:Type}{R:α→β→Prop}:∀ {l:List α} {m:List β},All2 R l m→m.length=l.length
 |[],[],_=>rfl
 |_::_,_::_,h=>by simp [all2_len h.2]
 |[],_::_,h=>h.elim
 |_::_,[],h=>h.elim
theorem all2_get {α β:Type}{R:α→β→Prop}:∀ {l:List α} {m:List β} {i:Nat} {y:β},All2 R l m→m[i]? = some y→∃x,l[i]? = some x∧R x y
 |x::_,y'::_,0,y,h,hy=>by simp at hy;subst hy;exact ⟨x,rfl,h.1⟩
 |x::_,y'::_,i+1,y,h,hy=>by simpa using all2_get h.2 (by simpa using hy)
 |[],[],i,y,_,hy=>by simp at hy
 |[],_::_,_,_,h,_=>h.elim
 |_::_,[],_,_,h,_=>h.elim
theorem choose_rows {n:Nat}{p:Nat→List Value→Prop}(h:∀i,i<n→∃r,p i r):∃l:List (List Value),l.length=n∧∀i r,l[i]? = some r→p i r:=by
 induction n with
 |zero=>exact ⟨[],rfl,fun i r h=>by simp at h⟩
 |succ n ih=>
  obtain ⟨l,hl,hp⟩:=ih fun i hi=>h i (by omega)
  obtain ⟨r,hr⟩:=h n (by omega)
  refine ⟨l++[r],by simp [hl],fun i q hq=>?_⟩
  by_cases hi:i<n
  ·rw [List.getElem?_append_left (by omega)] at hq;exact hp i q hq
  ·have hin:i=n:=by
    have:=(List.getElem?_eq_some_iff.1 hq).1
    simp at this;omega
   subst hin
   rw [List.getElem?_append_right (by omega),hl] at hq
   simp at hq
   subst hq;exact hr
theorem slice_read {e:TypeId}{ks:List LK}(ht:P.underlying t=some (.slice e))(hk:flatK P e=some ks)(hc:P.cellsOf e=ks.length)(h0:0<ks.length)(h:DataW.trod enc P w base spare held fuel t cs=some x) :
  ∃(v:Value) (rows:List (List Value)),cs=[v]∧(∀r∈rows,All2 LK.has ks r)∧RepD (fun b _=>b<w.heap.size) w (.sl ks.length (rows.map (·.map .raw))) v:=by
 rcases DataW.trod_slice ht h with ⟨rfl,_⟩|⟨a,len,cap,elems,rest,n,_,rfl,_,hb,hl,_,hlen,hel,_,_⟩
 ·exact ⟨_,[],rfl,by simp,.nil _ _ _⟩
 ·have hrow:∀i,i<len→∃r:List Value,All2 LK.has ks r∧∀j,j<ks.length→w.cell? ((a.add (i*ks.length)).add j)=r[j]? :=by
   intro i hi
   have h1:=hel i hi
   rw [List.getElem?_eq_getElem (by omega)] at h1
   obtain ⟨cs',h2,h3⟩:=Option.bind_eq_some_iff.1 h1
   rw [hc] at h2
   obtain ⟨_,h4,h5⟩:=World.cells?_some h2
   exact ⟨cs',flat_read hk h3,h5⟩
  obtain ⟨rows,hrl,hrp⟩:=choose_rows hrow
  refine ⟨_,rows,rfl,fun r hr=>?_,?_⟩
  ·obtain ⟨i,hi⟩:=List.getElem?_of_mem hr
   exact (hrp i r hi).1
  ·by_cases hz:len=0
   ·subst hz
    have:rows=[]:=List.eq_nil_of_length_eq_zero hrl
    subst this
    exact .nil _ _ _
   ·obtain ⟨r0,hr0⟩:∃r0,rows[0]? = some r0:=⟨_,List.getElem?_eq_getElem (by omega)⟩
    have hsp:a.spot=none∧a.block<w.heap.size:=by
     obtain ⟨g1,g2⟩:=hrp 0 r0 hr0
     obtain ⟨u,hu⟩:∃u,r0[0]? = some u:=⟨_,List.getElem?_eq_getElem (by rw [all2_len g1];exact h0)⟩
     have g3:=g2 0 h0
     rw [hu] at g3
     have e:(a.add (0*ks.length)).add 0=a:=by simp [Addr.add]
     rw [e] at g3
     unfold World.cell? at g3
     split at g3
     ·rename_i hh
      split at g3
      ·cases g3
      ·rename_i hsp
       exact ⟨by simpa using hsp,(Array.getElem?_eq_some_iff.1 hh).1⟩
     ·cases g3
    obtain ⟨hsp,hbk⟩:=hsp
    have hadd:∀n m:Nat,(a.add n).add m=⟨a.block,a.off+n+m,none⟩:=by
     intro n m
     obtain ⟨ab,ao,asp⟩:=a
     simp only at hsp
     subst hsp
     simp only [Addr.add]
     by_cases h1:n=0
     ·by_cases h2:m=0
      ·simp [h1,h2]
      ·simp [h1,h2]
     ·by_cases h2:m=0
      ·simp [h1,h2]
      ·simp [h1,h2]
    have hcell:∀(i j:Nat) (r:List Value) (u:Value),rows[i]? = some r→r[j]? = some u→w.cell? ⟨a.block,a.off+i*ks.length+j,none⟩=some u:=by
     intro i j r u hi hj
     obtain ⟨g1,g2⟩:=hrp i r hi
     have hjl:j<ks.length:=by
      have:=(List.getElem?_eq_some_iff.1 hj).1
      rw [all2_len g1] at this;exact this
     have g3:=g2 j hjl
     rw [hj,hadd] at g3
     exact g3
    have hgr:∀(i:Nat) (es:List D),(rows.map (·.map D.raw))[i]? = some es→∃r,rows[i]? = some r∧es=r.map D.raw:=by
     intro i es hi
     rw [List.getElem?_map] at hi
     cases hr:rows[i]? with
     |none=>rw [hr] at hi;cases hi
     |some r=>rw [hr] at hi;simp at hi;exact ⟨r,rfl,hi.symm⟩
    have hgd:∀(r:List Value) (j:Nat) (d:D),(r.map D.raw)[j]? = some d→∃u,r[j]? = some u∧d=.raw u:=by
     intro r j d hj
     rw [List.getElem?_map] at hj
     cases hr:r[j]? with
     |none=>rw [hr] at hj;cases hj
     |some u=>rw [hr] at hj;simp at hj;exact ⟨u,rfl,hj.symm⟩
    have ha:a=⟨a.block,a.off,none⟩:=by obtain ⟨ab,ao,asp⟩:=a;simp only at hsp;subst hsp;rfl
    have hle:(rows.map (·.map D.raw)).length=len:=by rw [List.length_map,hrl]
    have:=RepD.sl (S:=fun b _=>b<w.heap.size) (w:=w) ks.length (rows.map (·.map D.raw)) a.block a.off cap (fun i j=>((rows[i]?.getD [])[j]?).getD .nilFunc) (by rw [hle];exact hl)
     (fun i es hi=>by
      obtain ⟨r,hr,rfl⟩:=hgr i es hi
      rw [List.length_map,all2_len (hrp i r hr).1])
     (fun i es j d hi hj=>hbk)
     (fun i es j d hi hj=>by
      obtain ⟨r,hr,rfl⟩:=hgr i es hi
      obtain ⟨u,hu,rfl⟩:=hgd r j d hj
      simp only [hr,Option.getD_some,hu]
      exact hcell i j r u hr hu)
     (fun i es j d hi hj=>by
      obtain ⟨r,hr,rfl⟩:=hgr i es hi
      obtain ⟨u,hu,rfl⟩:=hgd r j d hj
      simp only [hr,Option.getD_some,hu]
      obtain ⟨k,_,hk⟩:=all2_get (hrp i r hr).1 hu
      exact .raw u (LK.one hk))
    rw [hle,←ha] at this
    exact this
theorem rows_enc {α:Type}{f:α→List D}{ks:List LK}(hf:∀r,All2 LK.has ks r→∃x,r.map D.raw=f x):∀ {rows:List (List Value)},(∀r∈rows,All2 LK.has ks r)→∃l:List α,rows.map (·.map D.raw)=l.map f
 |[],_=>⟨[],rfl⟩
 |r::rows,h=>by
  obtain ⟨x,hx⟩:=hf r (h r (by simp))
  obtain ⟨l,hl⟩:=rows_enc hf (rows:=rows) fun q hq=>h q (List.mem_cons_of_mem _ hq)
  exact ⟨x::l,by rw [List.map_cons,List.map_cons,hx,hl]⟩
end read
def rowEnv (P:Program)(W:World):Env P where
 l:=0
 J:=fun b S M w=>((∃r o,b=.ret r o)∧Below W.heap.size W w∧∀k,M k→W.heap.size≤k)∧GOk P S w
 glob:=fun h=>h.2
 step:=by
  rintro b S M w S' M' w' ⟨⟨h1,h2,h3⟩,h4⟩ hf _ hM hS _
  refine ⟨⟨h1,h2.trans ⟨hf.os,hf.tape,hf.output,hf.size,fun k hk=>hf.block k (Nat.lt_of_lt_of_le hk h2.size) fun hm=>?_⟩,fun k hk=>?_⟩,h4.step hS hf.cell⟩
  ·have:=h3 k hm;omega
  ·rcases hM k hk with h|h
   ·exact h3 k h
   ·have:=h2.size;omega
 yld:=by
  rintro args k S M w vs ⟨⟨⟨r,o,h⟩,_⟩,_⟩
  cases h
theorem GOk.none {P:Program}{S:Settled}{w:World}(h1:P.globalNamed "internal/strconv.uint64pow10" = .none)(h2:P.globalNamed "internal/bytealg.MaxLen" = .none):GOk P S w where
 tab:=fun nm k zs hm g hg=>by
  simp only [libTabs,List.mem_cons,List.not_mem_nil,or_false,Prod.mk.injEq] at hm
  rw [hm.1,h1] at hg;cases hg
 max:=fun g hg=>by rw [h2] at hg;cases hg
theorem row_con {P:Program}{f:FuncId}{args:List AV}{b:Bool}(h:Contract P f args (.bool b) [])(W:World)(vs:List Value)(hr:All2 (RepV (fun b _=>b<W.heap.size) noVal (look []) W) args vs)(hG:GOk P (fun b _=>b<W.heap.size) W:=by exact GOk.none (by rfl) (by rfl)) :
  Calls P f vs.toArray W fun e W'=>e=.returned (.bool b)∧Below W.heap.size W W':=by
 rw [←callsIn_wide]
 refine CallsIn.mono (h (rowEnv P W) (fun b _=>b<W.heap.size) (fun _=>False) noVal W vs (fun _ _ h=>h) (fun _ h=>h.elim) (fun o x h=>by simp [look] at h) (fun o o' x x' b h=>by simp [look] at h) (fun o x b h=>by simp [look] at h) (fun o h=>by simp [look] at h) hr ⟨⟨⟨_,_,rfl⟩,Below.refl _ _,fun _ h=>h.elim⟩,hG⟩) fun e W' h=>?_
 obtain ⟨v,res,obs,S',M',ι',rfl,hl,hJ,hp⟩:=h
 obtain ⟨rfl,rfl⟩:=hl.inv
 refine ⟨?_,hJ.1.2.1⟩
 have hv:=hp.res
 have:v=.bool b:=by
  obtain ⟨l,hl1,hl2⟩:=hv
  cases hl1
  exact raw_eq hl2
 rw [this]
section post
variable {H:Type} {enc:TypeId × Value→H} {P:Program}
theorem trodAll_below (hl:laidOutB P=true){W W':World}(hb:Below W.heap.size W W'):∀ {ts:List TypeId} {vs:List Value} {ds:List (DataW H)} {ps:List MemPlace},(∀t∈ts,P.readableRec t=true∧t<P.types.size) →
  DataW.TrodAll enc P W 0 (fun _=>true) true ts vs ds ps→DataW.TrodAll enc P W' 0 (fun b=>decide (b<W.heap.size)) true ts vs ds ps
 |[],vs,ds,ps,_,h=>by
  obtain ⟨rfl,rfl,rfl⟩:=trodAll_nil h
  exact rfl
 |t::ts,vs,ds,ps,ht,h=>by
  have hlt:=DataW.TrodAll.lt h
  obtain ⟨v,vs1,d,ds1,a,b,rfl,rfl,rfl,h1,h2⟩:=trodAll_cons h
  exact ⟨a,b,Below.trod hl (ht t (by simp)).1 (ht t (by simp)).2 h1 hb fun x hx=>hlt x (by simp [hx]),trodAll_below hl hb (fun t h=>ht t (by simp [h])) h2,rfl⟩
theorem post_below {f:Func}{s:ChangeSpec}{fresh handsOn:Bool}{W W':World}{args:Array Value}{ds gs:List (DataW H)}{before:List MemPlace}{tb:TypeId}
  (hW:DataW.Whole enc P f.params.toList s.vars false W args.toList ds gs before) (hb:Below W.heap.size W W') (hv:s.vars=[]) (hfn:s.fn H (ds++gs)={ results:=[.lit (.bool true)],args:=ds })
  (ht:f.resultTypes=#[tb]) (htb:P.underlying tb=some .bool) (hl:laidOutB P=true) (hrd:∀t∈f.params.toList,P.readableRec t=true∧t<P.types.size) :
  s.post enc P f false fresh handsOn false W args (.bool true) W':=by
 have hW2:=hW
 obtain ⟨p,q,hA,hV,hpq,hz,hn⟩:=hW2
 rw [hv] at hV
 obtain ⟨rfl,rfl⟩:=trodVars_none hV
 refine ⟨ds,[],before,[],p,[],hW,?_,?_,?_,?_,fun h=>by cases h⟩
 ·rw [hfn,ht]
  exact trodAll_mk1 (shut_bool htb true)
 ·rw [hfn]
  exact trodAll_below hl hb hrd hA
 ·rw [hfn,hv];rfl
 ·exact hb.frame _
end post
end Go.Mw
namespace Go.Mw
open Go.RowKit Go.ChangeShapes Go.WideShapes
section
variable {H:Type} {enc:TypeId × Value→H} {P:Program} {w:World} {base:Nat} {spare:Nat→Bool} {held:Bool} {v:Value} {d:DataW H} {ps:List MemPlace} {t:TypeId}
theorem int_read {k:IntKind}{b0:Nat}{r:Reach}(ht:P.underlying t=some (.int k))(hv:Value.okWide P w r b0 t v)(h:DataW.Trod enc P w base spare held t v d ps) :
  ∃n:Int,(Lit.int k n).wf=true∧RepV (fun b _=>b<w.heap.size) noVal (look []) w (.leaf (.d (.raw (.int k n)))) v:=by
 obtain ⟨n,rfl,_,_,hw⟩:=open_int ht hv h
 exact ⟨n,hw,_,rfl,.raw _ rfl⟩
theorem sl_read {e:TypeId}{ks:List LK}(ht:P.underlying t=some (.slice e))(hk:flatK P e=some ks)(hc:P.cellsOf e=ks.length)(h0:0<ks.length){b0:Nat}{r:Reach}(hv:Value.okWide P w r b0 t v)(h:DataW.Trod enc P w base spare held t v d ps) :
  ∃rows:List (List Value),(∀r∈rows,All2 LK.has ks r)∧RepV (fun b _=>b<w.heap.size) noVal (look []) w (.leaf (.d (.sl ks.length (rows.map (·.map .raw))))) v:=by
 obtain ⟨fuel,hf⟩:=h
 obtain ⟨u,rows,e1,hr,hd⟩:=slice_read ht hk hc h0 hf
 have hvu:v=u:=by
  unfold Value.okWide at hv
  rw [ht] at hv
  simp only [Cell.okWide,ht] at hv
  cases v<;>first|(simp only [Value.cells] at e1;exact (List.cons.inj e1).1)|(simp [Cell.ok,ht] at hv)
 subst hvu
 exact ⟨rows,hr,_,rfl,hd⟩
end
end Go.Mw
namespace Go.Mw
open Go.RowKit Go.ChangeShapes Go.WideShapes
section
variable {H:Type} {enc:TypeId × Value→H} {P:Program} {w:World} {base:Nat} {spare:Nat→Bool} {held:Bool} {v:Value} {d:DataW H} {ps:List MemPlace} {t:TypeId}
end
end Go.Mw
namespace Go.Mw
open Go.RowKit Go.ChangeShapes Go.WideShapes
section
variable {H:Type} {enc:TypeId × Value→H} {P:Program} {w:World} {base:Nat} {spare:Nat→Bool} {held:Bool} {fuel:Nat} {t:TypeId} {cs:List Value} {x:DataW H × List MemPlace}
def Reads (enc:TypeId × Value→H)(P:Program)(w:World)(base:Nat)(spare:Nat→Bool)(held:Bool)(t:TypeId)(Q:List D→Prop):Prop:=
 ∀(fuel:Nat) (cs:List Value) (x:DataW H × List MemPlace),DataW.trod enc P w base spare held fuel t cs=some x→∃ds,Q ds∧All2 (RepD (fun b _=>b<w.heap.size) w) ds cs
theorem reads_flat {ks:List LK}(hk:flatK P t=some ks){Q:List D→Prop}(hq:∀r:List Value,All2 LK.has ks r→Q (r.map .raw)):Reads enc P w base spare held t Q:=by
 intro fuel cs x h
 have ha:=flat_read hk h
 refine ⟨cs.map .raw,hq cs ha,?_⟩
 have:∀ {l:List LK} {m:List Value},All2 LK.has l m→All2 (RepD (fun b _=>b<w.heap.size) w) (m.map .raw) m:=fun {l}=>by
  induction l with
  |nil=>intro m h;cases m with
   |nil=>trivial
   |cons _ _=>exact h.elim
  |cons k l ih=>intro m h;cases m with
   |nil=>exact h.elim
   |cons u m=>exact ⟨.raw _ (LK.one h.1),ih h.2⟩
 exact this ha
theorem choose_ds {n:Nat}{p:Nat→List D→Prop}(h:∀i,i<n→∃r,p i r):∃l:List (List D),l.length=n∧∀i r,l[i]? = some r→p i r:=by
 induction n with
 |zero=>exact ⟨[],rfl,fun i r h=>by simp at h⟩
 |succ n ih=>
  obtain ⟨l,hl,hp⟩:=ih fun i hi=>h i (by omega)
  obtain ⟨r,hr⟩:=h n (by omega)
  refine ⟨l++[r],by simp [hl],fun i q hq=>?_⟩
  by_cases hi:i<n
  ·rw [List.getElem?_append_left (by omega)] at hq;exact hp i q hq
  ·have hin:i=n:=by
    have:=(List.getElem?_eq_some_iff.1 hq).1
    simp at this;omega
   subst hin
   rw [List.getElem?_append_right (by omega),hl] at hq
   simp at hq
   subst hq;exact hr
theorem reads_slice {e:TypeId}{k:Nat}(ht:P.underlying t=some (.slice e)){Q:List D→Prop}(hr:Reads enc P w base spare held e Q)(hc:P.cellsOf e=k)(h0:0<k): 
  Reads enc P w base spare held t (fun ds=>∃rows,ds=[.sl k rows]∧∀r∈rows,Q r):=by
 intro fuel cs x h
 rcases DataW.trod_slice ht h with ⟨rfl,_⟩|⟨a,len,cap,elems,rest,n,_,rfl,_,hb,hl,_,hlen,hel,_,_⟩
 ·exact ⟨[.sl k []],⟨[],rfl,by simp⟩,.nil _ _ _,trivial⟩
 ·have hrow:∀i,i<len→∃r:List D,Q r∧r.length=k∧∀j d,r[j]? = some d→∃u,w.cell? ((a.add (i*k)).add j)=some u∧RepD (fun b _=>b<w.heap.size) w d u:=by
   intro i hi
   have h1:=hel i hi
   rw [List.getElem?_eq_getElem (by omega)] at h1
   obtain ⟨cs',h2,h3⟩:=Option.bind_eq_some_iff.1 h1
   rw [hc] at h2
   obtain ⟨h6,h4,h5⟩:=World.cells?_some h2
   obtain ⟨ds,hq,hds⟩:=hr _ _ _ h3
   have hcl:cs'.length=k:=by first|exact h4|exact h6|simpa using h4
   refine ⟨ds,hq,by rw [←hcl];exact hds.length,fun j d hj=>?_⟩
   obtain ⟨u,hu,hru⟩:=hds.get' hj
   have hjk:j<k:=by rw [←hcl];exact (List.getElem?_eq_some_iff.1 hu).1
   exact ⟨u,(h5 j hjk).trans hu,hru⟩
  obtain ⟨rows,hrl,hrp⟩:=choose_ds hrow
  refine ⟨[.sl k rows],⟨rows,rfl,fun r hr=>?_⟩,?_,trivial⟩
  ·obtain ⟨i,hi⟩:=List.getElem?_of_mem hr
   exact (hrp i r hi).1
  ·by_cases hz:len=0
   ·subst hz
    have:rows=[]:=List.eq_nil_of_length_eq_zero hrl
    subst this
    exact .nil _ _ _
   ·obtain ⟨r0,hr0⟩:∃r0,rows[0]? = some r0:=⟨_,List.getElem?_eq_getElem (by omega)⟩
    have hsp:a.spot=none∧a.block<w.heap.size:=by
     obtain ⟨_,g1,g2⟩:=hrp 0 r0 hr0
     obtain ⟨u,g3,_⟩:=g2 0 _ (List.getElem?_eq_getElem (by omega))
     have e:(a.add (0*k)).add 0=a:=by simp [Addr.add]
     rw [e] at g3
     unfold World.cell? at g3
     split at g3
     ·rename_i hh
      split at g3
      ·cases g3
      ·rename_i hsp
       exact ⟨by simpa using hsp,(Array.getElem?_eq_some_iff.1 hh).1⟩
     ·cases g3
    obtain ⟨hsp,hbk⟩:=hsp
    have hadd:∀n m:Nat,(a.add n).add m=⟨a.block,a.off+n+m,none⟩:=by
     intro n m
     obtain ⟨ab,ao,asp⟩:=a
     simp only at hsp
     subst hsp
     simp only [Addr.add]
     by_cases h1:n=0
     ·by_cases h2:m=0
      ·simp [h1,h2]
      ·simp [h1,h2]
     ·by_cases h2:m=0
      ·simp [h1,h2]
      ·simp [h1,h2]
    have ha:a=⟨a.block,a.off,none⟩:=by obtain ⟨ab,ao,asp⟩:=a;simp only at hsp;subst hsp;rfl
    have hcell:∀i r j d,rows[i]? = some r→r[j]? = some d→∃u,w.cell? ⟨a.block,a.off+i*k+j,none⟩=some u∧RepD (fun b _=>b<w.heap.size) w d u:=fun i r j d hi hj=>by
     obtain ⟨_,_,g2⟩:=hrp i r hi
     obtain ⟨u,g3,g4⟩:=g2 j d hj
     rw [hadd] at g3
     exact ⟨u,g3,g4⟩
    have:=RepD.sl (S:=fun b _=>b<w.heap.size) (w:=w) k rows a.block a.off cap (fun i j=>(w.cell? ⟨a.block,a.off+i*k+j,none⟩).getD .nilFunc) (by rw [hrl];exact hl)
     (fun i es hi=>(hrp i es hi).2.1)
     (fun i es j d hi hj=>hbk)
     (fun i es j d hi hj=>by
      obtain ⟨u,hu,_⟩:=hcell i es j d hi hj
      simp only [hu,Option.getD_some])
     (fun i es j d hi hj=>by
      obtain ⟨u,hu,hr⟩:=hcell i es j d hi hj
      simp only [hu,Option.getD_some]
      exact hr)
    rw [hrl,←ha] at this
    exact this
theorem reads_one {Q:List D→Prop}{v:Value}(hr:Reads enc P w base spare held t Q)(h:∃y,DataW.trod enc P w base spare held fuel t [v]=some y):∃d,Q [d]∧RepD (fun b _=>b<w.heap.size) w d v:=by
 obtain ⟨y,hy⟩:=h
 obtain ⟨ds,hq,ha⟩:=hr _ _ _ hy
 match ds,ha with
 |[d],ha=>exact ⟨d,hq,ha.1⟩
end
end Go.Mw
namespace Go.Li
structure Span where
 lo:Int
 hi:Int
 deriving DecidableEq
structure Pt where
 fl:Int
 e:Span
structure Cv where
 start:Int
 steep:Int
 ps:List Pt
def both (a b:Span):Span:=⟨max a.lo b.lo,min a.hi b.hi⟩
def upS (st:Int)(e:Span):List (Int × Span)→Span
 |[]=>e
 |(d,e')::r=>both e ⟨(upS st e' r).lo,(upS st e' r).hi+st*d⟩
def outS (st:Int)(s:Span):List (Int × Span)→List Span
 |[]=>[]
 |(d,e')::r=>both (upS st e' r) ⟨s.lo-st*d,s.hi⟩::outS st (both (upS st e' r) ⟨s.lo-st*d,s.hi⟩) r
def lft (f:Int):List Pt→List (Int × Span)
 |[]=>[]
 |q::r=>(f-q.fl,q.e)::lft q.fl r
def rgt (f:Int):List Pt→List (Int × Span)
 |[]=>[]
 |q::r=>(q.fl-f,q.e)::rgt q.fl r
def topS (st:Int)(A:List Pt)(p:Pt)(B:List Pt):Span:=both (upS st p.e (lft p.fl A)) (upS st p.e (rgt p.fl B))
def peakL (st:Int)(A:List Pt)(p:Pt)(B:List Pt):List Span:=
 (outS st (topS st A p B) (lft p.fl A)).reverse++topS st A p B::outS st (topS st A p B) (rgt p.fl B)
def goodL (l:List Span):Bool:=l.all fun s=>decide (s.lo≤s.hi)
def peakAt (st:Int)(ps:List Pt)(p:Nat):List Span:=peakL st (ps.take p).reverse (ps.getD p ⟨0,⟨0,0⟩⟩) (ps.drop (p+1))
def peaksL (st:Int)(ps:List Pt):List (List Span):=((List.range ps.length).map (peakAt st ps)).filter goodL
def canB (st:Int)(ps:List Pt):Bool:=ps.isEmpty || !(peaksL st ps).isEmpty
def free:Span:=⟨-1000,1000⟩
def insP (f:Int):List Pt→List Pt
 |[]=>[⟨f,free⟩]
 |q::r=>if f<q.fl then ⟨f,free⟩::q::r else if f=q.fl then q::r else q::insP f r
def chainOf (c:Cv)(fs:List Int):List Pt:=fs.foldl (fun ps f=>if f<c.start then ps else insP f ps) c.ps
def widen (a b:Span)(first:Bool):Span:=if first then b else ⟨min a.lo b.lo,max a.hi b.hi⟩
def widL:Span→Bool→List Span→Span
 |a,_,[]=>a
 |a,first,b::r=>widL (widen a b first) false r
def ownI (f:Int)(ps:List Pt):Nat:=ps.findIdx fun p=>p.fl==f
def atS (c:Cv)(f:Int):Span:=
 if f<c.start then ⟨-1000,-1000⟩ else widL ⟨0,0⟩ true ((peaksL c.steep (chainOf c [f])).map fun l=>l.getD (ownI f (chainOf c [f])) ⟨0,0⟩)
def bestL (far:Int→Int→Bool):Bool→Int→List Int→Int
 |_,b,[]=>b
 |first,b,n::r=>if first || far n b then bestL far false n r else bestL far first b r
def stillS:Span:=⟨-1000,-1000⟩
def ofSide (side:Bool)(s:Span):Int:=if side then s.hi else s.lo
def farB (side:Bool)(a b:Int):Bool:=if side then decide (a>b) else decide (a<b)
def downI (n:Int):Int:=if n<0 then -((999-n).tdiv 1000) else n.tdiv 1000
def upI (n:Int):Int:= -downI (-n)
def roundI (side:Bool)(n:Int):Int:=if side then upI n else downI n
def spanAt (f:Int)(ps:List Pt)(l:List Span):Span:=if ps.any (fun p=>p.fl==f) then l.getD (ownI f ps) ⟨0,0⟩ else stillS
def sumI (side:Bool)(f n:Int)(ps:List Pt)(l:List Span):Int:=n*(1000+ofSide side (spanAt f ps l))
def bestI (side:Bool)(c:Cv)(f n:Int):Int:=
 if (chainOf c [f]).isEmpty then sumI side f n [] []
 else bestL (farB side) true 0 ((peaksL c.steep (chainOf c [f])).map (sumI side f n (chainOf c [f])))
def shownS (c:Cv)(f n:Int):Span:=⟨roundI false (bestI false c f n),roundI true (bestI true c f n)⟩
def ptsB:Int→List Pt→Bool
 |_,[]=>true
 |from_,p::r=>(decide (from_≤p.fl)&&decide (p.fl≤100000)&&decide (p.e.lo≥-1000)&&decide (p.e.lo≤p.e.hi)&&decide (p.e.hi≤1000))&&ptsB (p.fl+1) r
def curveB (c:Cv):Bool:=decide (0≤c.start)&&decide (c.start≤100000)&&decide (0≤c.steep)&&decide (c.steep≤1000)&&decide (c.ps.length≤10)&&ptsB c.start c.ps
inductive Ins:List (Int × Span)→List (Int × Span)→Prop
 |last (d:Int) (h:0≤d):Ins [] [(d,free)]
 |here (d1 d2 d:Int) (e:Span) (L:List (Int × Span)) (h1:0≤d1) (h2:0≤d2) (hd:d=d1+d2):Ins ((d,e)::L) ((d1,free)::(d2,e)::L)
 |cons (x:Int × Span) {L L':List (Int × Span)} (h:Ins L L'):Ins (x::L) (x::L')
def Bd (e:Span):Prop:= -1000≤e.lo∧e.hi≤1000
def BdL (L:List (Int × Span)):Prop:=∀x∈L,0≤x.1∧Bd x.2
theorem upS_bd {st:Int}{e:Span}(h:Bd e):∀(L:List (Int × Span)),Bd (upS st e L)∧e.lo≤(upS st e L).lo∧(upS st e L).hi≤e.hi
 |[]=>⟨h,Int.le_refl _,Int.le_refl _⟩
 |(d,e')::r=>by
  have h1:=h.1;have h2:=h.2
  simp only [upS,both,Bd]
  omega
theorem mul_nn {st d:Int}(h:0≤st)(hd:0≤d):0≤st*d:=Int.mul_nonneg h hd
theorem upS_ins {st:Int}(hst:0≤st){L L':List (Int × Span)}(h:Ins L L'):∀ {e:Span},Bd e→BdL L→upS st e L'=upS st e L:=by
 induction h with
 |last d hd=>
  intro e he _
  have h1:=he.1;have h2:=he.2
  have h3:=mul_nn hst hd
  obtain ⟨lo,hi⟩:=e
  simp only [upS,both,free,Span.mk.injEq] at h1 h2 ⊢
  omega
 |here d1 d2 d e' L hd1 hd2 hd=>
  intro e he hL
  have h1:=he.1;have h2:=he.2
  have h3:=mul_nn hst hd1
  have h4:=mul_nn hst hd2
  have he':Bd e':=(hL (d,e') (by simp)).2
  obtain ⟨⟨b1,b2⟩,_,_⟩:=upS_bd (st:=st) he' L
  subst hd
  have h5:st*(d1+d2)=st*d1+st*d2:=Int.mul_add ..
  simp only [upS,both,free,Span.mk.injEq,h5] at *
  omega
 |cons x _ ih=>
  intro e he hL
  obtain ⟨d,e'⟩:=x
  have:=ih (e:=e') (hL (d,e') (by simp)).2 fun y hy=>hL y V216
  simp only [upS,this]
theorem out_ins {st:Int}(hst:0≤st){L L':List (Int × Span)}(h:Ins L L'):∀ {s:Span},Bd s→s.lo≤s.hi→BdL L→goodL (outS st s L)=true→goodL (outS st s L')=true:=by
 induction h with
 |last d hd=>
  intro s hs hne _ _
  have h1:=hs.1;have h2:=hs.2
  have h3:=mul_nn hst hd
  simp only [outS,upS,both,free,goodL,List.all_cons,List.all_nil,Bool.and_true,decide_eq_true_eq]
  omega
 |here d1 d2 d e' L hd1 hd2 hd=>
  intro s hs hne hL hg
  have h1:=hs.1;have h2:=hs.2
  have h3:=mul_nn hst hd1
  have h4:=mul_nn hst hd2
  have he':Bd e':=(hL (d,e') (by simp)).2
  obtain ⟨⟨b1,b2⟩,_,_⟩:=upS_bd (st:=st) he' L
  subst hd
  have h5:st*(d1+d2)=st*d1+st*d2:=Int.mul_add ..
  have e2:both (upS st e' L) ⟨(both (both free ⟨(upS st e' L).lo,(upS st e' L).hi+st*d2⟩) ⟨s.lo-st*d1,s.hi⟩).lo-st*d2,(both (both free ⟨(upS st e' L).lo,(upS st e' L).hi+st*d2⟩) ⟨s.lo-st*d1,s.hi⟩).hi⟩ =
    both (upS st e' L) ⟨s.lo-st*(d1+d2),s.hi⟩:=by
   simp only [both,free,Span.mk.injEq,h5]
   omega
  simp only [outS,goodL,List.all_cons,Bool.and_eq_true,decide_eq_true_eq] at hg ⊢
  simp only [upS,e2]
  refine ⟨?_,hg⟩
  have h6:=hg.1
  simp only [both,free,h5] at h6 ⊢
  omega
 | @cons x K K' hI ih=>
  intro s hs hne hL hg
  obtain ⟨d,e'⟩:=x
  have hL':BdL K:=fun y hy=>hL y (List.mem_cons_of_mem (d,e') hy)
  have he':Bd e':=(hL (d,e') (by simp)).2
  have hup:=upS_ins hst hI he' hL'
  simp only [outS,goodL,List.all_cons,Bool.and_eq_true,decide_eq_true_eq] at hg ⊢
  rw [hup]
  refine ⟨hg.1,ih ?_ hg.1 hL' hg.2⟩
  obtain ⟨⟨b1,b2⟩,_,_⟩:=upS_bd (st:=st) he' K
  have h1:=hs.1;have h2:=hs.2
  constructor
  ·have:(upS st e' K).lo≤(both (upS st e' K) ⟨s.lo-st*d,s.hi⟩).lo:=by simp only [both];omega
   exact Int.le_trans b1 this
  ·have:(both (upS st e' K) ⟨s.lo-st*d,s.hi⟩).hi≤(upS st e' K).hi:=by simp only [both];omega
   exact Int.le_trans this b2
def Asc (l:List Pt):Prop:=l.Pairwise fun a b=>a.fl<b.fl
theorem lft_ins {x:Pt}(hx:x.e=free):∀ {U V:List Pt} {f:Int},(∀q∈U++V,q.fl≤f)→(U++x::V).Pairwise (fun a b=>b.fl<a.fl)→x.fl≤f→Ins (lft f (U++V)) (lft f (U++x::V))
 |[],[],f,_,_,h=>by
  simp only [List.nil_append,lft,hx]
  exact .last _ (by omega)
 |[],q::V,f,hq,hp,h=>by
  simp only [List.nil_append,lft,hx]
  have:=(List.pairwise_cons.1 hp).1 q (by simp)
  exact .here _ _ _ _ _ (by omega) (by omega) (by omega)
 |u::U,V,f,hq,hp,h=>by
  simp only [List.cons_append,lft]
  rw [List.cons_append] at hp
  obtain ⟨h1,h2⟩:=List.pairwise_cons.1 hp
  refine .cons _ (lft_ins hx (fun q hq=>?_) h2 ?_)
  ·rcases List.mem_append.1 hq with hq|hq
   ·exact Int.le_of_lt (h1 q (by simp [hq]))
   ·exact Int.le_of_lt (h1 q (by simp [hq]))
  ·exact Int.le_of_lt (h1 x (by simp))
theorem rgt_ins {x:Pt}(hx:x.e=free):∀ {U V:List Pt} {f:Int},(∀q∈U++V,f≤q.fl)→(U++x::V).Pairwise (fun a b=>a.fl<b.fl)→f≤x.fl→Ins (rgt f (U++V)) (rgt f (U++x::V))
 |[],[],f,_,_,h=>by
  simp only [List.nil_append,rgt,hx]
  exact .last _ (by omega)
 |[],q::V,f,hq,hp,h=>by
  simp only [List.nil_append,rgt,hx]
  have:=(List.pairwise_cons.1 hp).1 q (by simp)
  exact .here _ _ _ _ _ (by omega) (by omega) (by omega)
 |u::U,V,f,hq,hp,h=>by
  simp only [List.cons_append,rgt]
  rw [List.cons_append] at hp
  obtain ⟨h1,h2⟩:=List.pairwise_cons.1 hp
  refine .cons _ (rgt_ins hx (fun q hq=>?_) h2 ?_)
  ·rcases List.mem_append.1 hq with hq|hq
   ·exact Int.le_of_lt (h1 q (by simp [hq]))
   ·exact Int.le_of_lt (h1 q (by simp [hq]))
  ·exact Int.le_of_lt (h1 x (by simp))
theorem lft_bd:∀ {l:List Pt} {f:Int},(∀q∈l,q.fl≤f)→l.Pairwise (fun a b=>b.fl<a.fl)→(∀q∈l,Bd q.e)→BdL (lft f l)
 |[],_,_,_,_=>fun x hx=>by cases hx
 |q::r,f,h1,h2,h3=>by
  intro x hx
  simp only [lft,List.mem_cons] at hx
  obtain ⟨h4,h5⟩:=List.pairwise_cons.1 h2
  rcases hx with rfl|hx
  ·exact ⟨by have:=h1 q (by simp);simp only;omega,h3 q (by simp)⟩
  ·exact lft_bd (fun a ha=>Int.le_of_lt (h4 a ha)) h5 (fun a ha=>h3 a (by simp [ha])) x hx
theorem rgt_bd:∀ {l:List Pt} {f:Int},(∀q∈l,f≤q.fl)→l.Pairwise (fun a b=>a.fl<b.fl)→(∀q∈l,Bd q.e)→BdL (rgt f l)
 |[],_,_,_,_=>fun x hx=>by cases hx
 |q::r,f,h1,h2,h3=>by
  intro x hx
  simp only [rgt,List.mem_cons] at hx
  obtain ⟨h4,h5⟩:=List.pairwise_cons.1 h2
  rcases hx with rfl|hx
  ·exact ⟨by have:=h1 q (by simp);simp only;omega,h3 q (by simp)⟩
  ·exact rgt_bd (fun a ha=>Int.le_of_lt (h4 a ha)) h5 (fun a ha=>h3 a (by simp [ha])) x hx
theorem goodL_app (a b:List Span):goodL (a++b)=(goodL a&&goodL b):=by simp [goodL]
theorem goodL_rev (a:List Span):goodL a.reverse=goodL a:=by simp [goodL]
theorem goodL_cons (s:Span)(a:List Span):goodL (s::a)=(decide (s.lo≤s.hi)&&goodL a):=rfl
theorem good_peak {st:Int}{A:List Pt}{p:Pt}{B:List Pt}:goodL (peakL st A p B)=true↔(topS st A p B).lo≤(topS st A p B).hi∧goodL (outS st (topS st A p B) (lft p.fl A))=true∧goodL (outS st (topS st A p B) (rgt p.fl B))=true:=by
 unfold peakL
 rw [goodL_app,goodL_rev,goodL_cons]
 simp only [Bool.and_eq_true,decide_eq_true_eq]
 constructor
 ·exact fun h=>⟨h.2.1,h.1,h.2.2⟩
 ·exact fun h=>⟨h.2.1,h.1,h.2.2⟩
theorem peak_ins {st:Int}(hst:0≤st){A:List Pt}{p:Pt}{B A' B':List Pt}(hp:Bd p.e)(hA:BdL (lft p.fl A))(hB:BdL (rgt p.fl B))
  (h1:lft p.fl A'=lft p.fl A∨Ins (lft p.fl A) (lft p.fl A')) (h2:rgt p.fl B'=rgt p.fl B∨Ins (rgt p.fl B) (rgt p.fl B')) (h:goodL (peakL st A p B)=true):goodL (peakL st A' p B')=true:=by
 rw [good_peak] at h ⊢
 have e1:upS st p.e (lft p.fl A')=upS st p.e (lft p.fl A):=by
  rcases h1 with h1|h1
  ·rw [h1]
  ·exact upS_ins hst h1 hp hA
 have e2:upS st p.e (rgt p.fl B')=upS st p.e (rgt p.fl B):=by
  rcases h2 with h2|h2
  ·rw [h2]
  ·exact upS_ins hst h2 hp hB
 have e3:topS st A' p B'=topS st A p B:=by unfold topS;rw [e1,e2]
 have hb:Bd (topS st A p B):=by
  obtain ⟨⟨b1,b2⟩,_,_⟩:=upS_bd (st:=st) hp (lft p.fl A)
  unfold topS both Bd
  constructor
  ·simp only;omega
  ·simp only;omega
 rw [e3]
 refine ⟨h.1,?_,?_⟩
 ·rcases h1 with h1|h1
  ·rw [h1];exact h.2.1
  ·exact out_ins hst h1 hb h.1 hA h.2.1
 ·rcases h2 with h2|h2
  ·rw [h2];exact h.2.2
  ·exact out_ins hst h2 hb h.1 hB h.2.2
theorem peakAt_split {st:Int}(A:List Pt)(p:Pt)(B:List Pt):peakAt st (A++p::B) A.length=peakL st A.reverse p B:=by
 unfold peakAt
 rw [List.take_left,List.getD_eq_getElem?_getD,List.getElem?_append_right (Nat.le_refl _),Nat.sub_self]
 have:(A++p::B).drop (A.length+1)=B:=by
  have h:A++p::B=(A++[p])++B:=by simp
  rw [h,show A.length+1=(A++[p]).length by simp,List.drop_left]
 rw [this];rfl
theorem peaks_ne {st:Int}{ps:List Pt}:peaksL st ps≠[]↔∃A p B,ps=A++p::B∧goodL (peakL st A.reverse p B)=true:=by
 unfold peaksL
 constructor
 ·intro h
  obtain ⟨l,hl⟩:=List.exists_mem_of_ne_nil _ h
  obtain ⟨h1,h2⟩:=List.mem_filter.1 hl
  obtain ⟨k,hk,rfl⟩:=List.mem_map.1 h1
  have hk:=List.mem_range.1 hk
  refine ⟨ps.take k,ps[k],ps.drop (k+1),?_,?_⟩
  ·rw [←List.drop_eq_getElem_cons hk,List.take_append_drop]
  ·have:peakAt st ps k=peakL st (ps.take k).reverse ps[k] (ps.drop (k+1)):=by
    unfold peakAt
    rw [List.getD_eq_getElem?_getD,List.getElem?_eq_getElem hk];rfl
   rw [←this];exact h2
 ·rintro ⟨A,p,B,rfl,h⟩ he
  have:peakAt st (A++p::B) A.length∈((List.range (A++p::B).length).map (peakAt st (A++p::B))).filter goodL:=
   List.mem_filter.2 ⟨List.mem_map.2 ⟨A.length,List.mem_range.2 (by simp),rfl⟩,by rw [peakAt_split];exact h⟩
  rw [he] at this;cases this
theorem insP_split (f:Int):∀(ps:List Pt),(∃U V,ps=U++V∧insP f ps=U++⟨f,free⟩::V∧(∀q∈U,q.fl<f)∧(∀q∈V.head?,f<q.fl))∨(insP f ps=ps∧∃q∈ps,q.fl=f)
 |[]=>.inl ⟨[],[],rfl,rfl,fun _ h=>(by cases h),fun _ h=>(by cases h)⟩
 |q::r=>by
  unfold insP
  by_cases h1:f<q.fl
  ·rw [if_pos h1]
   exact .inl ⟨[],q::r,rfl,rfl,fun _ h=>(by cases h),fun a h=>(by simp at h;subst h;exact h1)⟩
  ·rw [if_neg h1]
   by_cases h2:f=q.fl
   ·rw [if_pos h2]
    exact .inr ⟨rfl,q,by simp,h2.symm⟩
   ·rw [if_neg h2]
    rcases insP_split f r with ⟨U,V,h3,h4,h5,h6⟩|⟨h3,a,h4,h5⟩
    ·refine .inl ⟨q::U,V,by rw [h3];rfl,by rw [h4];rfl,fun a ha=>?_,h6⟩
     rcases List.mem_cons.1 ha with rfl|ha
     ·omega
     ·exact h5 a ha
    ·exact .inr ⟨by rw [h3],a,by simp [h4],h5⟩
theorem asc_ins {f:Int}{U V:List Pt}(h:Asc (U++V))(h1:∀q∈U,q.fl<f)(h2:∀q∈V.head?,f<q.fl):Asc (U++⟨f,free⟩::V):=by
 unfold Asc at h ⊢
 rw [List.pairwise_append] at h ⊢
 obtain ⟨a1,a2,a3⟩:=h
 have hV:∀q∈V,f<q.fl:=by
  cases V with
  |nil=>intro q hq;cases hq
  |cons v V=>
   have hv:=h2 v rfl
   intro q hq
   rcases List.mem_cons.1 hq with rfl|hq
   ·exact hv
   ·have:=(List.pairwise_cons.1 a2).1 q hq;omega
 refine ⟨a1,List.pairwise_cons.2 ⟨hV,a2⟩,fun a ha b hb=>?_⟩
 rcases List.mem_cons.1 hb with rfl|hb
 ·exact h1 a ha
 ·exact a3 a ha b hb
theorem can_ins {st f:Int}(hst:0≤st){ps:List Pt}(ha:Asc ps)(hb:∀q∈ps,Bd q.e)(h:canB st ps=true):peaksL st (insP f ps)≠[]:=by
 unfold canB at h
 rw [Bool.or_eq_true] at h
 rcases insP_split f ps with ⟨U,V,h3,h4,h5,h6⟩|⟨h3,a,h4,h5⟩
 case inr=>
  rw [h3]
  rcases h with h|h
  ·have:ps=[]:=by simpa using h
   rw [this] at h4;cases h4
  ·intro he;rw [he] at h;cases h
 rcases h with h|h
 ·have:ps=[]:=by simpa using h
  subst this
  have hU:U=[]:=by cases U with
   |nil=>rfl
   |cons _ _=>cases h3
  have hV:V=[]:=by subst hU;exact h3.symm
  subst hU hV
  rw [h4]
  exact (peaks_ne (st:=st) (ps:=[⟨f,free⟩])).2 ⟨[],⟨f,free⟩,[],rfl,rfl⟩
 have hne:peaksL st ps≠[]:=fun he=>by rw [he] at h;cases h
 obtain ⟨A,p,B,he,hg⟩:=peaks_ne.1 hne
 have hasc:=asc_ins (f:=f) (by rw [←h3];exact ha) h5 h6
 rw [h4]
 have hA:Asc (A++p::B):=he▸ha
 have hA1:=List.pairwise_append.1 hA
 have hp:Bd p.e:=hb p (by rw [he];simp)
 have hlA:BdL (lft p.fl A.reverse):=lft_bd (fun q hq=>Int.le_of_lt (hA1.2.2 q (by simpa using hq) p (by simp))) (by rw [List.pairwise_reverse];exact hA1.1) fun q hq=>hb q (by rw [he];simp at hq;simp [hq])
 have hrB:BdL (rgt p.fl B):=rgt_bd (fun q hq=>Int.le_of_lt ((List.pairwise_cons.1 hA1.2.1).1 q hq)) (List.pairwise_cons.1 hA1.2.1).2 fun q hq=>hb q (by rw [he];simp [hq])
 have hsplit:A++p::B=U++V:=by rw [←he,h3]
 rcases List.append_eq_append_iff.1 hsplit with ⟨W,h7,h8⟩|⟨W,h7,h8⟩
 ·-- U = A ++ W, p :: B = W ++ V
  cases W with
  |nil=>
   have hV:V=p::B:=h8.symm
   have hU:U=A:=by rw [h7];simp
   subst hU hV
   refine peaks_ne.2 ⟨U++[⟨f,free⟩],p,B,by simp,?_⟩
   refine peak_ins hst hp hlA hrB (.inr ?_) (.inl rfl) hg
   rw [List.reverse_append]
   have hpl:f<p.fl:=h6 p rfl
   have:=lft_ins (x:=⟨f,free⟩) rfl (U:=[]) (V:=U.reverse) (f:=p.fl) (fun q hq=>Int.le_of_lt (hA1.2.2 q (by simpa using hq) p (by simp))) ?_ (Int.le_of_lt hpl)
   ·simpa using this
   ·have h9:Asc (U++[⟨f,free⟩]):=by
     have:U++⟨f,free⟩::p::B=(U++[⟨f,free⟩])++p::B:=by simp
     rw [this] at hasc
     exact (List.pairwise_append.1 hasc).1
    have h10:(U++[Pt.mk f free]).reverse.Pairwise (fun a b:Pt=>b.fl<a.fl):=by rw [List.pairwise_reverse];exact h9
    simpa using h10
  |cons w W=>
   simp only [List.cons_append,List.cons.injEq] at h8
   obtain ⟨rfl,hB⟩:=h8
   subst h7
   refine peaks_ne.2 ⟨A,p,W++⟨f,free⟩::V,by simp,?_⟩
   refine peak_ins hst hp hlA hrB (.inl rfl) (.inr ?_) hg
   rw [hB]
   have h9:Asc (p::(W++⟨f,free⟩::V)):=by
    have:(A++p::W)++⟨f,free⟩::V=A++p::(W++⟨f,free⟩::V):=by simp
    rw [this] at hasc
    exact (List.pairwise_append.1 hasc).2.1
   have h10:=List.pairwise_cons.1 h9
   exact rgt_ins rfl (fun q hq=>Int.le_of_lt (by rw [←hB] at hq;exact (List.pairwise_cons.1 hA1.2.1).1 q hq)) h10.2 (Int.le_of_lt (h10.1 _ (by simp)))
 ·-- A = U ++ W, V = W ++ p :: B
  subst h7 h8
  refine peaks_ne.2 ⟨U++⟨f,free⟩::W,p,B,by simp,?_⟩
  refine peak_ins hst hp hlA hrB (.inr ?_) (.inl rfl) hg
  have h9:Asc ((U++⟨f,free⟩::W)++p::B):=by
   have:U++⟨f,free⟩::(W++p::B)=(U++⟨f,free⟩::W)++p::B:=by simp
   rw [←this];exact hasc
  have h11:=List.pairwise_append.1 h9
  have h10:(U++Pt.mk f free::W).reverse.Pairwise (fun a b:Pt=>b.fl<a.fl):=by rw [List.pairwise_reverse];exact h11.1
  have hlt:f<p.fl:=h11.2.2 ⟨f,free⟩ (by simp) p (by simp)
  have:=lft_ins (x:=⟨f,free⟩) rfl (U:=W.reverse) (V:=U.reverse) (f:=p.fl) (fun q hq=>Int.le_of_lt (hA1.2.2 q (by simp at hq;simp [hq.symm]) p (by simp))) (by simpa using h10) (Int.le_of_lt hlt)
  simpa using this
end Go.Li
namespace Go.Li
structure Whl where
 teeth:Int
 count:Int
structure Gr where
 turns:Int
 rounds:Int
 same:Bool
 pairs:Int
 room:Int
structure Pr where
 a:Int
 b:Int
 deriving DecidableEq
structure Tr where
 ps:List Pr
 idler:Int
def prodI (l:List Int):Int:=l.foldl (· * ·) 1
def drives (t:List Pr):Int:=prodI (t.map (·.a))
def driven (t:List Pr):Int:=prodI (t.map (·.b))
def excess (g:Gr)(t:Tr):Int:=drives t.ps*g.turns-driven t.ps*g.rounds
abbrev Lf:=List (Int × Int)
def chg (d t:Int)(m:Lf):Lf:=m.map fun p=>if p.1=t then (p.1,p.2+d) else p
def getL (t:Int)(m:Lf):Int:=match m.find? (fun p=>p.1==t) with
 |some p=>p.2
 |none=>0
def takeL (a b:Int)(m:Lf):Lf:=chg (-1) b (chg (-1) a m)
def takeOK (a b:Int)(m:Lf):Bool:=decide (getL a (chg (-1) a m)≥0)&&decide (getL b (takeL a b m)≥0)
def cmpI (a b:Int):Int:=if a<b then -1 else if a>b then 1 else 0
def cmpP (p q:Pr):Int:=if cmpI p.a q.a≠0 then cmpI p.a q.a else cmpI p.b q.b
def pairsL (kinds:List Int)(room:Int)(q:Pr):List Pr:=
 (kinds.flatMap fun a=>kinds.map fun b=>Pr.mk a b).filter fun p=>decide (cmpP p q≥0)&&decide (p.a+p.b≤room)
def idlL (kinds:List Int)(m:Lf)(l:List Pr)(idler:Bool):List Tr:=
 if idler then (kinds.filter fun t=>decide (getL t m>0)).map fun t=>⟨l,t⟩ else [⟨l,0⟩]
def onL (kinds:List Int)(room:Int)(idler:Bool):Nat→Lf→List Pr→Pr→List Tr
 |0,m,l,_=>idlL kinds m l idler
 |n+1,m,l,q=>(pairsL kinds room q).flatMap fun p=>if takeOK p.a p.b m then onL kinds room idler n (takeL p.a p.b m) (l++[p]) p else []
def trainsL (kinds:List Int)(g:Gr)(m:Lf)(w:Nat):List Tr:=
 if decide (((w / 2:Nat):Int)>g.pairs) || decide (w=1) || (decide ((w / 2+w%2)%2=0) != g.same) then [] else onL kinds g.room (decide (w%2=1)) (w / 2) m [] ⟨0,0⟩
def allL (kinds:List Int)(g:Gr)(m:Lf):List Tr:=(List.range (2*g.pairs+2).toNat).flatMap (trainsL kinds g m)
def chooseL (l:List Whl)(g:Gr):Option Tr:=(allL (l.map (·.teeth)) g (l.map fun w=>(w.teeth,w.count))).find? fun t=>excess g t==0
def wheelsOf (t:Tr):Int:=if t.idler≠0 then t.ps.length+1+t.ps.length else t.ps.length+t.ps.length
def stockT:Int→List Whl→Bool
 |_,[]=>true
 |last,w::r=>(decide (6≤w.teeth)&&decide (w.teeth≤100)&&decide (w.teeth>last)&&decide (0≤w.count)&&decide (w.count≤4))&&stockT w.teeth r
def stockB (l:List Whl):Bool:=decide (l.length≤8)&&stockT 0 l
def gearB (g:Gr):Bool:=decide (1≤g.turns)&&decide (g.turns≤1000)&&decide (1≤g.rounds)&&decide (g.rounds≤1000)&&decide (0≤g.pairs)&&decide (g.pairs≤3)&&decide (0≤g.room)&&decide (g.room≤200)
theorem stockT_teeth:∀ {l:List Whl} {k:Int},stockT k l=true→∀w∈l,6≤w.teeth∧w.teeth≤100∧0≤w.count∧w.count≤4
 |[],_,_,w,hw=>by cases hw
 |v::r,k,h,w,hw=>by
  simp only [stockT,Bool.and_eq_true,decide_eq_true_eq] at h
  rcases List.mem_cons.1 hw with rfl|hw
  ·omega
  ·exact stockT_teeth h.2 w hw
def TeethOK (t:List Pr):Prop:=∀p∈t,(6≤p.a∧p.a≤100)∧(6≤p.b∧p.b≤100)
theorem pairsL_mem {kinds:List Int}{room:Int}{q p:Pr}(h:p∈pairsL kinds room q):p.a∈kinds∧p.b∈kinds:=by
 unfold pairsL at h
 obtain ⟨h1,_⟩:=List.mem_filter.1 h
 obtain ⟨a,ha,h2⟩:=List.mem_flatMap.1 h1
 obtain ⟨b,hb,rfl⟩:=List.mem_map.1 h2
 exact ⟨ha,hb⟩
theorem onL_mem {kinds:List Int}{room:Int}{idler:Bool}(hk:∀k∈kinds,6≤k∧k≤100):∀ {n:Nat} {m:Lf} {l:List Pr} {q:Pr} {t:Tr},TeethOK l→t∈onL kinds room idler n m l q→TeethOK t.ps∧t.ps.length=l.length+n
 |0,m,l,q,t,hl,h=>by
  unfold onL idlL at h
  split at h
  ·obtain ⟨_,_,rfl⟩:=List.mem_map.1 h;exact ⟨hl,rfl⟩
  ·have:t=⟨l,0⟩:=by simpa using h
   subst this;exact ⟨hl,rfl⟩
 |n+1,m,l,q,t,hl,h=>by
  unfold onL at h
  obtain ⟨p,hp,h1⟩:=List.mem_flatMap.1 h
  obtain ⟨ha,hb⟩:=pairsL_mem hp
  split at h1
  ·have:=onL_mem hk (l:=l++[p]) (fun x hx=>by
    rcases List.mem_append.1 hx with hx|hx
    ·exact hl x hx
    ·have:x=p:=by simpa using hx
     subst this;exact ⟨hk _ ha,hk _ hb⟩) h1
   refine ⟨this.1,?_⟩
   rw [this.2];simp;omega
  ·cases h1
theorem allL_mem {kinds:List Int}{g:Gr}{m:Lf}(hk:∀k∈kinds,6≤k∧k≤100){t:Tr}(h:t∈allL kinds g m):TeethOK t.ps∧(t.ps.length:Int)≤g.pairs:=by
 unfold allL at h
 obtain ⟨w,_,h1⟩:=List.mem_flatMap.1 h
 unfold trainsL at h1
 split at h1
 ·cases h1
 ·rename_i hc
  have:=onL_mem hk (l:=[]) (fun x hx=>by cases hx) h1
  refine ⟨this.1,?_⟩
  rw [this.2]
  simp only [Bool.or_eq_true,decide_eq_true_eq,not_or] at hc
  simp only [List.length_nil]
  omega
theorem chooseL_ok {l:List Whl}{g:Gr}(hs:stockB l=true){t:Tr}(h:chooseL l g=some t):TeethOK t.ps∧(t.ps.length:Int)≤g.pairs∧excess g t=0:=by
 unfold chooseL at h
 have h1:=List.mem_of_find?_eq_some h
 have h2:=List.find?_some h
 unfold stockB at hs
 rw [Bool.and_eq_true] at hs
 have:=allL_mem (fun k hk=>by
  obtain ⟨w,hw,rfl⟩:=List.mem_map.1 hk
  have:=stockT_teeth hs.2 w hw
  omega) h1
 exact ⟨this.1,this.2,by simpa using h2⟩
theorem prod_step (a:Int)(l:List Int):∀(b:Int),l.foldl (· * ·) (b*a)=(l.foldl (· * ·) b)*a:=by
 induction l with
 |nil=>intro b;rfl
 |cons x l ih=>intro b;simp only [List.foldl_cons];rw [←ih,Int.mul_assoc,Int.mul_comm a x,←Int.mul_assoc]
theorem prodI_cons (a:Int)(l:List Int):prodI (a::l)=a*prodI l:=by
 unfold prodI
 rw [List.foldl_cons,prod_step,Int.mul_comm]
theorem prodI_bd:∀(l:List Int),(∀x∈l,6≤x∧x≤100)→1≤prodI l∧prodI l≤100^l.length
 |[],_=>by simp [prodI]
 |a::l,h=>by
  rw [prodI_cons]
  have h1:=prodI_bd l fun x hx=>h x (by simp [hx])
  have h2:=h a (by simp)
  rw [List.length_cons,Int.pow_succ]
  constructor
  ·have:=Int.mul_le_mul_of_nonneg_left h1.1 (show 0≤a by omega)
   omega
  ·rw [Int.mul_comm]
   exact Int.mul_le_mul h1.2 h2.2 (by omega) (by have:(0:Int)≤100^l.length:=Int.pow_nonneg (by omega);exact this)
theorem pow100_le {n:Nat}(h:n≤3):(100:Int)^n≤1000000:=by
 match n,h with
 |0,_=>decide
 |1,_=>decide
 |2,_=>decide
 |3,_=>decide
theorem drives_bd {l:List Pr}(h:TeethOK l)(hn:l.length≤3):1≤drives l∧drives l≤1000000:=by
 have:=prodI_bd (l.map (·.a)) fun x hx=>by
  obtain ⟨p,hp,rfl⟩:=List.mem_map.1 hx
  exact (h p hp).1
 have h2:=pow100_le hn
 rw [List.length_map] at this
 unfold drives
 omega
theorem driven_bd {l:List Pr}(h:TeethOK l)(hn:l.length≤3):1≤driven l∧driven l≤1000000:=by
 have:=prodI_bd (l.map (·.b)) fun x hx=>by
  obtain ⟨p,hp,rfl⟩:=List.mem_map.1 hx
  exact (h p hp).2
 have h2:=pow100_le hn
 rw [List.length_map] at this
 unfold driven
 omega
theorem turns_law {T R D V W:Int}(hT:1≤T)(hR:1≤R)(hD:1≤D)(hV:1≤V)(hW:0≤W)(he:D*T-V*R=0) :
  T*W / (1000*R)*D / V≤W / 1000∧W / 1000≤T*W / (1000*R)*D / V+(R+T-1) / T:=by
 generalize ht:T*W / (1000*R)=t
 generalize hr:t*D / V=r
 generalize hq:(R+T-1) / T=Q
 have hTW:0≤T*W:=Int.mul_nonneg (by omega) hW
 have a1:t*(1000*R)≤T*W:=by rw [←ht];exact Int.ediv_mul_le _ (by omega)
 have a2:T*W<(t+1)*(1000*R):=by rw [←ht];exact Int.lt_ediv_add_one_mul_self _ (by omega)
 have b1:r*V≤t*D:=by rw [←hr];exact Int.ediv_mul_le _ (by omega)
 have b2:t*D<(r+1)*V:=by rw [←hr];exact Int.lt_ediv_add_one_mul_self _ (by omega)
 have c2:R+T-1<(Q+1)*T:=by rw [←hq];exact Int.lt_ediv_add_one_mul_self _ (by omega)
 have hDT:D*T=V*R:=by omega
 -- r T ≤ t R
 have d1:r*T≤t*R:=by
  have h1:r*V*T≤t*D*T:=Int.mul_le_mul_of_nonneg_right b1 (by omega)
  have h2:t*D*T=t*R*V:=by rw [Int.mul_assoc,hDT,Int.mul_comm V R,Int.mul_assoc]
  have h3:r*V*T=r*T*V:=by rw [Int.mul_assoc,Int.mul_comm V T,Int.mul_assoc]
  rw [h2,h3] at h1
  exact Int.le_of_mul_le_mul_right h1 (by omega)
 have d2:t*R<(r+1)*T:=by
  have h1:t*D*T<(r+1)*V*T:=Int.mul_lt_mul_of_pos_right b2 (by omega)
  have h2:t*D*T=t*R*V:=by rw [Int.mul_assoc,hDT,Int.mul_comm V R,Int.mul_assoc]
  have h3:(r+1)*V*T=(r+1)*T*V:=by rw [Int.mul_assoc,Int.mul_comm V T,Int.mul_assoc]
  rw [h2,h3] at h1
  exact Int.lt_of_mul_lt_mul_right h1 (by omega)
 have e1:t*(1000*R)=1000*(t*R):=by rw [Int.mul_left_comm]
 have e2:(t+1)*(1000*R)=1000*(t*R)+1000*R:=by rw [Int.add_mul,e1,Int.one_mul]
 have e3:(Q+1)*T=Q*T+T:=by rw [Int.add_mul,Int.one_mul]
 constructor
 ·have h1:1000*r*T≤W*T:=by
   rw [Int.mul_assoc,Int.mul_comm W T];omega
  have h2:1000*r≤W:=Int.le_of_mul_le_mul_right h1 (by omega)
  omega
 ·have h1:W*T<(1000*(r+1+Q))*T:=by
   have h5:1000*(r+1+Q)*T=1000*((r+1)*T)+1000*(Q*T):=by
    rw [Int.mul_assoc,Int.add_mul];omega
   rw [h5,Int.mul_comm W T];omega
  have h2:W<1000*(r+1+Q):=Int.lt_of_mul_lt_mul_right h1 (by omega)
  omega
theorem ptsB_asc:∀ {l:List Pt} {k:Int},ptsB k l=true→Asc l∧(∀q∈l,k≤q.fl∧q.fl≤100000)∧∀q∈l,Bd q.e
 |[],_,_=>⟨List.Pairwise.nil,fun _ h=>(by cases h),fun _ h=>(by cases h)⟩
 |p::r,k,h=>by
  simp only [ptsB,Bool.and_eq_true,decide_eq_true_eq] at h
  obtain ⟨h1,h2,h3⟩:=ptsB_asc h.2
  refine ⟨List.pairwise_cons.2 ⟨fun a ha=>?_,h1⟩,fun q hq=>?_,fun q hq=>?_⟩
  ·have:=h2 a ha;omega
  ·rcases List.mem_cons.1 hq with rfl|hq
   ·omega
   ·have:=h2 q hq;omega
  ·rcases List.mem_cons.1 hq with rfl|hq
   ·exact ⟨by omega,by omega⟩
   ·exact h3 q hq
theorem outS_bd {st:Int}:∀ {L:List (Int × Span)} {s:Span},BdL L→∀t∈outS st s L,Bd t
 |[],_,_,t,h=>by cases h
 |(d,e)::r,s,hL,t,h=>by
  simp only [outS,List.mem_cons] at h
  rcases h with rfl|h
  ·have he:Bd e:=(hL (d,e) (by simp)).2
   obtain ⟨⟨b1,b2⟩,_,_⟩:=upS_bd (st:=st) he r
   simp only [both,Bd];omega
  ·exact outS_bd (fun x hx=>hL x (by simp [hx])) t h
theorem insP_facts {f:Int}{l:List Pt}(ha:Asc l)(hb:∀q∈l,Bd q.e):Asc (insP f l)∧(∀q∈insP f l,Bd q.e)∧(insP f l).any (fun p=>p.fl==f)=true:=by
 rcases insP_split f l with ⟨U,V,h3,h4,h5,h6⟩|⟨h3,a,h4,h5⟩
 ·rw [h4]
  refine ⟨asc_ins (by rw [←h3];exact ha) h5 h6,fun q hq=>?_,by simp⟩
  rcases List.mem_append.1 hq with hq|hq
  ·exact hb q (by rw [h3];simp [hq])
  ·rcases List.mem_cons.1 hq with rfl|hq
   ·show Bd free;exact ⟨by decide,by decide⟩
   ·exact hb q (by rw [h3];simp [hq])
 ·rw [h3]
  exact ⟨ha,hb,List.any_eq_true.2 ⟨a,h4,by simp [h5]⟩⟩
theorem peak_bd {st:Int}{l:List Pt}(ha:Asc l)(hb:∀q∈l,Bd q.e){x:List Span}(hx:x∈peaksL st l):(∀t∈x,Bd t)∧∀t∈x,t.lo≤t.hi:=by
 unfold peaksL at hx
 obtain ⟨h1,h2⟩:=List.mem_filter.1 hx
 obtain ⟨k,hk,rfl⟩:=List.mem_map.1 h1
 have hk:=List.mem_range.1 hk
 refine ⟨fun t ht=>?_,fun t ht=>of_decide_eq_true (List.all_eq_true.1 h2 t ht)⟩
 have he:l=l.take k++l[k]::l.drop (k+1):=by rw [←List.drop_eq_getElem_cons hk,List.take_append_drop]
 have hpk:peakAt st l k=peakL st (l.take k).reverse l[k] (l.drop (k+1)):=by
  unfold peakAt
  rw [List.getD_eq_getElem?_getD,List.getElem?_eq_getElem hk];rfl
 rw [hpk] at ht
 have hA:=he▸ha
 have hA1:=List.pairwise_append.1 hA
 have hm:∀q,q∈l.take k∨q=l[k]∨q∈l.drop (k+1)→Bd q.e:=fun q hq=>hb q (by
  rcases hq with hq|hq|hq
  ·exact List.mem_of_mem_take hq
  ·rw [hq];exact List.getElem_mem hk
  ·exact List.mem_of_mem_drop hq)
 have hlA:BdL (lft l[k].fl (l.take k).reverse):=lft_bd (fun q hq=>Int.le_of_lt (hA1.2.2 q (by simpa using hq) _ List.mem_cons_self)) (by rw [List.pairwise_reverse];exact hA1.1) fun q hq=>hm q (.inl (by simpa using hq))
 have hrB:BdL (rgt l[k].fl (l.drop (k+1))):=rgt_bd (fun q hq=>Int.le_of_lt ((List.pairwise_cons.1 hA1.2.1).1 q hq)) (List.pairwise_cons.1 hA1.2.1).2 fun q hq=>hm q (.inr (.inr hq))
 unfold peakL at ht
 rcases List.mem_append.1 ht with ht|ht
 ·exact outS_bd hlA t (by simpa using ht)
 ·rcases List.mem_cons.1 ht with rfl|ht
  ·obtain ⟨⟨b1,b2⟩,_,_⟩:=upS_bd (st:=st) (hm l[k] (.inr (.inl rfl))) (lft l[k].fl (l.take k).reverse)
   unfold topS both Bd
   simp only;omega
  ·exact outS_bd hrB t ht
theorem widL_ok:∀(l:List Span) (a:Span),Bd a→a.lo≤a.hi→(∀s∈l,Bd s∧s.lo≤s.hi)→Bd (widL a false l)∧(widL a false l).lo≤(widL a false l).hi
 |[],a,h1,h2,_=>⟨h1,h2⟩
 |s::r,a,h1,h2,h3=>by
  obtain ⟨⟨c1,c2⟩,c3⟩:=h3 s (by simp)
  obtain ⟨d1,d2⟩:=h1
  unfold widL widen
  exact widL_ok r _ ⟨by simp only [Bool.false_eq_true,if_false];omega,by simp only [Bool.false_eq_true,if_false];omega⟩ (by simp only [Bool.false_eq_true,if_false];omega) fun t ht=>h3 t (by simp [ht])
theorem mul_ord {n a b:Int}(hn:0≤n)(h:a≤b):n*(1000+a)≤n*(1000+b):=Int.mul_le_mul_of_nonneg_left (by omega) hn
theorem best_lo {n:Int}(hn:0≤n):∀(l:List Span) (a:Span),bestL (farB false) false (n*(1000+a.lo)) (l.map fun s=>n*(1000+s.lo))=n*(1000+(widL a false l).lo)
 |[],a=>rfl
 |s::r,a=>by
  simp only [List.map_cons,bestL,Bool.false_or,widL,widen,Bool.false_eq_true,if_false,farB]
  by_cases h:n*(1000+s.lo)<n*(1000+a.lo)
  ·rw [decide_eq_true h,if_pos rfl]
   have hlt:s.lo≤a.lo:=by
    by_cases hc:s.lo≤a.lo
    ·exact hc
    ·have:=mul_ord hn (a:=a.lo) (b:=s.lo) (by omega);omega
   have:=best_lo hn r ⟨min a.lo s.lo,max a.hi s.hi⟩
   simp only [Int.min_eq_right hlt] at this ⊢
   exact this
  ·rw [decide_eq_false h,if_neg (by decide)]
   have:=best_lo hn r ⟨min a.lo s.lo,max a.hi s.hi⟩
   by_cases hc:a.lo≤s.lo
   ·simp only [Int.min_eq_left hc] at this ⊢
    exact this
   ·have e:=mul_ord hn (a:=s.lo) (b:=a.lo) (by omega)
    have e2:n*(1000+a.lo)=n*(1000+min a.lo s.lo):=by rw [Int.min_eq_right (by omega)];omega
    rw [e2];exact this
theorem best_hi {n:Int}(hn:0≤n):∀(l:List Span) (a:Span),bestL (farB true) false (n*(1000+a.hi)) (l.map fun s=>n*(1000+s.hi))=n*(1000+(widL a false l).hi)
 |[],a=>rfl
 |s::r,a=>by
  simp only [List.map_cons,bestL,Bool.false_or,widL,widen,Bool.false_eq_true,if_false,farB,if_true,gt_iff_lt]
  by_cases h:n*(1000+a.hi)<n*(1000+s.hi)
  ·rw [decide_eq_true h,if_pos rfl]
   have hlt:a.hi≤s.hi:=by
    by_cases hc:a.hi≤s.hi
    ·exact hc
    ·have:=mul_ord hn (a:=s.hi) (b:=a.hi) (by omega);omega
   have:=best_hi hn r ⟨min a.lo s.lo,max a.hi s.hi⟩
   simp only [Int.max_eq_right hlt] at this ⊢
   exact this
  ·rw [decide_eq_false h,if_neg (by decide)]
   have:=best_hi hn r ⟨min a.lo s.lo,max a.hi s.hi⟩
   by_cases hc:s.hi≤a.hi
   ·simp only [Int.max_eq_left hc] at this ⊢
    exact this
   ·have e:=mul_ord hn (a:=a.hi) (b:=s.hi) (by omega)
    have e2:n*(1000+a.hi)=n*(1000+max a.hi s.hi):=by rw [Int.max_eq_right (by omega)];omega
    rw [e2];exact this
theorem downI_eq (n:Int)(h:0≤n):downI n=n / 1000:=by
 unfold downI
 rw [if_neg (by omega),Int.tdiv_eq_ediv_of_nonneg h]
theorem upI_ge (n:Int)(h:0≤n):n≤1000*upI n:=by
 unfold upI downI
 by_cases h0:-n<0
 ·rw [if_pos h0,Int.tdiv_eq_ediv_of_nonneg (by omega)]
  omega
 ·rw [if_neg h0]
  have:n=0:=by omega
  subst this;decide
theorem shown_law {c:Cv}{f n x:Int}(hc:curveB c=true)(hcan:canB c.steep c.ps=true)(hn:0≤n) :
  (atS c f).lo≤(atS c f).hi∧Bd (atS c f)∧((atS c f).lo≤x→x≤(atS c f).hi→(shownS c f n).lo≤n*(1000+x) / 1000∧n*(1000+x) / 1000≤(shownS c f n).hi):=by
 unfold curveB at hc
 simp only [Bool.and_eq_true,decide_eq_true_eq] at hc
 obtain ⟨⟨⟨⟨⟨h0,h1⟩,h2⟩,h3⟩,h4⟩,h5⟩:=hc
 obtain ⟨ha,hr,hb⟩:=ptsB_asc h5
 by_cases hf:f<c.start
 ·have e1:atS c f=⟨-1000,-1000⟩:=by unfold atS;rw [if_pos hf]
  rw [e1]
  refine ⟨Int.le_refl _,⟨by decide,by decide⟩,fun hx1 hx2=>?_⟩
  simp only at hx1 hx2
  have hx:x=-1000:=by omega
  subst hx
  have hch:chainOf c [f]=c.ps:=by unfold chainOf;simp [hf]
  have hany:∀l,spanAt f c.ps l=stillS:=fun l=>by
   unfold spanAt
   rw [if_neg]
   intro he
   obtain ⟨p,hp,he⟩:=List.any_eq_true.1 he
   have:=hr p hp
   have:p.fl=f:=by simpa using he
   omega
  have hz:∀side l,sumI side f n c.ps l=0:=fun side l=>by unfold sumI;rw [hany];cases side<;>simp [ofSide,stillS]
  have hbl:∀(far:Int→Int→Bool) (l:List (List Span)) (side:Bool) (first:Bool),bestL far first 0 (l.map (sumI side f n c.ps))=0:=fun far l side=>by
   induction l with
   |nil=>intro first;rfl
   |cons s r ih=>
    intro first
    simp only [List.map_cons,bestL,hz]
    split
    ·exact ih false
    ·exact ih first
  have hbi:∀side,bestI side c f n=0:=fun side=>by
   unfold bestI
   rw [hch]
   split
   ·rename_i he
    have:c.ps=[]:=by simpa using he
    have:=hz side []
    rw [‹c.ps=[]›] at this
    exact this
   ·exact hbl _ _ _ _
  unfold shownS
  rw [hbi,hbi]
  simp [roundI,downI,upI]
 ·have hch:chainOf c [f]=insP f c.ps:=by unfold chainOf;simp [hf]
  obtain ⟨ia,ib,ic⟩:=insP_facts (f:=f) ha hb
  have hne:=can_ins (f:=f) h2 ha hb hcan
  have hie:(insP f c.ps).isEmpty=false:=by
   cases h:insP f c.ps with
   |nil=>rw [h] at ic;cases ic
   |cons _ _=>rfl
  obtain ⟨l0,r0,hp⟩:∃l0 r0,peaksL c.steep (insP f c.ps)=l0::r0:=by
   cases h:peaksL c.steep (insP f c.ps) with
   |nil=>exact absurd h hne
   |cons a b=>exact ⟨a,b,rfl⟩
  have hsp:∀l,spanAt f (insP f c.ps) l=l.getD (ownI f (insP f c.ps)) ⟨0,0⟩:=fun l=>by unfold spanAt;rw [if_pos ic]
  have hg:∀l∈peaksL c.steep (insP f c.ps),Bd (l.getD (ownI f (insP f c.ps)) ⟨0,0⟩)∧(l.getD (ownI f (insP f c.ps)) ⟨0,0⟩).lo≤(l.getD (ownI f (insP f c.ps)) ⟨0,0⟩).hi:=fun l hl=>by
   obtain ⟨g1,g2⟩:=peak_bd ia ib hl
   rw [List.getD_eq_getElem?_getD]
   cases ho:l[ownI f (insP f c.ps)]? with
   |none=>exact ⟨⟨by decide,by decide⟩,by decide⟩
   |some t=>exact ⟨g1 t (List.mem_of_getElem? ho),g2 t (List.mem_of_getElem? ho)⟩
  have e1:atS c f=widL (l0.getD (ownI f (insP f c.ps)) ⟨0,0⟩) false (r0.map fun l=>l.getD (ownI f (insP f c.ps)) ⟨0,0⟩):=by
   unfold atS
   rw [if_neg hf,hch,hp]
   rfl
  obtain ⟨w1,w2⟩:=widL_ok (r0.map fun l=>l.getD (ownI f (insP f c.ps)) ⟨0,0⟩) (l0.getD (ownI f (insP f c.ps)) ⟨0,0⟩) (hg l0 (by rw [hp];simp)).1 (hg l0 (by rw [hp];simp)).2 fun s hs=>by
   obtain ⟨l,hl,rfl⟩:=List.mem_map.1 hs
   exact hg l (by rw [hp];simp [hl])
  rw [←e1] at w1 w2
  refine ⟨w2,w1,fun hx1 hx2=>?_⟩
  have b1:bestI false c f n=n*(1000+(atS c f).lo):=by
   unfold bestI
   rw [hch,hie,hp,e1]
   simp only [Bool.false_eq_true,if_false,List.map_cons,bestL,Bool.true_or,if_true]
   rw [←best_lo hn,List.map_map]
   congr 1
   ·unfold sumI;rw [hsp];rfl
   ·refine List.map_congr_left fun l _=>?_
    unfold sumI;rw [hsp];rfl
  have b2:bestI true c f n=n*(1000+(atS c f).hi):=by
   unfold bestI
   rw [hch,hie,hp,e1]
   simp only [Bool.false_eq_true,if_false,List.map_cons,bestL,Bool.true_or,if_true]
   rw [←best_hi hn,List.map_map]
   congr 1
   ·unfold sumI;rw [hsp];rfl
   ·refine List.map_congr_left fun l _=>?_
    unfold sumI;rw [hsp];rfl
  have m1:=mul_ord hn hx1
  have m2:=mul_ord hn hx2
  have hlo:0≤n*(1000+(atS c f).lo):=Int.mul_nonneg hn (by have:=w1.1;omega)
  unfold shownS
  rw [b1,b2]
  simp only [roundI,Bool.false_eq_true,if_false,if_true]
  rw [downI_eq _ hlo]
  have hu:=upI_ge (n*(1000+(atS c f).hi)) (by omega)
  constructor
  ·omega
  ·omega
end Go.Li

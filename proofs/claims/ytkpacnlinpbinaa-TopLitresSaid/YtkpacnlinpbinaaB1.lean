/- Which names of objects say of what type their cells are: none. -/
import Derived.Test.YtkpacnlinpbinaaD1
import Derived.WalkKit
import Derived.OrdersIn
import Derived.TacticsIn
import Derived.RangeFuncSeq
import Derived.RangeFuncLeaves
import Derived.Lib.LaidTab
import Derived.Lib.ItoaNum
import Derived.Great.BuildSlice
set_option linter.unusedSimpArgs false
set_option linter.unusedVariables false
set_option linter.unusedSectionVars false
set_option linter.deprecated false
namespace Go.Mw
def tagTy:Nat→Option Nat:=fun _=>none
theorem tagTy_lo {k:Nat}(_:k<950):tagTy k=none:=rfl
end Go.Mw
namespace Go.Mw
open Go.RowKit
inductive D where
 |raw (v:Value)
 |sl (k:Nat) (es:List (List D))
 |nsl (k:Nat) (es:List (List D))
 |pt (ds:List D)
 |fn (f:FuncId) (ds:List D)
 |ifc (t:TypeId) (ag:Bool) (ds:List D)
abbrev Settled:=Nat→Nat→Prop
inductive RepD (S:Settled) (w:World):D→Value→Prop
 |raw (v:Value) (h:v.oneCell'=true):RepD S w (.raw v) v
 |nil (k:Nat) (a:Option Addr) (c:Nat):RepD S w (.sl k []) (.slice a 0 c)
 |sl (k:Nat) (es:List (List D)) (b off c:Nat) (vals:Nat→Nat→Value)
   (hc:es.length≤c)
   (hk:∀(i:Nat) (e:List D),es[i]? = some e→e.length=k)
   (hS:∀(i:Nat) (e:List D) (j:Nat) (d:D),es[i]? = some e→e[j]? = some d→S b (off+i*k+j))
   (hw:∀(i:Nat) (e:List D) (j:Nat) (d:D),es[i]? = some e→e[j]? = some d→w.cell? ⟨b,off+i*k+j,none⟩=some (vals i j))
   (hr:∀(i:Nat) (e:List D) (j:Nat) (d:D),es[i]? = some e→e[j]? = some d→RepD S w d (vals i j)) :
   RepD S w (.sl k es) (.slice (some ⟨b,off,none⟩) es.length c)
 |nnil (k:Nat) (a:Option Addr):RepD S w (.nsl k []) (.slice a 0 0)
 |nsl (k:Nat) (es:List (List D)) (b off:Nat) (vals:Nat→Nat→Value)
   (hk:∀(i:Nat) (e:List D),es[i]? = some e→e.length=k)
   (hS:∀(i:Nat) (e:List D) (j:Nat) (d:D),es[i]? = some e→e[j]? = some d→S b (off+i*k+j))
   (hw:∀(i:Nat) (e:List D) (j:Nat) (d:D),es[i]? = some e→e[j]? = some d→w.cell? ⟨b,off+i*k+j,none⟩=some (vals i j))
   (hr:∀(i:Nat) (e:List D) (j:Nat) (d:D),es[i]? = some e→e[j]? = some d→RepD S w d (vals i j)) :
   RepD S w (.nsl k es) (.slice (some ⟨b,off,none⟩) es.length es.length)
 |pt (ds:List D) (b off:Nat) (vals:Nat→Value)
   (hS:∀(j:Nat) (d:D),ds[j]? = some d→S b (off+j))
   (hw:∀(j:Nat) (d:D),ds[j]? = some d→w.cell? ⟨b,off+j,none⟩=some (vals j))
   (hr:∀(j:Nat) (d:D),ds[j]? = some d→RepD S w d (vals j)) :
   RepD S w (.pt ds) (.pointer (some ⟨b,off,none⟩))
 |fn (f:FuncId) (ds:List D) (vals:List Value) (hl:vals.length=ds.length)
   (hr:∀(j:Nat) (d:D) (v:Value),ds[j]? = some d→vals[j]? = some v→RepD S w d v) :
   RepD S w (.fn f ds) (.func (.func f) #[] vals.toArray)
 |ifc (t:TypeId) (d:D) (v:Value) (hr:RepD S w d v):RepD S w (.ifc t false [d]) (.iface t v)
 |ifa (t:TypeId) (ds:List D) (vals:List Value) (hl:vals.length=ds.length)
   (hr:∀(j:Nat) (d:D) (v:Value),ds[j]? = some d→vals[j]? = some v→RepD S w d v) :
   RepD S w (.ifc t true ds) (.iface t (.agg vals.toArray))
theorem RepD.one {S:Settled}{w:World}{d:D}{v:Value}(h:RepD S w d v):v.oneCell'=true:=by
 cases h<;>first|rfl|assumption
theorem RepD.mono {S S':Settled}{w w':World}(hS:∀b o,S b o→S' b o)(hw:∀b o,S b o→w'.cell? ⟨b,o,none⟩=w.cell? ⟨b,o,none⟩)
  {d:D} {v:Value} (h:RepD S w d v):RepD S' w' d v:=by
 induction h with
 |raw v h=>exact .raw v h
 |nil k a c=>exact .nil k a c
 |sl k es b off c vals hc hk hs hv _ ih=>
  exact .sl k es b off c vals hc hk (fun i e j d h1 h2=>hS _ _ (hs i e j d h1 h2))
   (fun i e j d h1 h2=>(hw _ _ (hs i e j d h1 h2)).trans (hv i e j d h1 h2)) ih
 |nnil k a=>exact .nnil k a
 |nsl k es b off vals hk hs hv _ ih=>
  exact .nsl k es b off vals hk (fun i e j d h1 h2=>hS _ _ (hs i e j d h1 h2))
   (fun i e j d h1 h2=>(hw _ _ (hs i e j d h1 h2)).trans (hv i e j d h1 h2)) ih
 |pt ds b off vals hs hv _ ih=>
  exact .pt ds b off vals (fun j d h1=>hS _ _ (hs j d h1)) (fun j d h1=>(hw _ _ (hs j d h1)).trans (hv j d h1)) ih
 |fn f ds vals hl _ ih=>exact .fn f ds vals hl ih
 |ifc t d v _ ih=>exact .ifc t d v ih
 |ifa t ds vals hl _ ih=>exact .ifa t ds vals hl ih
def All2 {α β:Type}(R:α→β→Prop):List α→List β→Prop
 |[],[]=>True
 |a::l,b::m=>R a b∧All2 R l m
 |_,_=>False
section all2
variable {α β:Type} {R R':α→β→Prop}
theorem All2.mono (h:∀a b,R a b→R' a b):∀ {l:List α} {m:List β},All2 R l m→All2 R' l m
 |[],[],_=>trivial
 |_::_,_::_,hh=>⟨h _ _ hh.1,All2.mono h hh.2⟩
 |[],_::_,hh=>hh.elim
 |_::_,[],hh=>hh.elim
theorem All2.length:∀ {l:List α} {m:List β},All2 R l m→l.length=m.length
 |[],[],_=>rfl
 |_::_,_::_,hh=>by simp [All2.length hh.2]
 |[],_::_,hh=>hh.elim
 |_::_,[],hh=>hh.elim
theorem All2.get:∀ {l:List α} {m:List β},All2 R l m→∀ {i:Nat} {a:α} {b:β},l[i]? = some a→m[i]? = some b→R a b
 |[],[],_,i,a,b,h,_=>by simp at h
 |x::l,y::m,hh,0,a,b,h,h'=>by simp at h h';subst h h';exact hh.1
 |x::l,y::m,hh,i+1,a,b,h,h'=>All2.get hh.2 (i:=i) (by simpa using h) (by simpa using h')
 |[],_::_,hh,_,_,_,_,_=>hh.elim
 |_::_,[],hh,_,_,_,_,_=>hh.elim
theorem All2.ofGet:∀ {l:List α} {m:List β},l.length=m.length→(∀(i:Nat) (a:α) (b:β),l[i]? = some a→m[i]? = some b→R a b)→All2 R l m
 |[],[],_,_=>trivial
 |x::l,y::m,hl,h=>⟨h 0 x y rfl rfl,All2.ofGet V211 fun i a b h1 h2=>h (i+1) a b (by simpa using h1) (by simpa using h2)⟩
 |[],_::_,hl,_=>by simp at hl
 |_::_,[],hl,_=>by simp at hl
theorem All2.get' {l:List α}{m:List β}(h:All2 R l m){i:Nat}{a:α}(ha:l[i]? = some a):∃b,m[i]? = some b∧R a b:=by
 have hi:i<l.length:=(List.getElem?_eq_some_iff.1 ha).1
 have hm:i<m.length:=by rw [←h.length];exact hi
 exact ⟨m[i],List.getElem?_eq_getElem hm,h.get ha (List.getElem?_eq_getElem hm)⟩
theorem All2.get2 {l:List α}{m:List β}(h:All2 R l m){i:Nat}{b:β}(hb:m[i]? = some b):∃a,l[i]? = some a∧R a b:=by
 have hi:i<m.length:=(List.getElem?_eq_some_iff.1 hb).1
 have hm:i<l.length:=by rw [h.length];exact hi
 exact ⟨l[i],List.getElem?_eq_getElem hm,h.get (List.getElem?_eq_getElem hm) hb⟩
theorem All2.append {l l':List α}{m m':List β}(h:All2 R l m)(h':All2 R l' m'):All2 R (l++l') (m++m'):=by
 induction l generalizing m with
 |nil=>cases m with
  |nil=>exact h'
  |cons _ _=>exact h.elim
 |cons a l ih=>cases m with
  |nil=>exact h.elim
  |cons b m=>exact ⟨h.1,ih h.2⟩
theorem All2.take {l:List α}{m:List β}(h:All2 R l m)(n:Nat):All2 R (l.take n) (m.take n):=by
 induction l generalizing m n with
 |nil=>cases m with
  |nil=>simp [All2]
  |cons _ _=>exact h.elim
 |cons a l ih=>cases m with
  |nil=>exact h.elim
  |cons b m=>cases n with
   |zero=>simp [All2]
   |succ n=>simpa using ⟨h.1,ih h.2 n⟩
theorem All2.drop {l:List α}{m:List β}(h:All2 R l m)(n:Nat):All2 R (l.drop n) (m.drop n):=by
 induction l generalizing m n with
 |nil=>cases m with
  |nil=>simp [All2]
  |cons _ _=>exact h.elim
 |cons a l ih=>cases m with
  |nil=>exact h.elim
  |cons b m=>cases n with
   |zero=>simpa using h
   |succ n=>simpa using ih h.2 n
end all2
theorem all2_map {α β γ:Type}{R:α→β→Prop}{R':γ→β→Prop}(f:α→γ)(h:∀a b,R a b→R' (f a) b):∀ {l:List α} {m:List β},All2 R l m→All2 R' (l.map f) m
 |[],[],_=>trivial
 |_::_,_::_,hh=>⟨h _ _ hh.1,all2_map f h hh.2⟩
 |[],_::_,hh=>hh.elim
 |_::_,[],hh=>hh.elim
inductive FL where
 |d (x:D)
 |own (o off len tot:Nat)
 |obj (o:Nat)
 |dead
inductive AL where
 |d (x:D)
 |ptr (o off:Nat)
 |eptr (o i j tot:Nat)
 |own (o off len tot:Nat)
 |obj (o:Nat)
 |fpt (fs:List FL)
 |csl (o off len:Nat)
 |dead
inductive AV where
 |val (ag:Bool) (ls:List AL)
 |tup (vs:List (Bool × List AL))
 |cnd (b:Bool) (v:AV)
 |dead
abbrev AV.leaf (l:AL):AV:=.val false [l]
abbrev AV.raw (v:Value):AV:=.val false [.d (.raw v)]
abbrev AV.int (n:Int):AV:=.val false [.d (.raw (.int .i64 n))]
abbrev AV.bool (b:Bool):AV:=.val false [.d (.raw (.bool b))]
inductive AO where
 |cells (ls:List AL)
 |arr (e:TypeId) (k:Nat) (es:List (List D))
 |clo (f:FuncId) (ls:List AL)
 |yl
 |map (es:List (Value × Bool × List AL))
 |mth (f:FuncId) (ls:List AL)
 |pin (v:Value) (l:AL)
 |iter (ls:List AL) (n:Nat) (seen:List Nat) (c:Nat)
 |sit (s:ByteArray) (p:Nat)
 |byt (b c:Nat) (l:List UInt8)
inductive Beh where
 |ret (res:AV) (obs:List (Nat × AO))
 |yld (args:List AV) (k:Bool→Beh)
def Beh.bind:Beh→(AV→List (Nat × AO)→Beh)→Beh
 |.ret res obs,κ=>κ res obs
 |.yld args k,κ=>.yld args fun r=>(k r).bind κ
def look {α:Type}:List (Nat × α)→Nat→Option α
 |[],_=>none
 |(k,v)::r,s=>if s=k then some v else look r s
structure ASt where
 tm:List (Nat × AV)
 ob:List (Nat × AO)
 bh:Beh
inductive Loc where
 |slot (s:Nat)
 |obj (o:Nat)
 deriving DecidableEq
inductive Wr where
 |slot (s:Nat) (v:AV)
 |obj (o:Nat) (x:AO)
def ASt.get (A:ASt)(s:Nat):AV:=(look A.tm s).getD .dead
def ASt.obj (A:ASt)(o:Nat):Option AO:=look A.ob o
def ASt.put1 (A:ASt):Wr→ASt
 |.slot s v=>{ A with tm:=(s,v)::A.tm }
 |.obj o x=>{ A with ob:=(o,x)::A.ob }
def ASt.put (A:ASt):List Wr→ASt
 |[]=>A
 |x::r=>(A.put1 x).put r
section rep
variable (S:Settled) (ι:Nat→Value) (H:Nat→Option AO) (w:World)
def OwnVal (τ:Value)(k tot off len:Nat)(v:Value):Prop:=
 (off=0→len=tot→v=τ)∧∃p c,v=.slice p len c∧len≤c∧(off<tot→∃b c0,τ=.slice (some ⟨b,0,none⟩) tot c0∧p=some ⟨b,off*k,none⟩∧tot≤c0∧c=c0-off)
def AO.whole:AO→Bool
 |.clo _ _=>true
 |.yl=>true
 |.map _=>true
 |.mth _ _=>true
 |.pin _ _=>true
 |.iter _ _ _ _=>true
 |.sit _ _=>true
 |.byt _ _ _=>true
 |_=>false
def RepF:FL→Value→Prop
 |.d x,v=>RepD S w x v
 |.own o off len tot,v=>v.oneCell'=true∧∃e k es,H o=some (.arr e k es)∧tot≤es.length∧(es.length=tot→off+len≤tot∧OwnVal (ι o) k tot off len v)
 |.obj o,v=>v.oneCell'=true∧v=ι o∧∃x,H o=some x∧x.whole=true
 |.dead,v=>v.oneCell'=true
def RepL:AL→Value→Prop
 |.d x,v=>RepD S w x v
 |.ptr o off,v=>∃ls b,H o=some (.cells ls)∧ι o=.pointer (some ⟨b,0,none⟩)∧v=.pointer (some ⟨b,off,none⟩)
 |.eptr o i j tot,v=>v.oneCell'=true∧∃e k es,H o=some (.arr e k es)∧tot≤es.length∧(es.length=tot→i<tot∧j≤k ∧
   ∃b c,ι o=.slice (some ⟨b,0,none⟩) tot c∧v=.pointer (some ⟨b,i*k+j,none⟩))
 |.own o off len tot,v=>v.oneCell'=true∧∃e k es,H o=some (.arr e k es)∧tot≤es.length∧(es.length=tot→off+len≤tot∧OwnVal (ι o) k tot off len v)
 |.obj o,v=>v.oneCell'=true∧v=ι o∧∃x,H o=some x∧x.whole=true
 |.fpt fs,v=>∃b off,v=.pointer (some ⟨b,off,none⟩)∧∀j f,fs[j]? = some f→S b (off+j)∧∃u,w.cell? ⟨b,off+j,none⟩=some u∧RepF S ι H w f u
 |.csl o off len,v=>∃ls b c,H o=some (.cells ls)∧ι o=.pointer (some ⟨b,0,none⟩)∧v=.slice (some ⟨b,off,none⟩) len c∧len=c
 |.dead,v=>v.oneCell'=true
def FL.al:FL→AL
 |.d x=>.d x
 |.own o off len tot=>.own o off len tot
 |.obj o=>.obj o
 |.dead=>.dead
theorem repF_al {f:FL}{v:Value}:RepF S ι H w f v↔RepL S ι H w f.al v:=by cases f<;>exact Iff.rfl
theorem RepF.one {f:FL}{v:Value}(h:RepF S ι H w f v):v.oneCell'=true:=by
 cases f with
 |d x=>exact RepD.one h
 |own o off len tot=>exact h.1
 |obj o=>exact h.1
 |dead=>exact h
theorem RepL.one {l:AL}{v:Value}(h:RepL S ι H w l v):v.oneCell'=true:=by
 cases l with
 |d x=>exact RepD.one h
 |ptr o off=>obtain ⟨_,_,_,_,rfl⟩:=h;rfl
 |eptr o i j tot=>exact h.1
 |own o off len tot=>exact h.1
 |obj o=>exact h.1
 |fpt fs=>obtain ⟨_,_,rfl,_⟩:=h;rfl
 |csl o off len=>obtain ⟨_,_,_,_,_,rfl,_⟩:=h;rfl
 |dead=>exact h
def RepC (ag:Bool)(ls:List AL)(v:Value):Prop:=
 match ag with
 |true=>∃vs:List Value,v=.agg vs.toArray∧All2 (RepL S ι H w) ls vs
 |false=>∃l,ls=[l]∧RepL S ι H w l v
def RepV:AV→Value→Prop
 |.val ag ls,v=>RepC S ι H w ag ls v
 |.tup cs,v=>∃vs:List Value,v=.tuple vs.toArray∧All2 (fun c u=>RepC S ι H w c.1 c.2 u) cs vs
 |.cnd b x,v=>(b=true→RepV x v)∧(b=false→v=undef)
 |.dead,_=>True
theorem RepC.cells {ag:Bool}{ls:List AL}{v:Value}(h:RepC S ι H w ag ls v):All2 (RepL S ι H w) ls v.cells.toList:=by
 cases ag with
 |true=>obtain ⟨vs,rfl,h⟩:=h;simpa [Value.cells] using h
 |false=>
  obtain ⟨l,rfl,h⟩:=h
  have:=RepL.one S ι H w h
  cases v<;>simp [Value.oneCell'] at this<;>simpa [Value.cells,All2] using h
theorem OwnVal.tip {w:World}{B:Nat}{e:TypeId}{k n:Nat}{τ:Value}{xs:List Value}(h:w.ownsRow B e k τ n xs):OwnVal τ k n 0 n τ:=by
 refine ⟨fun _ _=>rfl,?_⟩
 rcases h.2 with ⟨rfl,rfl⟩|⟨g,cap,cur,rfl,_,_,hc,_⟩
 ·exact ⟨none,0,rfl,Nat.le_refl _,fun h=>by omega⟩
 ·exact ⟨_,cap,rfl,hc,fun _=>⟨g,cap,rfl,by simp,hc,rfl⟩⟩
def blk:Value→Option Nat
 |.pointer (some a)=>some a.block
 |.slice (some a) _ _=>some a.block
 |.map (some b)=>some b
 |_=>none
def Born (qs:List MapEntry)(ck:Nat):Prop:=qs.map (·.born)=List.range qs.length∧ck=qs.length
def RepE (p:Value × Bool × List AL)(q:MapEntry):Prop:=q.key=p.1∧RepC S ι H w p.2.1 p.2.2 q.val
def tagged (o:Nat)(el:TypeId):Prop:=∀t,tagTy (o%1000)=some t→el=t
def ObjOK (o:Nat):AO→Prop
 |.cells ls=>∃(b:Nat) (vs:List Value) (el:TypeId),ι o=.pointer (some ⟨b,0,none⟩)∧w.heap[b]? = some (.cells vs.toArray el (0,0)) ∧
   All2 (RepL S ι H w) ls vs∧(∀off,¬S b off)∧tagged o el
 |.arr e k es=>∃xs,w.ownsRow 0 e k (ι o) es.length xs∧All2 (RepD S w) es.flatten xs∧(∀x∈es,x.length=k)∧0<k ∧
   ∀b,blk (ι o)=some b→∀off,¬S b off
 |.clo f ls=>∃vs:List Value,ι o=.func (.func f) #[] vs.toArray∧All2 (RepL S ι H w) ls vs
 |.yl=>∃l,ι o=.func (.yield l) #[] #[]
 |.map es=>∃(b:Nat) (qs:List MapEntry) (ck:Nat),ι o=.map (some b)∧w.heap[b]? = some (.map qs.toArray ck)∧All2 (RepE S ι H w) es qs∧Born qs ck∧∀off,¬S b off
 |.mth f ls=>∃vs:List Value,ι o=.func (.func f) vs.toArray #[]∧All2 (RepL S ι H w) ls vs
 |.pin v l=>ι o=undef∧RepL S ι H w l v
 |.iter ls n seen c=>∃(b:Nat) (m:Option Nat),ι o=.pointer (some ⟨b,0,none⟩)∧w.heap[b]? = some (.mapIter m n seen.toArray c)∧All2 (RepL S ι H w) ls [.map m]∧∀off,¬S b off
 |.sit s p=>∃b:Nat,ι o=.pointer (some ⟨b,0,none⟩)∧w.heap[b]? = some (.stringIter s p)∧∀off,¬S b off
 |.byt b c l=>ι o=.pointer (some ⟨b,0,none⟩)∧(∃(vs:Array Value) (el:TypeId) (fz:Nat × Nat),w.heap[b]? = some (.cells vs el fz)∧vs.size=c∧c≤fz.1∧l.length≤c∧∀(i:Nat) (x:UInt8),l[i]? = some x→vs[i]? = some (.int .u8 x.toNat))∧∀off,¬S b off
end rep
abbrev Blocks:=Nat→Prop
structure Fr (S:Settled) (M:Blocks) (w w':World):Prop where
 os:w'.os=w.os
 tape:w'.tape=w.tape
 output:w'.output=w.output
 size:w.heap.size≤w'.heap.size
 block:∀b,b<w.heap.size→¬M b→w'.heap[b]? = w.heap[b]?
 cell:∀b o,S b o→w'.cell? ⟨b,o,none⟩=w.cell? ⟨b,o,none⟩
structure Keep (S:Settled) (M:Blocks) (w w':World):Prop where
 os:w'.os=w.os
 tape:w'.tape=w.tape
 output:w'.output=w.output
 size:w.heap.size≤w'.heap.size
 block:∀b,M b→w'.heap[b]? = w.heap[b]?
 cell:∀b o,S b o→w'.cell? ⟨b,o,none⟩=w.cell? ⟨b,o,none⟩
def noObj:Nat→Option AO:=fun _=>none
def noVal:Nat→Value:=fun _=>undef
def libTabs:List (String × IntKind × List Int):=[("internal/strconv.uint64pow10",.u64,Lib.pow10Tab)]
structure GOk (P:Program) (S:Settled) (w:World):Prop where
 tab:∀nm k zs,(nm,k,zs)∈libTabs→∀g,P.globalNamed nm=some g→(∀i,S g i)∧Lib.TabIs P w nm k zs
 max:∀g,P.globalNamed "internal/bytealg.MaxLen" = some g→S g 0∧∃m,w.cell? ⟨g,0,none⟩=some (.int .i64 m)
theorem GOk.step {P:Program}{S S':Settled}{w w':World}(h:GOk P S w)(hS:∀b o,S b o→S' b o)(hc:∀b o,S b o→w'.cell? ⟨b,o,none⟩=w.cell? ⟨b,o,none⟩):GOk P S' w' where
 tab:=fun nm k zs hm g hg=>by
  obtain ⟨h1,h2⟩:=h.tab nm k zs hm g hg
  refine ⟨fun i=>hS _ _ (h1 i),?_⟩
  unfold Lib.TabIs World.var? at h2 ⊢
  simp only [hg,Option.bind_some] at h2 ⊢
  have h0:zs≠[]:=by
   simp only [libTabs,List.mem_cons,List.not_mem_nil,or_false,Prod.mk.injEq] at hm
   rw [hm.2.2];decide
  have hcell:=fun i=>hc g i (h1 i)
  cases hb:w.heap[g]? with
  |none=>simp [hb] at h2
  |some x=>
   cases x<;>simp only [hb,Option.some.injEq,reduceCtorEq] at h2
   subst h2
   have h3:∀i,w'.cell? ⟨g,i,none⟩=(zs.map fun z=>Value.int k z)[i]? :=fun i=>by
    rw [hcell i];simp [World.cell?,hb]
   cases hb':w'.heap[g]? with
   |none=>have:=h3 0;cases zs<;>simp_all [World.cell?]
   |some y=>
    cases y with
    |cells cs t r=>
     simp only
     congr 1
     apply Array.ext_getElem?
     intro i
     have:=h3 i
     simpa [World.cell?,hb'] using this
    |_=>have:=h3 0;cases zs<;>simp_all [World.cell?]
 max:=fun g hg=>by
  obtain ⟨h1,m,h2⟩:=h.max g hg
  exact ⟨hS _ _ h1,m,(hc _ _ h1).trans h2⟩
structure Env (P:Program) where
 l:Nat
 J:Beh→Settled→Blocks→World→Prop
 glob:∀ {b:Beh} {S:Settled} {M:Blocks} {w:World},J b S M w→GOk P S w
 step:∀ {b:Beh} {S:Settled} {M:Blocks} {w:World} {S':Settled} {M':Blocks} {w':World},J b S M w→Fr S M w w' → (∀k,M k→M' k) →
  (∀k,M' k→M k∨(w.heap.size≤k∧k<w'.heap.size))→(∀k o,S k o→S' k o)→(∀k o,S' k o→S k o∨M' k)→J b S' M' w'
 yld:∀ {args:List AV} {k:Bool→Beh} {S:Settled} {M:Blocks} {w:World} {vs:List Value},J (.yld args k) S M w→All2 (RepV S noVal noObj w) args vs →
  YieldAt Fence.wide 0 P l vs.toArray w fun e w'=>∃r,e=.returned (.bool r)∧Keep S M w w' ∧ J (k r) S M w'
structure Ctx (P:Program) where
 E:Env P
 S0:Settled
 N:Nat
 fix:Nat→Option Value
 rd:Option (Nat × Loop)
 pin:Nat→Option (Value × Nat)
 lim:N≤950:=by omega
def Ctx.can {P:Program}(C:Ctx P)(d:Nat):Prop:=d<C.N∧C.fix d=none∧C.pin d=none
theorem tagged_can {P:Program}{C:Ctx P}{d:Nat}(h:C.can d)(el:TypeId):tagged d el:=fun t ht=>by
 have h1:=h.1
 have h2:=C.lim
 rw [tagTy_lo (k:=d%1000) (by omega)] at ht;cases ht
def AO.pinned (x:AO)(u v:Value)(n:Nat):Prop:=match x with
 |.arr _ _ es=>n≤es.length∧(es.length=n→v=u)
 |_=>v=u
def mark (r:Nat):Deferred:={ target:=.collected r,args:=#[] }
structure RelC {P:Program} (C:Ctx P) (S:Settled) (M:Blocks) (ι:Nat→Value) (A:ASt) (a:Act) (w:World):Prop where
 sub:∀b o,C.S0 b o→S b o
 new:∀b o,S b o→C.S0 b o∨M b
 inn:∀b o,S b o→b<w.heap.size
 minn:∀b,M b→b<w.heap.size
 sz:a.tmps.size=C.N
 tms:∀s,RepV S ι A.obj w (A.get s) (a.tmps.getD s undef)
 objs:∀o x,A.obj o=some x→ObjOK S ι A.obj w o x
 dis:∀o o' x x' b,A.obj o=some x→A.obj o'=some x' → o≠o' → blk (ι o)=some b→blk (ι o')≠some b
 own:∀o x b,A.obj o=some x→blk (ι o)=some b→M b
 env:C.E.J A.bh S M w
 tok:∀o,A.obj o=some .yl→ι o=.func (.yield C.E.l) #[] #[]
 fixed:∀s v,C.fix s=some v→a.tmps.getD s undef=v
 marks:∃rs:List Nat,a.defers=rs.map mark∧rs.Nodup∧∀r∈rs,M r∧w.heap[r]? = some (.deferred (some []))
 rdok:∀l r,C.rd=some (l,r)→M l∧w.heap[l]? = some (.loop r)
 pinned:∀q u n x,C.pin q=some (u,n)→A.obj q=some x→x.pinned u (ι q) n
 pinN:∀q,C.pin q≠none→C.N≤q∧q<1000
def Rel {P:Program}(C:Ctx P)(A:ASt)(a:Act)(w:World):Prop:=∃S M ι,RelC C S M ι A a w
end Go.Mw
namespace Go.Mw
section ty
variable (P:Program) (t:TypeId)
def tySize:Option Nat:=(P.info? t).map (·.size)
def tyBytes:Option Nat:=(P.info? t).map (·.bytes)
def tyZero:Option Value:=(P.info? t).bind (·.zero)
def tyAg:Option Bool:=match P.underlying t with
 |some (.struct _)=>some true
 |some (.array _ _)=>some true
 |some _=>some false
 |none=>none
def tyEl:Option TypeId:=match P.underlying t with
 |some (.slice e)=>some e
 |_=>none
def tyInt:Option IntKind:=match P.underlying t with
 |some (.int k)=>some k
 |_=>none
def tyStr:Bool:=match P.underlying t with
 |some .string=>true
 |_=>false
def tyFld (f:Nat):Option (Nat × Nat):=match P.underlying t with
 |some (.struct fs)=>match fs[f]? with
  |some fd=>match tySize P fd.type with
   |some n=>some (fd.offset,n)
   |none=>none
  |none=>none
 |_=>none
def tyArr:Option (Nat × Nat):=match P.underlying t with
 |some (.array n e)=>match tySize P e with
  |some k=>some (n,k)
  |none=>none
 |_=>none
def tyArrA:Option (Nat × Nat × Bool):=match P.underlying t with
 |some (.array n e)=>match tySize P e with
  |some k=>match tyAg P e with
   |some ag=>some (n,k,ag)
   |none=>none
  |none=>none
 |_=>none
def tyPlaces:Option (List (Nat × Nat)):=match P.underlying t with
 |some (.struct fs)=>fs.toList.mapM fun f=>(P.info? f.type).map fun i=>(f.offset,i.size)
 |some (.array n e)=>match tySize P e with
  |some k=>some ((List.range n).map fun i=>(i*k,k))
  |none=>none
 |_=>none
def tyInts:Option Nat:=match P.underlying t with
 |some (.struct fs)=>if (fs.toList.zipIdx.all fun (f,i)=>f.name != "_" && f.offset==i&&(tyInt P f.type).isSome&&tySize P f.type==some 1) && !P.stoodInHeld t && !P.eqGuardType P.depth t then some fs.size else none
 |_=>none
end ty
inductive Ev where
 |done (ws:List Wr)
 |fail
 |slot (s:Nat) (k:AV→Ev)
 |obj (o:Nat) (k:Option AO→Ev)
@[go_sem] def Ev.run:Ev→ASt→List Loc→Option (List Loc × List Wr)
 |.done ws,_,acc=>some (acc,ws)
 |.fail,_,_=>none
 |.slot s k,A,acc=>(k (A.get s)).run A (.slot s::acc)
 |.obj o k,A,acc=>(k (A.obj o)).run A (.obj o::acc)
def pures:List AL→Option (List D)
 |[]=>some []
 |.d x::r=>match pures r with
  |some ds=>some (x::ds)
  |none=>none
 |.ptr _ _::_=>none
 |.eptr _ _ _ _::_=>none
 |.own _ _ _ _::_=>none
 |.obj _::_=>none
 |.fpt _::_=>none
 |.csl _ _ _::_=>none
 |.dead::_=>none
def ofConst:Value→AV
 |.agg cs=>if cs.toList.all (·.oneCell') then .val true (cs.toList.map fun v=>.d (.raw v)) else .dead
 |.tuple _=>.dead
 |.bool b=>.raw (.bool b)
 |.int k n=>.raw (.int k n)
 |.string s=>.raw (.string s)
 |.slice a n m=>.raw (.slice a n m)
 |.pointer a=>.raw (.pointer a)
 |.nilFunc=>.raw .nilFunc
 |.nilIface=>.raw .nilIface
 |.map r=>.raw (.map r)
 |.func f a b=>.raw (.func f a b)
 |.float k b=>.raw (.float k b)
 |.complex k a b=>.raw (.complex k a b)
 |.chan r=>.raw (.chan r)
 |.iface t v=>.raw (.iface t v)
def opd:Operand→(AV→Ev)→Ev
 |.tmp t,k=>.slot t k
 |.const v,k=>k (ofConst v)
 |.func f,k=>k (.leaf (.d (.fn f [])))
 |.global _,_=>.fail
def opds:List Operand→(List AV→Ev)→Ev
 |[],k=>k []
 |x::r,k=>opd x fun v=>opds r fun vs=>k (v::vs)
def asInt:AV→Option (IntKind × Int)
 |.val false [.d (.raw (.int k n))]=>some (k,n)
 |_=>none
def asBool:AV→Option Bool
 |.val false [.d (.raw (.bool b))]=>some b
 |_=>none
def evPut (d:Nat)(v:AV):Ev:=.done [.slot d v]
def AV.strip (b:Bool):AV→AV
 |.cnd h v=>if h=b then v else .cnd h v
 |.val ag ls=>.val ag ls
 |.tup cs=>.tup cs
 |.dead=>.dead
def pickV (d:Nat)(t:Bool):AV→AV→Ev
 |.val false [.d (.raw (.bool x))],.val false [.d (.raw (.bool y))]=>.done [.slot d (.bool (bif t then x else y))]
 |a,b=>.done [.slot d (bif t then a else b)]
def evPick (d:Nat)(c a b:AV):Ev:=match asBool c with
 |none=>.fail
 |some t=>pickV d t (a.strip t) (b.strip (!t))
def binInt (op:BinOp)(k:IntKind)(a b:Int):Option Value:=match op with
 |.add=>some (.int k (k.wrap (a+b)))
 |.sub=>some (.int k (k.wrap (a-b)))
 |.mul=>some (.int k (k.wrap (a*b)))
 |.quo=>if b=0 then none else some (.int k (k.wrap (a.tdiv b)))
 |.rem=>if b=0 then none else some (.int k (a.tmod b))
 |.eql=>some (.bool (a==b))
 |.neq=>some (.bool (a != b))
 |.lss=>some (.bool (decide (a<b)))
 |.leq=>some (.bool (decide (a≤b)))
 |.gtr=>some (.bool (decide (a>b)))
 |.geq=>some (.bool (decide (a≥b)))
 |.shr=>if b<0 then none else some (.int k (a.fdiv (2^(min b.toNat k.bits))))
 |.shl=>if b<0 then none else some (.int k (k.wrap (a*2^(min b.toNat k.bits))))
 |.and=>some (.int k (k.wrap (BitVec.ofInt k.bits a &&& BitVec.ofInt k.bits b).toNat))
 |.or=>some (.int k (k.wrap (BitVec.ofInt k.bits a ||| BitVec.ofInt k.bits b).toNat))
 |.xor=>some (.int k (k.wrap (BitVec.ofInt k.bits a ^^^ BitVec.ofInt k.bits b).toNat))
 |.andNot=>some (.int k (k.wrap (BitVec.ofInt k.bits a &&& ~~~(BitVec.ofInt k.bits b)).toNat))
def eqInts:List AL→List AL→Option Bool
 |[],[]=>some true
 |.d (.raw (.int k a))::r,.d (.raw (.int k' b))::s=>if k=k' then match eqInts r s with
   |some t=>some (a==b&&t)
   |none=>none
  else none
 |_,_=>none
def tyBool (P:Program)(t:TypeId):Bool:=match P.underlying t with
 |some .bool=>true
 |_=>false
def tyPtr (P:Program)(t:TypeId):Bool:=match P.underlying t with
 |some (.pointer _)=>true
 |_=>false
def nilOp (op:BinOp)(d:Nat)(b:Bool):Ev:=match op with
 |.eql=>.done [.slot d (.bool b)]
 |.neq=>.done [.slot d (.bool (!b))]
 |_=>.fail
def isNil (op:BinOp)(d:Nat):AV→Ev
 |.val false [.d (.raw (.pointer none))]=>nilOp op d true
 |.val false [.d (.pt _)]=>nilOp op d false
 |.val false [.ptr _ _]=>nilOp op d false
 |.val false [.fpt _]=>nilOp op d false
 |.val false [.eptr o _ _ tot]=>.obj o fun
  |some (.arr _ _ es)=>if es.length=tot then nilOp op d false else .fail
  |_=>.fail
 |_=>.fail
def nilEv (p:Bool)(op:BinOp)(d:Nat)(x:AV):AV→Ev
 |.val false [.d (.raw (.pointer none))]=>if p=true then isNil op d x else .fail
 |_=>.fail
def isSh:BinOp→Bool
 |.shl=>true
 |.shr=>true
 |_=>false
def strBin (op:BinOp)(d:Nat)(a b:ByteArray):Ev:=match op with
 |.add=>if a.size+b.size≤9223372036854775807 then .done [.slot d (.raw (.string (a++b)))] else .fail
 |.eql=>.done [.slot d (.bool (a.toList==b.toList))]
 |.neq=>.done [.slot d (.bool (!(a.toList==b.toList)))]
 |_=>.fail
def binEv (P:Program)(op:BinOp)(t:TypeId)(d:Nat):AV→AV→Ev
 |.val false [.d (.raw (.string a))],.val false [.d (.raw (.string b))]=>strBin op d a b
 |.val false [.d (.raw (.int k a))],.val false [.d (.raw (.int k' b))]=>
  if k=k' then match binInt op k a b with
   |some v=>.done [.slot d (.raw v)]
   |none=>.fail
  else if isSh op=true then match binInt op k a b with
   |some v=>.done [.slot d (.raw v)]
   |none=>.fail
  else .fail
 |.val false [.d (.raw (.bool a))],.val false [.d (.raw (.bool b))]=>
  if tyBool P t=true then match op with
   |.eql=>.done [.slot d (.bool (a==b))]
   |.neq=>.done [.slot d (.bool (!(a==b)))]
   |_=>.fail
  else .fail
 |.val true ls,.val true ms=>match tyInts P t with
  |none=>.fail
  |some n=>match eqInts ls ms with
   |none=>.fail
   |some b=>if ls.length=n then match op with
    |.eql=>.done [.slot d (.bool b)]
    |.neq=>.done [.slot d (.bool (!b))]
    |_=>.fail
   else .fail
 |x,y=>nilEv (tyPtr P t) op d x y
def seeSl (kk:Nat)(f:List (List D)→Ev):AV→Ev
 |.val false [.d (.sl k es)]=>if k=kk then f es else .fail
 |.val false [.d (.raw (.slice none 0 0))]=>f []
 |.val false [.own o off len tot]=>.obj o fun
  |some (.arr _ k es)=>if k=kk∧es.length=tot then f ((es.drop off).take len) else .fail
  |_=>.fail
 |_=>.fail
def splice {α:Type}(ls:List α)(off:Nat)(xs:List α):List α:=ls.take off++xs++ls.drop (off+xs.length)
def fillFlds (pl:List (Nat × Nat)):List (Nat × AV)→List AL→Option (List AL)
 |[],ls=>some ls
 |(i,.val _ xs)::r,ls=>match pl[i]? with
  |some (off,n)=>if xs.length=n∧off+n≤ls.length then fillFlds pl r (splice ls off xs) else none
  |none=>none
 |(_,.tup _)::_,_=>none
 |(_,.cnd _ _)::_,_=>none
 |(_,.dead)::_,_=>none
def partEls (k:Nat):Nat→List (Nat × AV)→Option (List (List D))
 |_,[]=>some []
 |n,(i,.val _ xs)::r=>if i=n∧xs.length=k then match pures xs with
   |some ds=>match partEls k (n+1) r with
    |some es=>some (ds::es)
    |none=>none
   |none=>none
  else none
 |_,(_,.tup _)::_=>none
 |_,(_,.cnd _ _)::_=>none
 |_,(_,.dead)::_=>none
def bnd:Option AV→Int→Option Int
 |none,d=>some d
 |some v,_=>match asInt v with
  |some (_,n)=>some n
  |none=>none
def opdO:Option Operand→(Option AV→Ev)→Ev
 |none,k=>k none
 |some x,k=>opd x fun v=>k (some v)
def zeroLs (P:Program)(t:TypeId):Option (Bool × List D):=match tyZero P t with
 |some (.agg cs)=>if cs.toList.all (·.oneCell') then some (true,cs.toList.map .raw) else none
 |some v=>if v.oneCell' then some (false,[.raw v]) else none
 |none=>none
def evAlloc (P:Program)(t:TypeId)(d:Nat):Ev:=.obj d fun
 |none=>match zeroLs P t with
  |some (_,ls)=>.done [.slot d (.leaf (.ptr d 0)),.obj d (.cells (ls.map .d))]
  |none=>.fail
 |some _=>.fail
def evBox (d:Nat):AV→Ev
 |.val _ ls=>.obj d fun
  |none=>.done [.slot d (.leaf (.ptr d 0)),.obj d (.cells ls)]
  |some _=>.fail
 |.tup _=>.fail
 |.cnd _ _=>.fail
 |.dead=>.fail
def evBuild (P:Program)(t:TypeId)(d:Nat)(parts:List (Nat × AV)):Ev:=match zeroLs P t with
 |some (true,ls)=>match tyPlaces P t with
  |some pl=>match fillFlds pl parts (ls.map .d) with
   |some ms=>.done [.slot d (.val true ms)]
   |none=>.fail
  |none=>.fail
 |some (false,_)=>.fail
 |none=>.fail
def partLs (k:Nat):Nat→List (Nat × AV)→Option (List AL)
 |_,[]=>some []
 |n,(i,.val _ xs)::r=>if i=n∧xs.length=k then match partLs k (n+1) r with
   |some es=>some (xs++es)
   |none=>none
  else none
 |_,(_,.tup _)::_=>none
 |_,(_,.cnd _ _)::_=>none
 |_,(_,.dead)::_=>none
def evBuildSlice (P:Program)(t:TypeId)(n d:Nat)(parts:List (Nat × AV)):Ev:=.obj d fun
 |some _=>.fail
 |none=>match tyEl P t with
  |none=>.fail
  |some e=>match tySize P e with
   |none=>.fail
   |some k=>match partEls k 0 parts with
    |none=>match partLs k 0 parts with
     |none=>.fail
     |some ls=>if parts.length=n∧(0<k∧0<n)∧n*k≤16777216∧(zeroLs P e).isSome then .done [.slot d (.leaf (.csl d 0 n)),.obj d (.cells ls)] else .fail
    |some es=>if es.length=n∧0<k∧n*k≤16777216∧(zeroLs P e).isSome then .done [.slot d (.leaf (.own d 0 n n)),.obj d (.arr e k es)] else .fail
def loadV (n:Nat)(ag:Bool)(d:Nat):AV→Ev
 |.val false [.d (.pt ds)]=>if ds.length=n then .done [.slot d (.val ag (ds.map .d))] else .fail
 |.val false [.ptr o off]=>.obj o fun
  |some (.cells ls)=>if off+n≤ls.length then .done [.slot d (.val ag ((ls.drop off).take n))] else .fail
  |_=>.fail
 |.val false [.eptr o i j tot]=>.obj o fun
  |some (.arr _ k es)=>match es[i]? with
   |some e=>if es.length=tot∧j+n≤k∧e.length=k then .done [.slot d (.val ag (((e.drop j).take n).map .d))] else .fail
   |none=>.fail
  |_=>.fail
 |.val false [.fpt fs]=>if n≤fs.length then .done [.slot d (.val ag ((fs.take n).map FL.al))] else .fail
 |_=>.fail
def evLoad (P:Program)(t:TypeId)(d:Nat)(a:AV):Ev:=match tySize P t with
 |none=>.fail
 |some n=>match tyAg P t with
  |none=>.fail
  |some ag=>if ag=true∨n=1 then loadV n ag d a else .fail
def storeV (n:Nat)(xs:List AL):AV→Ev
 |.val false [.ptr o off]=>.obj o fun
  |some (.cells ls)=>if off+n≤ls.length then .done [.obj o (.cells (splice ls off xs))] else .fail
  |_=>.fail
 |.val false [.eptr o i j tot]=>.obj o fun
  |some (.arr e k es)=>match pures xs with
   |none=>.fail
   |some ds=>match es[i]? with
    |some y=>if es.length=tot∧j+n≤k∧y.length=k then .done [.obj o (.arr e k (es.set i (splice y j ds)))] else .fail
    |none=>.fail
  |_=>.fail
 |_=>.fail
def evStore (P:Program)(t:TypeId)(a:AV):AV→Ev
 |.val _ xs=>match tySize P t with
  |none=>.fail
  |some n=>if xs.length=n then storeV n xs a else .fail
 |.tup _=>.fail
 |.cnd _ _=>.fail
 |.dead=>.fail
def fieldV (off n:Nat)(d:Nat):AV→Ev
 |.val false [.d (.pt ds)]=>if off+n≤ds.length then .done [.slot d (.leaf (.d (.pt ((ds.drop off).take n))))] else .fail
 |.val false [.ptr o off0]=>.done [.slot d (.leaf (.ptr o (off0+off)))]
 |.val false [.eptr o i j tot]=>.obj o fun
  |some (.arr _ k es)=>if es.length=tot∧j+off≤k then .done [.slot d (.leaf (.eptr o i (j+off) tot))] else .fail
  |_=>.fail
 |.val false [.fpt fs]=>.done [.slot d (.leaf (.fpt (fs.drop off)))]
 |_=>.fail
def evFieldAddr (P:Program)(t:TypeId)(d:Nat)(a:AV)(f:Nat):Ev:=match tyFld P t f with
 |some (off,n)=>if n=0 then .fail else fieldV off n d a
 |none=>.fail
def idxSl (k' d:Nat)(i:Int):AV→Ev
 |.val false [.d (.sl k es)]=>match es[i.toNat]? with
  |some x=>if 0≤i∧k=k' ∧ 0<k then .done [.slot d (.leaf (.d (.pt x)))] else .fail
  |none=>.fail
 |.val false [.own o off len tot]=>.obj o fun
  |some (.arr _ k es)=>if 0≤i∧i<len∧k=k' ∧ es.length=tot then .done [.slot d (.leaf (.eptr o (off+i.toNat) 0 tot))] else .fail
  |_=>.fail
 |.val false [.csl o off len]=>if 0≤i∧i<len then .done [.slot d (.leaf (.ptr o (off+i.toNat*k')))] else .fail
 |_=>.fail
def idxArr (n k d:Nat)(i:Int):AV→Ev
 |.val false [.ptr o off]=>if 0≤i∧i<n∧0<k then .done [.slot d (.leaf (.ptr o (off+i.toNat*k)))] else .fail
 |.val false [.d (.pt ds)]=>if (0≤i∧i<n∧0<k)∧i.toNat*k+k≤ds.length then .done [.slot d (.leaf (.d (.pt ((ds.drop (i.toNat*k)).take k))))] else .fail
 |_=>.fail
def evIndexAddr (P:Program)(t:TypeId)(d:Nat)(a ix:AV):Ev:=match asInt ix with
 |none=>.fail
 |some (_,i)=>match tyEl P t with
  |some e=>match tySize P e with
   |some k'=>idxSl k' d i a
   |none=>.fail
  |none=>match tyArr P t with
   |some (n,k)=>idxArr n k d i a
   |none=>.fail
def sliceV (kk d:Nat)(lo hi:Option AV):AV→Ev
 |.val false [.d (.sl k es)]=>match bnd lo 0 with
  |none=>.fail
  |some l=>match bnd hi es.length with
   |none=>.fail
   |some h=>if 0≤l∧l≤h∧h≤es.length∧k=kk∧0<k then .done [.slot d (.leaf (.d (.sl k ((es.take h.toNat).drop l.toNat))))] else .fail
 |.val false [.d (.raw (.slice none 0 0))]=>match bnd lo 0 with
  |none=>.fail
  |some l=>match bnd hi 0 with
   |none=>.fail
   |some h=>if l=0∧h=0 then .done [.slot d (.raw (.slice none 0 0))] else .fail
 |.val false [.own o off len tot]=>.obj o fun
  |some (.arr _ k es)=>match bnd lo 0 with
   |none=>.fail
   |some l=>match bnd hi len with
    |none=>.fail
    |some h=>if 0≤l∧l≤h∧(off:Int)+h≤tot∧es.length=tot∧k=kk then .done [.slot d (.leaf (.own o (off+l.toNat) (h.toNat-l.toNat) tot))] else .fail
  |_=>.fail
 |_=>.fail
def slicePt (n d:Nat)(lo hi:Option AV):AV→Ev
 |.val false [.d (.pt ds)]=>match bnd lo 0 with
  |none=>.fail
  |some l=>match bnd hi n with
   |none=>.fail
   |some h=>if l=0∧0≤h∧h≤n∧ds.length=n then .done [.slot d (.leaf (.d (.sl 1 ((ds.take h.toNat).map fun x=>[x]))))] else .fail
 |.val false [.ptr o off]=>match lo with
  |some _=>.fail
  |none=>match hi with
   |some _=>.fail
   |none=>.done [.slot d (.leaf (.csl o off n))]
 |_=>.fail
def evSliceA (a:Option (Nat × Nat × Bool))(d:Nat)(x:AV)(lo hi:Option AV):Ev:=match a with
 |some (n,k,_)=>if k=1 then slicePt n d lo hi x else .fail
 |none=>.fail
def sliceS (d:Nat)(lo hi:Option AV):AV→Ev
 |.val false [.d (.raw (.string s))]=>match bnd lo 0 with
  |none=>.fail
  |some l=>match bnd hi s.size with
   |none=>.fail
   |some h=>if 0≤l∧l≤h∧h≤s.size then .done [.slot d (.raw (.string (s.extract l.toNat h.toNat)))] else .fail
 |_=>.fail
def evSlice (P:Program)(t:TypeId)(d:Nat)(x:AV)(lo hi:Option AV):Ev:=match tyEl P t with
 |none=>bif tyStr P t then sliceS d lo hi x else evSliceA (tyArrA P t) d x lo hi
 |some e=>match tySize P e with
  |some kk=>sliceV kk d lo hi x
  |none=>.fail
def idxOf (arr:Option (Nat × Nat × Bool))(str:Bool)(d:Nat)(i:Int):AV→Ev
 |.val true ls=>match arr with
  |some (n,k,ag)=>if (0≤i∧i<n)∧(ag=true∨k=1)∧i.toNat*k+k≤ls.length then .done [.slot d (.val ag ((ls.drop (i.toNat*k)).take k))] else .fail
  |none=>.fail
 |.val false [.d (.raw (.string s))]=>match s[i.toNat]? with
  |some b=>if 0≤i∧str=true then .done [.slot d (.raw (.int .u8 b.toNat))] else .fail
  |none=>.fail
 |_=>.fail
def evIdx (P:Program)(t:TypeId)(d:Nat)(a ix:AV):Ev:=match asInt ix with
 |none=>.fail
 |some (_,i)=>idxOf (tyArrA P t) (tyStr P t) d i a
def lenV (d:Nat):AV→Ev
 |.val false [.d (.sl _ es)]=>.done [.slot d (.int es.length)]
 |.val false [.d (.raw (.slice none 0 0))]=>.done [.slot d (.int 0)]
 |.val false [.own o _ len tot]=>.obj o fun
  |some (.arr _ _ es)=>if es.length=tot then .done [.slot d (.int len)] else .fail
  |_=>.fail
 |.val false [.csl _ _ len]=>.done [.slot d (.int len)]
 |_=>.fail
def lenS (d:Nat):AV→Ev
 |.val false [.d (.raw (.string s))]=>.done [.slot d (.int s.size)]
 |_=>.fail
def evLen (P:Program)(t:TypeId)(d:Nat)(x:AV):Ev:=match tyEl P t with
 |some _=>lenV d x
 |none=>if tyStr P t=true then lenS d x else .fail
def appV (e:TypeId)(k bytes d:Nat)(x:AV):AV→Ev
 |.val false [.own o off len tot]=>.obj o fun
  |some (.arr e' k' es)=>if e'=e∧k'=k∧off=0∧len=tot∧es.length=tot then
    seeSl k (fun xs=>if (es.length+xs.length)*bytes≤140737488355328∧es.length+xs.length≤140737488355328∧(∀y∈xs,y.length=k) then
     .done [.slot d (.leaf (.own o 0 (es++xs).length (es++xs).length)),.obj o (.arr e k (es++xs))] else .fail) x
   else if e'=e∧k'=k∧es.length=tot then
    seeSl k (fun xs=>if off+len+xs.length<tot∧(∀y∈xs,y.length=k) then
     .done [.slot d (.leaf (.own o off (len+xs.length) tot)),.obj o (.arr e k (splice es (off+len) xs))] else .fail) x
   else .fail
  |_=>.fail
 |.val false [.d (.raw (.slice none 0 0))]=>.obj d fun
  |none=>seeSl k (fun xs=>if xs.length*bytes≤140737488355328∧xs.length≤140737488355328∧(∀y∈xs,y.length=k) then
     .done [.slot d (.leaf (.own d 0 xs.length xs.length)),.obj d (.arr e k xs)] else .fail) x
  |some _=>.fail
 |_=>.fail
def evAppend (P:Program)(t t':TypeId)(d:Nat)(s x:AV):Ev:=match tyEl P t with
 |none=>.fail
 |some e=>match tySize P e with
  |none=>.fail
  |some k=>match tyBytes P e with
   |none=>.fail
   |some bytes=>match zeroLs P e with
    |none=>.fail
    |some (_,z)=>if t'=t∧0<k∧z.length=k then appV e k bytes d x s else .fail
def makeV (e:TypeId)(k bytes d:Nat)(z:List D)(n m:Int):Ev:=.obj d fun
 |some _=>.fail
 |none=>if 0≤n∧n=m∧(bytes:Int)*n≤281474976710656∧n≤9223372036854775807∧0<k∧z.length=k then
   .done [.slot d (.leaf (.own d 0 n.toNat n.toNat)),.obj d (.arr e k (List.replicate n.toNat z))] else .fail
def evMake (P:Program)(t:TypeId)(d:Nat)(l c:AV):Ev:=match asInt l with
 |none=>.fail
 |some (_,n)=>match asInt c with
  |none=>.fail
  |some (_,m)=>match tyEl P t with
   |none=>.fail
   |some e=>match tySize P e with
    |none=>.fail
    |some k=>match tyBytes P e with
     |none=>.fail
     |some bytes=>match zeroLs P e with
      |some (_,z)=>makeV e k bytes d z n m
      |none=>.fail
def evConvert (P:Program)(t t':TypeId)(d:Nat):AV→Ev
 |.val false [.d (.raw (.int _ n))]=>match tyInt P t with
  |none=>.fail
  |some _=>match tyInt P t' with
   |some k=>.done [.slot d (.raw (.int k (k.wrap n)))]
   |none=>.fail
 |_=>.fail
def pick2 (lt:Bool)(n m:Int):Int:=bif lt then (if m<n then m else n) else (if n<m then m else n)
def min2 (lt:Bool)(d:Nat):List AV→Ev
 |[v,u]=>match asInt v with
  |none=>.fail
  |some (j,n)=>match asInt u with
   |none=>.fail
   |some (_,m)=>.done [.slot d (.raw (.int j (pick2 lt n m)))]
 |[v,u,x]=>match asInt v with
  |none=>.fail
  |some (j,n)=>match asInt u with
   |none=>.fail
   |some (_,m)=>match asInt x with
    |none=>.fail
    |some (_,q)=>.done [.slot d (.raw (.int j (pick2 lt (pick2 lt n m) q)))]
 |_=>.fail
def evUn (op:UnOp)(d:Nat):AV→Ev
 |.val false [.d (.raw (.bool b))]=>match op with
  |.not=>.done [.slot d (.bool (!b))]
  |_=>.fail
 |.val false [.d (.raw (.int k n))]=>match op with
  |.neg=>.done [.slot d (.raw (.int k (k.wrap (0-n))))]
  |_=>.fail
 |_=>.fail
def evIfc (P:Program)(t:TypeId)(d:Nat):AV→Ev
 |.val ag ls=>match pures ls with
  |some ds=>if P.concrete t=true then .done [.slot d (.leaf (.d (.ifc t ag ds)))] else .fail
  |none=>.fail
 |.tup _=>.fail
 |.cnd _ _=>.fail
 |.dead=>.fail
def leafs:List AV→Option (List D)
 |[]=>some []
 |.val false [.d x]::r=>match leafs r with
  |some ds=>some (x::ds)
  |none=>none
 |_=>none
def leafsA:List AV→Option (List AL)
 |[]=>some []
 |.val false [l]::r=>match leafsA r with
  |some ls=>some (l::ls)
  |none=>none
 |_=>none
def cloV (f:FuncId)(d:Nat)(ls:List AL):Ev:=.obj d fun
 |none=>.done [.slot d (.leaf (.obj d)),.obj d (.clo f ls)]
 |some _=>.fail
def evFn (fn:Fn)(d:Nat)(xs:List AV):Ev:=match fn with
 |.func f=>match leafs xs with
  |some ds=>.done [.slot d (.leaf (.d (.fn f ds)))]
  |none=>match leafsA xs with
   |some ls=>cloV f d ls
   |none=>.fail
 |_=>.fail
def mthV (f:FuncId)(d:Nat)(ls:List AL):Ev:=.obj d fun
 |none=>.done [.slot d (.leaf (.obj d)),.obj d (.mth f ls)]
 |some _=>.fail
def evMth (fn:Fn)(d:Nat)(xs:List AV):Ev:=match fn with
 |.func f=>match leafsA xs with
  |some ls=>mthV f d ls
  |none=>.fail
 |_=>.fail
def evNil (d:Nat):AV→Ev
 |.val false [.d (.pt ds)]=>.done [.slot d (.leaf (.d (.pt ds)))]
 |.val false [.d (.fn f ds)]=>.done [.slot d (.leaf (.d (.fn f ds)))]
 |.val false [.ptr o i]=>.done [.slot d (.leaf (.ptr o i))]
 |.val false [.eptr o i j tot]=>.obj o fun
  |some (.arr _ _ es)=>if es.length=tot then .done [.slot d (.leaf (.eptr o i j tot))] else .fail
  |_=>.fail
 |.val false [.fpt fs]=>.done [.slot d (.leaf (.fpt fs))]
 |_=>.fail
def evExtract (d:Nat)(i:Nat):AV→Ev
 |.tup vs=>match vs[i]? with
  |some (ag,ls)=>.done [.slot d (.val ag ls)]
  |none=>.fail
 |.val _ _=>.fail
 |.cnd _ _=>.fail
 |.dead=>.fail
def tyMap (P:Program)(t:TypeId):Option (TypeId × TypeId):=match P.underlying t with
 |some (.map k e)=>some (k,e)
 |_=>none
def tyKey (P:Program)(t:TypeId):Option Nat:=match P.underlying t with
 |some (.int _)=>some 0
 |some .string=>some 1
 |some .bool=>some 2
 |_=>none
def isIfc (P:Program)(t:TypeId):Bool:=match P.underlying t with
 |some (.interface _)=>true
 |some _=>false
 |none=>true
def tyFldA (P:Program)(t:TypeId)(f:Nat):Option (Nat × Nat × Bool):=match P.underlying t with
 |some (.struct fs)=>match fs[f]? with
  |some fd=>match tySize P fd.type,tyAg P fd.type with
   |some n,some ag=>some (fd.offset,n,ag)
   |_,_=>none
  |none=>none
 |_=>none
def keyEq:Nat→Value→Value→Option Bool
 |0,.int k a,.int k' b=>if k=k' then some (a==b) else none
 |1,.string a,.string b=>some (a==b)
 |2,.bool a,.bool b=>some (a==b)
 |3,.agg x,.agg y=>if x.size=y.size then eqInts (x.toList.map fun v=>.d (.raw v)) (y.toList.map fun v=>.d (.raw v)) else none
 |_,_,_=>none
def mapGet (tg:Nat)(key:Value):List (Value × Bool × List AL)→Option (Option (Bool × List AL))
 |[]=>some none
 |p::r=>match keyEq tg key p.1 with
  |some true=>some (some p.2)
  |some false=>mapGet tg key r
  |none=>none
def mapSet (tg:Nat)(key:Value)(x:Bool × List AL):List (Value × Bool × List AL)→Option (List (Value × Bool × List AL))
 |[]=>some [(key,x)]
 |p::r=>match keyEq tg key p.1 with
  |some true=>some ((key,x)::r)
  |some false=>match mapSet tg key x r with
   |some r'=>some (p::r')
   |none=>none
  |none=>none
def keyOf:AV→Option Value
 |.val false [.d (.raw v)]=>some v
 |_=>none
def rawInts:List AL→Option (List Value)
 |[]=>some []
 |.d (.raw (.int k a))::r=>match rawInts r with
  |some vs=>some (.int k a::vs)
  |none=>none
 |_::_=>none
def keyRow (n:Nat):AV→Option Value
 |.val true ls=>match rawInts ls with
  |some vs=>if vs.length=n then some (.agg vs.toArray) else none
  |none=>none
 |_=>none
def fieldOf (off n:Nat)(ag:Bool)(d:Nat):AV→Ev
 |.val true ls=>if (ag=true∨n=1)∧off+n≤ls.length then .done [.slot d (.val ag ((ls.drop off).take n))] else .fail
 |_=>.fail
def evField (P:Program)(t:TypeId)(f d:Nat)(x:AV):Ev:=match tyFldA P t f with
 |some (off,n,ag)=>fieldOf off n ag d x
 |none=>.fail
def evMakeMap (d:Nat):Ev:=.obj d fun
 |none=>.done [.slot d (.leaf (.obj d)),.obj d (.map [])]
 |some _=>.fail
def gotOf (ok:Bool)(b:Bool)(ag:Bool)(ls:List AL):AV:=bif ok then .tup [(ag,ls),(false,[.d (.raw (.bool b))])] else .val ag ls
def lookupV (tg:Nat)(ok:Bool)(d:Nat)(z:Bool × List D)(key:Option Value):AV→Ev
 |.val false [.obj o]=>.obj o fun
  |some (.map es)=>match key with
   |none=>.fail
   |some kv=>match mapGet tg kv es with
    |none=>.fail
    |some (some p)=>.done [.slot d (gotOf ok true p.1 p.2)]
    |some none=>.done [.slot d (gotOf ok false z.1 (z.2.map .d))]
  |_=>.fail
 |_=>.fail
def evLookup (P:Program)(t:TypeId)(ok:Bool)(d:Nat)(m key:AV):Ev:=match tyMap P t with
 |some (k,e)=>match zeroLs P e with
  |some z=>match tyKey P k with
   |some tg=>lookupV tg ok d z (keyOf key) m
   |none=>match tyInts P k with
    |some n=>lookupV 3 ok d z (keyRow n key) m
    |none=>.fail
  |none=>.fail
 |none=>.fail
def updateV (tg:Nat)(key:Option Value)(m:AV):AV→Ev
 |.val ag ls=>match m with
  |.val false [.obj o]=>.obj o fun
   |some (.map es)=>match key with
    |none=>.fail
    |some kv=>match mapSet tg kv (ag,ls) es with
     |some es'=>.done [.obj o (.map es')]
     |none=>.fail
   |_=>.fail
  |_=>.fail
 |_=>.fail
def evUpdate (P:Program)(t:TypeId)(m key x:AV):Ev:=match tyMap P t with
 |some (k,_)=>match tyKey P k with
  |some tg=>updateV tg (keyOf key) m x
  |none=>match tyInts P k with
   |some n=>updateV 3 (keyRow n key) m x
   |none=>.fail
 |none=>.fail
def rangeV (d:Nat):AV→Ev
 |.val false [.obj o]=>.obj o fun
  |some (.map es)=>.obj d fun
   |none=>.done [.slot d (.leaf (.obj d)),.obj d (.iter [.obj o] es.length [] es.length)]
   |some _=>.fail
  |_=>.fail
 |_=>.fail
def rangeS (d:Nat):AV→Ev
 |.val false [.d (.raw (.string s))]=>.obj d fun
  |none=>.done [.slot d (.leaf (.obj d)),.obj d (.sit s 0)]
  |some _=>.fail
 |_=>.fail
def evRange (P:Program)(t:TypeId)(d:Nat)(m:AV):Ev:=match tyMap P t with
 |some _=>rangeV d m
 |none=>bif tyStr P t then rangeS d m else .fail
def sitV (d q:Nat):Option AO→Ev
 |some (.sit s p)=>if p<s.size then .done [.slot d (.tup [(false,[.d (.raw (.bool true))]),(false,[.d (.raw (.int .i64 p))]),(false,[.d (.raw (.int .i32 (Utf8.decode s p).1))])]),.obj q (.sit s (p+(Utf8.decode s p).2))]
  else .done [.slot d (.tup [(false,[.d (.raw (.bool false))])])]
 |_=>.fail
def nextS (d:Nat):AV→Ev
 |.val false [.obj q]=>.obj q (sitV d q)
 |_=>.fail
def entryV (d c:Nat)(seen:List Nat):Option AO→Ev
 |some (.map es)=>match seen.getLast? with
  |none=>.fail
  |some i=>match es[i]? with
   |none=>.fail
   |some p=>if es.length=c∧p.1.oneCell'=true then .done [.slot d (.tup [(false,[.d (.raw p.1)]),(p.2.1,p.2.2)])] else .fail
 |_=>.fail
def evEntry (d:Nat):AV→Ev
 |.val false [.obj r]=>.obj r fun
  |some (.iter [.obj o] _ seen c)=>.obj o fun x=>entryV d c seen x
  |_=>.fail
 |_=>.fail
def evAssert (P:Program)(t:TypeId)(ok:Bool)(d:Nat):AV→Ev
 |.val false [.d (.ifc u ag ds)]=>if isIfc P t=true then .fail else
  if u=t then .done [.slot d (gotOf ok true ag (ds.map .d))] else
  if ok=true then match zeroLs P t with
   |some z=>.done [.slot d (gotOf ok false z.1 (z.2.map .d))]
   |none=>.fail
  else .fail
 |.val false [.d (.raw .nilIface)]=>if isIfc P t=true then .fail else
  if ok=true then match zeroLs P t with
   |some z=>.done [.slot d (gotOf ok false z.1 (z.2.map .d))]
   |none=>.fail
  else .fail
 |_=>.fail
def copyV (k d:Nat)(src:AV):AV→Ev
 |.val false [.own o off len tot]=>.obj o fun
  |some (.arr e k' es)=>if k'=k∧es.length=tot then
    seeSl k (fun xs=>if ∀y∈xs,y.length=k then .done [.slot d (.int (min xs.length len:Nat)),.obj o (.arr e k (splice es off (xs.take len)))] else .fail) src
   else .fail
  |_=>.fail
 |_=>.fail
def evCopy (P:Program)(t:TypeId)(d:Nat)(x y:AV):Ev:=match tyEl P t with
 |none=>.fail
 |some e=>match tySize P e with
  |none=>.fail
  |some k=>copyV k d y x
def clearV (k d:Nat)(z:List D):AV→Ev
 |.val false [.own o off len tot]=>.obj o fun
  |some (.arr e k' es)=>if k'=k∧es.length=tot∧z.length=k then .done [.slot d .dead,.obj o (.arr e k (splice es off (List.replicate len z)))] else .fail
  |_=>.fail
 |_=>.fail
def evClear (P:Program)(t:TypeId)(d:Nat)(x:AV):Ev:=match tyEl P t with
 |none=>.fail
 |some e=>match tySize P e with
  |none=>.fail
  |some k=>match zeroLs P e with
   |some (_,z)=>clearV k d z x
   |none=>.fail
def slice3V (d:Nat)(lo hi:Option AV)(mx:AV):AV→Ev
 |.val false [.own o off len tot]=>.obj o fun
  |some (.arr _ _ es)=>match bnd lo 0 with
   |none=>.fail
   |some l=>match hi with
    |none=>.fail
    |some hv=>match asInt hv with
     |none=>.fail
     |some (_,h)=>match asInt mx with
      |some (_,m)=>if 0≤l∧l≤h∧h≤m∧m≤len∧es.length=tot then .done [.slot d .dead] else .fail
      |none=>.fail
  |_=>.fail
 |_=>.fail
def evSlice3 (P:Program)(t:TypeId)(d:Nat)(x:AV)(lo hi:Option AV)(mx:AV):Ev:=match tyEl P t with
 |none=>.fail
 |some e=>match tySize P e with
  |some _=>slice3V d lo hi mx x
  |none=>.fail
def evBuiltin (P:Program)(b:Builtin)(ts:List TypeId)(d:Nat)(vs:List AV):Ev:=match b with
 |.len=>match ts,vs with
  |[t],[a]=>evLen P t d a
  |_,_=>.fail
 |.append=>match ts,vs with
  |[t,t'],[a,b]=>evAppend P t t' d a b
  |_,_=>.fail
 |.copy=>match ts,vs with
  |[t,_],[a,b]=>evCopy P t d a b
  |_,_=>.fail
 |.clear=>match ts,vs with
  |[t],[a]=>evClear P t d a
  |_,_=>.fail
 |.min=>min2 true d vs
 |.max=>min2 false d vs
 |_=>.fail
@[go_sem] def Ev.drop:Ev→Ev
 |.done ws=>.done ws.tail
 |.fail=>.fail
 |.slot s k=>.slot s fun v=>(k v).drop
 |.obj o k=>.obj o fun x=>(k x).drop
def quietB:Builtin→Bool
 |.copy=>true
 |.clear=>true
 |_=>false
def effOp (P:Program)(op:Op)(dst:Option Nat):Ev:=match dst with
 |some d=>match op with
  |.move x=>opd x fun v=>evPut d v
  |.assign x=>opd x fun v=>evPut d v
  |.pick c a b=>opd c fun cv=>opd a fun av=>opd b fun bv=>evPick d cv av bv
  |.alloc t=>evAlloc P t d
  |.box _ x=>opd x fun v=>evBox d v
  |.build t ps=>opds (ps.toList.map (·.2)) fun vs=>evBuild P t d ((ps.toList.map (·.1)).zip vs)
  |.buildSlice t n ps=>opds (ps.toList.map (·.2)) fun vs=>evBuildSlice P t n d ((ps.toList.map (·.1)).zip vs)
  |.load t a=>opd a fun v=>evLoad P t d v
  |.nilCheck x=>opd x fun v=>evNil d v
  |.binOp op t x y _=>opd x fun a=>opd y fun b=>binEv P op t d a b
  |.unOp op _ x=>opd x fun a=>evUn op d a
  |.convert t t' x=>opd x fun a=>evConvert P t t' d a
  |.makeInterface t x=>opd x fun a=>evIfc P t d a
  |.makeFunc fn first cs=>if first.size=0 then opds cs.toList fun vs=>evFn fn d vs else if cs.size=0 then opds first.toList fun vs=>evMth fn d vs else .fail
  |.range t x=>opd x fun a=>evRange P t d a
  |.next x b=>if b=true then opd x fun a=>nextS d a else .fail
  |.entry x=>opd x fun a=>evEntry d a
  |.makeSlice t l c=>opd l fun a=>opd c fun b=>evMake P t d a b
  |.slice t x lo hi mx=>match mx with
   |none=>opd x fun a=>opdO lo fun l=>opdO hi fun h=>evSlice P t d a l h
   |some m=>opd x fun a=>opdO lo fun l=>opdO hi fun h=>opd m fun c=>evSlice3 P t d a l h c
  |.field t x f=>opd x fun a=>evField P t f d a
  |.makeMap _ r=>match r with
   |none=>evMakeMap d
   |some _=>.fail
  |.lookup t x ix ok=>opd x fun a=>opd ix fun b=>evLookup P t ok d a b
  |.typeAssert x _ t ok=>opd x fun a=>evAssert P t ok d a
  |.fieldAddr t x f=>opd x fun a=>evFieldAddr P t d a f
  |.indexAddr t x ix=>opd x fun a=>opd ix fun b=>evIndexAddr P t d a b
  |.index t x ix=>opd x fun a=>opd ix fun b=>evIdx P t d a b
  |.extract x i=>opd x fun a=>evExtract d i a
  |.call c=>match c.callee with
   |.builtin b=>opds c.args.toList fun vs=>evBuiltin P b c.argTypes.toList d vs
   |_=>.fail
  |_=>.fail
 |none=>match op with
  |.store t a x=>opd a fun av=>opd x fun v=>evStore P t av v
  |.mapUpdate t m k x=>opd m fun mv=>opd k fun kv=>opd x fun v=>evUpdate P t mv kv v
  |.insert t m k x=>opd m fun mv=>opd k fun kv=>opd x fun v=>evUpdate P t mv kv v
  |.call c=>match c.callee with
   |.builtin b=>if quietB b=true then (opds c.args.toList fun vs=>evBuiltin P b c.argTypes.toList 0 vs).drop else .fail
   |_=>.fail
  |_=>.fail
section eqs
variable (P:Program) (d:Nat)
@[go_sem] theorem eff_move (x:Operand):effOp P (.move x) (some d)=opd x fun v=>evPut d v:=rfl
@[go_sem] theorem eff_assign (x:Operand):effOp P (.assign x) (some d)=opd x fun v=>evPut d v:=rfl
@[go_sem] theorem eff_pick (c a b:Operand):effOp P (.pick c a b) (some d)=opd c fun cv=>opd a fun av=>opd b fun bv=>evPick d cv av bv:=rfl
@[go_sem] theorem eff_alloc (t:TypeId):effOp P (.alloc t) (some d)=evAlloc P t d:=rfl
@[go_sem] theorem eff_box (t:TypeId)(x:Operand):effOp P (.box t x) (some d)=opd x fun v=>evBox d v:=rfl
@[go_sem] theorem eff_build (t:TypeId)(ps:List (Nat × Operand)):effOp P (.build t ps.toArray) (some d)=opds (ps.map (·.2)) fun vs=>evBuild P t d ((ps.map (·.1)).zip vs):=rfl
@[go_sem] theorem eff_buildSlice (t:TypeId)(n:Nat)(ps:List (Nat × Operand)):effOp P (.buildSlice t n ps.toArray) (some d)=opds (ps.map (·.2)) fun vs=>evBuildSlice P t n d ((ps.map (·.1)).zip vs):=rfl
@[go_sem] theorem eff_load (t:TypeId)(x:Operand):effOp P (.load t x) (some d)=opd x fun v=>evLoad P t d v:=rfl
@[go_sem] theorem eff_store (t:TypeId)(a x:Operand):effOp P (.store t a x) none=opd a fun av=>opd x fun v=>evStore P t av v:=rfl
@[go_sem] theorem eff_nilCheck (x:Operand):effOp P (.nilCheck x) (some d)=opd x fun v=>evNil d v:=rfl
@[go_sem] theorem eff_binOp (op:BinOp)(t t':TypeId)(x y:Operand):effOp P (.binOp op t x y t') (some d)=opd x fun a=>opd y fun b=>binEv P op t d a b:=rfl
@[go_sem] theorem eff_unOp (op:UnOp)(t:TypeId)(x:Operand):effOp P (.unOp op t x) (some d)=opd x fun a=>evUn op d a:=rfl
@[go_sem] theorem eff_convert (t t':TypeId)(x:Operand):effOp P (.convert t t' x) (some d)=opd x fun a=>evConvert P t t' d a:=rfl
@[go_sem] theorem eff_makeInterface (t:TypeId)(x:Operand):effOp P (.makeInterface t x) (some d)=opd x fun a=>evIfc P t d a:=rfl
@[go_sem] theorem eff_makeFunc (fn:Fn)(cs:List Operand):effOp P (.makeFunc fn #[] cs.toArray) (some d)=opds cs fun vs=>evFn fn d vs:=rfl
@[go_sem] theorem eff_makeMth (fn:Fn)(x:Operand)(fs:List Operand):effOp P (.makeFunc fn (x::fs).toArray #[]) (some d)=opds (x::fs) fun vs=>evMth fn d vs:=rfl
@[go_sem] theorem eff_range (t:TypeId)(x:Operand):effOp P (.range t x) (some d)=opd x fun a=>evRange P t d a:=rfl
@[go_sem] theorem eff_next (x:Operand):effOp P (.next x true) (some d)=opd x fun a=>nextS d a:=rfl
@[go_sem] theorem eff_entry (x:Operand):effOp P (.entry x) (some d)=opd x fun a=>evEntry d a:=rfl
@[go_sem] theorem eff_makeSlice (t:TypeId)(l c:Operand):effOp P (.makeSlice t l c) (some d)=opd l fun a=>opd c fun b=>evMake P t d a b:=rfl
@[go_sem] theorem eff_slice (t:TypeId)(x:Operand)(lo hi:Option Operand):effOp P (.slice t x lo hi none) (some d)=opd x fun a=>opdO lo fun l=>opdO hi fun h=>evSlice P t d a l h:=rfl
@[go_sem] theorem eff_slice3 (t:TypeId)(x m:Operand)(lo hi:Option Operand):effOp P (.slice t x lo hi (some m)) (some d)=opd x fun a=>opdO lo fun l=>opdO hi fun h=>opd m fun c=>evSlice3 P t d a l h c:=rfl
@[go_sem] theorem eff_field (t:TypeId)(x:Operand)(f:Nat):effOp P (.field t x f) (some d)=opd x fun a=>evField P t f d a:=rfl
@[go_sem] theorem eff_makeMap (t:TypeId):effOp P (.makeMap t none) (some d)=evMakeMap d:=rfl
@[go_sem] theorem eff_lookup (t:TypeId)(x ix:Operand)(ok:Bool):effOp P (.lookup t x ix ok) (some d)=opd x fun a=>opd ix fun b=>evLookup P t ok d a b:=rfl
@[go_sem] theorem eff_typeAssert (x:Operand)(t' t:TypeId)(ok:Bool):effOp P (.typeAssert x t' t ok) (some d)=opd x fun a=>evAssert P t ok d a:=rfl
@[go_sem] theorem eff_mapUpdate (t:TypeId)(m k x:Operand):effOp P (.mapUpdate t m k x) none=opd m fun mv=>opd k fun kv=>opd x fun v=>evUpdate P t mv kv v:=rfl
@[go_sem] theorem eff_insert (t:TypeId)(m k x:Operand):effOp P (.insert t m k x) none=opd m fun mv=>opd k fun kv=>opd x fun v=>evUpdate P t mv kv v:=rfl
@[go_sem] theorem eff_fieldAddr (t:TypeId)(x:Operand)(f:Nat):effOp P (.fieldAddr t x f) (some d)=opd x fun a=>evFieldAddr P t d a f:=rfl
@[go_sem] theorem eff_index (t:TypeId)(x ix:Operand):effOp P (.index t x ix) (some d)=opd x fun a=>opd ix fun b=>evIdx P t d a b:=rfl
@[go_sem] theorem eff_indexAddr (t:TypeId)(x ix:Operand):effOp P (.indexAddr t x ix) (some d)=opd x fun a=>opd ix fun b=>evIndexAddr P t d a b:=rfl
@[go_sem] theorem eff_extract (x:Operand)(i:Nat):effOp P (.extract x i) (some d)=opd x fun a=>evExtract d i a:=rfl
@[go_sem] theorem eff_call (b:Builtin)(as:List Operand)(ts:List TypeId):effOp P (.call { callee:=.builtin b,args:=as.toArray,argTypes:=ts.toArray }) (some d)=opds as fun vs=>evBuiltin P b ts d vs:=rfl
@[go_sem] theorem eff_callN (b:Builtin)(as:List Operand)(ts:List TypeId):effOp P (.call { callee:=.builtin b,args:=as.toArray,argTypes:=ts.toArray }) none=if quietB b=true then (opds as fun vs=>evBuiltin P b ts 0 vs).drop else .fail:=rfl
end eqs
end Go.Mw
namespace Go.Mw
def wantV (want:Bool):AV→Option Bool
 |.val false [.d (.raw (.bool b))]=>some (bif want then b else !b)
 |.tup _=>some false
 |.cnd h (.val false [.d (.raw (.bool b))])=>some (h&&bif want then b else !b)
 |_=>none
def wantedA (ops:Array Oper)(g:Option (Nat × Bool))(A:ASt):Option Bool:=match g with
 |none=>some true
 |some (j,want)=>match (ops[j]?).bind (·.dst) with
  |some s=>wantV want (A.get s)
  |none=>none
def skipWs (o:Oper):List Wr:=match o.dst with
 |some d=>[.slot d (.tup [])]
 |none=>[]
def guardLoc (ops:Array Oper)(o:Oper):List Loc:=match o.guard with
 |none=>[]
 |some (j,_)=>match (ops[j]?).bind (·.dst) with
  |some s=>[.slot s]
  |none=>[]
def stepOp (P:Program)(ops:Array Oper)(o:Oper)(A:ASt):Option (List Loc × List Wr):=match wantedA ops o.guard A with
 |some true=>(effOp P o.op o.dst).run A (guardLoc ops o)
 |some false=>some (guardLoc ops o,skipWs o)
 |none=>none
def Ev.runS (b:Bool):Ev→ASt→List Loc→Option (List Loc × List Wr)
 |.done ws,_,acc=>some (acc,ws)
 |.fail,_,_=>none
 |.slot s k,A,acc=>(k ((A.get s).strip b)).runS b A (.slot s::acc)
 |.obj o k,A,acc=>(k (A.obj o)).runS b A (.obj o::acc)
def ASt.strip (A:ASt)(b:Bool):ASt:=⟨A.tm.map fun p=>(p.1,p.2.strip b),A.ob,A.bh⟩
theorem get_strip (A:ASt)(b:Bool)(s:Nat):(A.strip b).get s=(A.get s).strip b:=by
 unfold ASt.get ASt.strip
 simp only
 induction A.tm with
 |nil=>rfl
 |cons p l ih=>
  simp only [List.map_cons,look]
  split
  ·rfl
  ·exact ih
theorem Ev.runS_eq (b:Bool)(A:ASt):∀(e:Ev) (acc:List Loc),e.runS b A acc=e.run (A.strip b) acc
 |.done _,_=>rfl
 |.fail,_=>rfl
 |.slot s k,acc=>by
  simp only [Ev.runS,Ev.run,get_strip]
  exact Ev.runS_eq b A _ _
 |.obj o k,acc=>Ev.runS_eq b A (k (A.obj o)) _
def FL.keep (os:List Nat):FL→FL
 |.d x=>.d x
 |.own o i j t=>if os.contains o then .own o i j t else .dead
 |.obj o=>if os.contains o then .obj o else .dead
 |.dead=>.dead
def AL.keep (os:List Nat):AL→AL
 |.d x=>.d x
 |.ptr o i=>if os.contains o then .ptr o i else .dead
 |.eptr o i j t=>if os.contains o then .eptr o i j t else .dead
 |.own o i j t=>if os.contains o then .own o i j t else .dead
 |.obj o=>if os.contains o then .obj o else .dead
 |.fpt fs=>.fpt (fs.map (·.keep os))
 |.csl o i j=>if os.contains o then .csl o i j else .dead
 |.dead=>.dead
def AV.keep (os:List Nat):AV→AV
 |.val ag ls=>.val ag (ls.map (·.keep os))
 |.tup cs=>.tup (cs.map fun c=>(c.1,c.2.map (·.keep os)))
 |.cnd b v=>.cnd b (v.keep os)
 |.dead=>.dead
def AO.keep (os:List Nat):AO→AO
 |.cells ls=>.cells (ls.map (·.keep os))
 |.arr e k es=>.arr e k es
 |.clo f ls=>.clo f (ls.map (·.keep os))
 |.yl=>.yl
 |.map es=>.map (es.map fun p=>(p.1,p.2.1,p.2.2.map (·.keep os)))
 |.mth f ls=>.mth f (ls.map (·.keep os))
 |.pin v l=>.pin v (l.keep os)
 |.iter ls n s c=>.iter (ls.map (·.keep os)) n s c
 |.sit s p=>.sit s p
 |.byt b c l=>.byt b c l
def keepObs (A:ASt)(os:List Nat):List Nat→List (Nat × AO)
 |[]=>[]
 |o::r=>match A.obj o with
  |some x=>(o,x.keep os)::keepObs A os r
  |none=>keepObs A os r
def ASt.keep (A:ASt)(ss os:List Nat):ASt:=⟨ss.map fun s=>(s,(A.get s).keep os),keepObs A os os,A.bh⟩
attribute [go_sem] wantV
section eqs
variable {α:Type}
@[go_sem] theorem step_plain (P:Program)(ops:Array Oper)(dst:Option Nat)(op:Op)(ty:TypeId)(pos:String)(af:Array Edge)(A:ASt) :
  stepOp P ops ⟨dst,op,ty,pos,af,none⟩ A=(effOp P op dst).run A []:=rfl
@[go_sem] theorem look_nil (s:Nat):look ([]:List (Nat × α)) s=none:=rfl
@[go_sem] theorem look_cons (k s:Nat)(v:α)(r:List (Nat × α)):look ((k,v)::r) s=if s=k then some v else look r s:=rfl
@[go_sem] theorem get_mk (tm:List (Nat × AV))(ob:List (Nat × AO))(bh:Beh)(s:Nat):(ASt.mk tm ob bh).get s=(look tm s).getD .dead:=rfl
@[go_sem] theorem obj_mk (tm:List (Nat × AV))(ob:List (Nat × AO))(bh:Beh)(s:Nat):(ASt.mk tm ob bh).obj s=look ob s:=rfl
@[go_sem] theorem put_nil (A:ASt):A.put []=A:=rfl
@[go_sem] theorem put_slot (tm:List (Nat × AV))(ob:List (Nat × AO))(bh:Beh)(s:Nat)(v:AV)(r:List Wr):(ASt.mk tm ob bh).put (.slot s v::r)=(ASt.mk ((s,v)::tm) ob bh).put r:=rfl
@[go_sem] theorem put_obj (tm:List (Nat × AV))(ob:List (Nat × AO))(bh:Beh)(s:Nat)(v:AO)(r:List Wr):(ASt.mk tm ob bh).put (.obj s v::r)=(ASt.mk tm ((s,v)::ob) bh).put r:=rfl
end eqs
attribute [go_sem] skipWs guardLoc pures ofConst opd opds asInt asBool evPut AV.strip pickV evPick binInt eqInts isSh nilOp isNil nilEv FL.al strBin sliceS rangeS nextS sitV binEv seeSl splice fillFlds partEls partLs bnd opdO evAlloc evBox evBuild evBuildSlice loadV evLoad storeV evStore fieldV evFieldAddr idxSl idxArr evIndexAddr sliceV slicePt evSliceA evSlice idxOf evIdx lenV lenS evLen appV evAppend makeV evMake evConvert min2 evUn evIfc leafs leafsA cloV evFn mthV evMth evNil rangeV evRange entryV evEntry evExtract evBuiltin keyEq mapGet mapSet keyOf rawInts keyRow fieldOf evField evMakeMap gotOf lookupV evLookup updateV evUpdate evAssert copyV evCopy clearV evClear slice3V evSlice3 quietB
end Go.Mw
namespace Go.Mw
open Go.RowKit
section runs
variable {P:Program} {t:TypeId} (w:World)
theorem run_size {n:Nat}(h:tySize P t=some n):(sizeOf t).run P w=.ok n w:=by
 unfold tySize at h
 cases hi:P.info? t with
 |none=>simp [hi] at h
 |some i=>simp [hi] at h;simp [sizeOf,typeInfo,hi,h]
theorem info_of {n:Nat}(h:tySize P t=some n):∃i,P.info? t=some i∧i.size=n:=by
 unfold tySize at h
 cases hi:P.info? t with
 |none=>simp [hi] at h
 |some i=>exact ⟨i,rfl,by simpa [hi] using h⟩
theorem run_ag {ag:Bool}(h:tyAg P t=some ag):(isAgg t).run P w=.ok ag w:=by
 unfold tyAg at h
 cases hu:P.underlying t with
 |none=>simp [hu] at h
 |some d=>cases d<;>simp [hu] at h<;>subst h<;>simp [isAgg,run_underlying hu]
theorem und_el {e:TypeId}(h:tyEl P t=some e):P.underlying t=some (.slice e):=by
 unfold tyEl at h
 cases hu:P.underlying t with
 |none=>simp [hu] at h
 |some d=>cases d<;>simp_all
theorem und_int {k:IntKind}(h:tyInt P t=some k):P.underlying t=some (.int k):=by
 unfold tyInt at h
 cases hu:P.underlying t with
 |none=>simp [hu] at h
 |some d=>cases d<;>simp_all
end runs
section evals
variable {P:Program} {C:Ctx P} {S:Settled} {M:Blocks} {ι:Nat→Value} {A:ASt} {a:Act} {w:World}
def ASt.ev (A:ASt):Operand→AV
 |.tmp t=>A.get t
 |.const v=>ofConst v
 |.func f=>.leaf (.d (.fn f []))
 |.global _=>.dead
theorem run_opd {x:Operand}{k:AV→Ev}{acc:List Loc}{r:List Loc × List Wr}(h:(opd x k).run A acc=some r) :
  ∃acc',(k (A.ev x)).run A acc'=some r:=by
 cases x with
 |tmp t=>exact ⟨_,h⟩
 |const v=>exact ⟨_,h⟩
 |func f=>exact ⟨_,h⟩
 |global g=>simp [opd,Ev.run] at h
theorem run_opds {k:List AV→Ev}{r:List Loc × List Wr}:∀ {xs:List Operand} {acc:List Loc},(opds xs k).run A acc=some r →
  ∃acc',(k (xs.map A.ev)).run A acc'=some r
 |[],acc,h=>⟨acc,h⟩
 |x::xs,acc,h=>by
  obtain ⟨acc1,h1⟩:=run_opd h
  obtain ⟨acc2,h2⟩:=run_opds (k:=fun vs=>k (A.ev x::vs)) h1
  exact ⟨acc2,h2⟩
theorem rep_raw {S:Settled}{ι:Nat→Value}{H:Nat→Option AO}{w:World}{v:Value}(h:v.oneCell'=true):RepV S ι H w (.raw v) v:=⟨_,rfl,RepD.raw v h⟩
theorem all2_raw {S:Settled}{ι:Nat→Value}{H:Nat→Option AO}{w:World}:∀ {vs:List Value},vs.all (·.oneCell')=true→All2 (RepL S ι H w) (vs.map fun v=>.d (.raw v)) vs
 |[],_=>trivial
 |v::vs,h=>by
  simp only [List.all_cons,Bool.and_eq_true] at h
  exact ⟨RepD.raw v h.1,all2_raw h.2⟩
theorem rep_const {S:Settled}{ι:Nat→Value}{H:Nat→Option AO}{w:World}(v:Value):RepV S ι H w (ofConst v) v:=by
 cases v with
 |agg cs=>
  simp only [ofConst]
  split
  ·rename_i h
   exact ⟨cs.toList,by simp,all2_raw h⟩
  ·trivial
 |tuple vs=>trivial
 |_=>exact rep_raw rfl
theorem rep_ev (hR:RelC C S M ι A a w)(x:Operand):RepV S ι A.obj w (A.ev x) (a.eval x):=by
 cases x with
 |tmp t=>exact hR.tms t
 |const v=>exact rep_const v
 |func f=>exact ⟨_,rfl,RepD.fn f [] [] rfl (by simp)⟩
 |global g=>trivial
theorem rep_evs (hR:RelC C S M ι A a w):∀(xs:List Operand),All2 (RepV S ι A.obj w) (xs.map A.ev) (xs.map a.eval)
 |[]=>trivial
 |x::xs=>⟨rep_ev hR x,rep_evs hR xs⟩
theorem RelC.slot (hR:RelC C S M ι A a w){d:Nat}{v:Value}{av:AV}(hd:C.can d)(hv:RepV S ι A.obj w av v) :
  RelC C S M ι (A.put [.slot d av]) (a.put (some d) v) w where
 sub:=hR.sub
 new:=hR.new
 inn:=hR.inn
 minn:=hR.minn
 sz:=by simp [Act.put,hR.sz]
 tms:=by
  intro s
  have hs:=hR.tms s
  show RepV S ι A.obj w ((A.put [.slot d av]).get s) ((a.put (some d) v).tmps.getD s undef)
  by_cases h:s=d
  ·subst h
   have e1:(A.put [.slot s av]).get s=av:=by simp [ASt.put,ASt.put1,ASt.get,look]
   have e2:(a.put (some s) v).tmps.getD s undef=v:=by simp [Act.put,hR.sz,hd.1,Array.getD_eq_getD_getElem?]
   rw [e1,e2];exact hv
  ·have e1:(A.put [.slot d av]).get s=A.get s:=by simp [ASt.put,ASt.put1,ASt.get,look,h]
   have e2:(a.put (some d) v).tmps.getD s undef=a.tmps.getD s undef:=by simp [Act.put,Array.getD_eq_getD_getElem?,Ne.symm h]
   rw [e1,e2];exact hs
 objs:=hR.objs
 dis:=hR.dis
 own:=hR.own
 env:=hR.env
 tok:=hR.tok
 fixed:=by
  intro s u hs
  have hne:d≠s:=fun e=>by rw [←e,hd.2.1] at hs;cases hs
  rw [←hR.fixed s u hs]
  simp [Act.put,Array.getD_eq_getD_getElem?,hne]
 marks:=by simpa [Act.put] using hR.marks
 rdok:=hR.rdok
 pinned:=hR.pinned
 pinN:=hR.pinN
theorem asInt_rep {S:Settled}{ι:Nat→Value}{H:Nat→Option AO}{w:World}{av:AV}{v:Value}{k:IntKind}{n:Int}(h:asInt av=some (k,n))(hr:RepV S ι H w av v):v=.int k n:=by
 unfold asInt at h
 split at h
 ·simp at h;obtain ⟨rfl,rfl⟩:=h
  obtain ⟨l,hl,hr⟩:=hr
  simp at hl;subst hl
  cases hr;rfl
 ·cases h
theorem asBool_rep {S:Settled}{ι:Nat→Value}{H:Nat→Option AO}{w:World}{av:AV}{v:Value}{b:Bool}(h:asBool av=some b)(hr:RepV S ι H w av v):v=.bool b:=by
 unfold asBool at h
 split at h
 ·simp at h;subst h
  obtain ⟨l,hl,hr⟩:=hr
  simp at hl;subst hl
  cases hr;rfl
 ·cases h
theorem rep_leaf {S:Settled}{ι:Nat→Value}{H:Nat→Option AO}{w:World}{l:AL}{v:Value}(hr:RepV S ι H w (.leaf l) v):RepL S ι H w l v:=by
 obtain ⟨l',hl,hr⟩:=hr
 simp at hl;subst hl;exact hr
theorem leaf_rep {S:Settled}{ι:Nat→Value}{H:Nat→Option AO}{w:World}{l:AL}{v:Value}(hr:RepL S ι H w l v):RepV S ι H w (.leaf l) v:=⟨l,rfl,hr⟩
theorem raw_eq {S:Settled}{w:World}{u v:Value}(h:RepD S w (.raw u) v):v=u:=by cases h;rfl
def Snd (P:Program)(C:Ctx P)(A:ASt)(ws:List Wr)(a:Act)(w:World)(o:Oper):Prop:=
 (∃v w',(execOp a.eval o).run P w=.ok (.value v) w' ∧ Rel C (A.put ws) (a.put o.dst v) w') ∨
 (∃w',(execOp a.eval o).run P w=.ok .skip w' ∧ Rel C (A.put ws) (a.put o.dst undef) w')
theorem snd_pure (hR:RelC C S M ι A a w){o:Oper}{d:Nat}{v:Value}{av:AV}(ho:o.dst=some d)(hd:C.can d)
  (h:(execOp a.eval o).run P w=.ok (.value v) w) (hv:RepV S ι A.obj w av v):Snd P C A [.slot d av] a w o:=
 .inl ⟨_,_,h,by rw [ho];exact ⟨S,M,ι,hR.slot hd hv⟩⟩
variable {o:Oper} {d:Nat}
theorem snd_put (hR:RelC C S M ι A a w)(ho:o.dst=some d)(hd:C.can d){x:Operand}(hop:o.op=.move x∨o.op=.assign x){acc:List Loc}{rs:List Loc}{ws:List Wr}
  (h:(opd x fun v=>evPut d v).run A acc=some (rs,ws)):Snd P C A ws a w o:=by
 obtain ⟨_,h⟩:=run_opd h
 simp only [evPut,Ev.run,Option.some.injEq,Prod.mk.injEq] at h
 obtain ⟨_,rfl⟩:=h
 exact snd_pure hR ho hd (v:=a.eval x) (by rcases hop with h|h<;>simp [execOp,h]) (rep_ev hR x)
theorem strip_rep {S:Settled}{ι:Nat→Value}{H:Nat→Option AO}{w:World}{b:Bool}(hb:b=true){x:AV}{v:Value}(h:RepV S ι H w x v):RepV S ι H w (x.strip b) v:=by
 cases x with
 |cnd c y=>
  simp only [AV.strip]
  split
  ·rename_i e;exact h.1 (e.trans hb)
  ·exact h
 |_=>exact h
theorem snd_pick (hR:RelC C S M ι A a w)(ho:o.dst=some d)(hd:C.can d){c x y:Operand}(hop:o.op=.pick c x y){acc:List Loc}{rs:List Loc}{ws:List Wr}
  (h:(opd c fun cv=>opd x fun av=>opd y fun bv=>evPick d cv av bv).run A acc=some (rs,ws)):Snd P C A ws a w o:=by
 obtain ⟨_,h⟩:=run_opd h
 obtain ⟨_,h⟩:=run_opd h
 obtain ⟨_,h⟩:=run_opd h
 unfold evPick at h
 cases hb:asBool (A.ev c) with
 |none=>simp [hb,Ev.run] at h
 |some t=>
  have hc:=asBool_rep hb (rep_ev hR c)
  have hx:t=true→RepV S ι A.obj w ((A.ev x).strip t) (a.eval x):=fun ht=>strip_rep ht (rep_ev hR x)
  have hy:t=false→RepV S ι A.obj w ((A.ev y).strip (!t)) (a.eval y):=fun ht=>strip_rep (by simp [ht]) (rep_ev hR y)
  simp only [hb] at h
  have hrun:(execOp a.eval o).run P w=.ok (.value (if t then a.eval x else a.eval y)) w:=by simp [execOp,hop,hc,Go.asBool]
  generalize (A.ev x).strip t=xv at h hx
  generalize (A.ev y).strip (!t)=yv at h hy
  unfold pickV at h
  split at h
  ·simp only [Ev.run,Option.some.injEq,Prod.mk.injEq] at h
   obtain ⟨_,rfl⟩:=h
   refine snd_pure hR ho hd hrun ?_
   cases t
   ·have hy:=raw_eq (rep_leaf (hy rfl))
    simp only [Bool.false_eq_true,if_false,hy];exact rep_raw rfl
   ·have hx:=raw_eq (rep_leaf (hx rfl))
    simp only [if_true,hx];exact rep_raw rfl
  ·simp only [Ev.run,Option.some.injEq,Prod.mk.injEq] at h
   obtain ⟨_,rfl⟩:=h
   refine snd_pure hR ho hd hrun ?_
   cases t
   ·exact hy rfl
   ·exact hx rfl
theorem snd_un (hR:RelC C S M ι A a w)(ho:o.dst=some d)(hd:C.can d){u:UnOp}{t:TypeId}{x:Operand}(hop:o.op=.unOp u t x){acc:List Loc}{rs:List Loc}{ws:List Wr}
  (h:(opd x fun a=>evUn u d a).run A acc=some (rs,ws)):Snd P C A ws a w o:=by
 obtain ⟨_,h⟩:=run_opd h
 have hx:=rep_ev hR x
 unfold evUn at h
 split at h
 ·rename_i b e;rw [e] at hx
  have hx:=raw_eq (rep_leaf hx)
  split at h<;>simp only [Ev.run,Option.some.injEq,Prod.mk.injEq,reduceCtorEq] at h
  obtain ⟨_,rfl⟩:=h
  exact snd_pure hR ho hd (v:=.bool !b) (by simp [execOp,hop,hx,Op.unary]) (rep_raw rfl)
 ·rename_i k n e;rw [e] at hx
  have hx:=raw_eq (rep_leaf hx)
  split at h<;>simp only [Ev.run,Option.some.injEq,Prod.mk.injEq,reduceCtorEq] at h
  obtain ⟨_,rfl⟩:=h
  exact snd_pure hR ho hd (v:=.int k (k.wrap (0-n))) (by simp [execOp,hop,hx,Op.unary,Op.intArith]) (rep_raw rfl)
 ·simp [Ev.run] at h
theorem run_binInt {op : BinOp} {t : TypeId} {k : IntKind} {x y : Int} {v : Value} (h : binInt op k x y = some v) :
    (Go.binOp op t (.int k x) (.int k y)).run P w=.ok v w:=by
  cases op <;> simp only [binInt, Option.some.injEq, reduceCtorEq] at h <;> first
    |(subst h;simp [Go.binOp,Op.intArith,Op.intCmp];done)
    |(subst h;simp only [Go.binOp,Op.intBits,Sem.run_pure];done)
    |(subst h;simp [Go.binOp,Op.intBits];done)
    | (split at h
       · cases h
       · rename_i hy
         simp only [Option.some.injEq] at h
         subst h
         simp [Go.binOp,Op.intDiv,Op.shift,hy])
theorem run_binSh {op : BinOp} {t : TypeId} {k k' : IntKind} {x y : Int} {v : Value} (hs : isSh op = true) (h : binInt op k x y = some v) :
    (Go.binOp op t (.int k x) (.int k' y)).run P w=.ok v w:=by
  cases op <;> simp only [isSh, reduceCtorEq, Bool.false_eq_true] at hs <;>
    (simp only [binInt, Option.some.injEq, reduceCtorEq] at h
     split at h
     · cases h
     · rename_i hy
       simp only [Option.some.injEq] at h
       subst h
       simp [Go.binOp,Op.shift,hy])
theorem binInt_one {op : BinOp} {k : IntKind} {x y : Int} {v : Value} (h : binInt op k x y = some v) : v.oneCell' = true := by
  cases op <;> simp only [binInt, Option.some.injEq, reduceCtorEq] at h <;> first
    |(subst h;rfl)
    | (split at h
       · cases h
       · simp only [Option.some.injEq] at h;subst h;rfl)
theorem snd_conv (hR:RelC C S M ι A a w)(ho:o.dst=some d)(hd:C.can d){t t':TypeId}{x:Operand}(hop:o.op=.convert t t' x){acc:List Loc}{rs:List Loc}{ws:List Wr}
  (h:(opd x fun a=>evConvert P t t' d a).run A acc=some (rs,ws)):Snd P C A ws a w o:=by
 obtain ⟨_,h⟩:=run_opd h
 have hx:=rep_ev hR x
 unfold evConvert at h
 split at h
 ·rename_i k n e;rw [e] at hx
  have hx:=raw_eq (rep_leaf hx)
  cases h1:tyInt P t with
  |none=>simp [h1,Ev.run] at h
  |some k1=>
   cases h2:tyInt P t' with
   |none=>simp [h1,h2,Ev.run] at h
   |some k2=>
    simp only [h1,h2,Ev.run,Option.some.injEq,Prod.mk.injEq] at h
    obtain ⟨_,rfl⟩:=h
    exact snd_pure hR ho hd (v:=.int k2 (k2.wrap n)) (by simp [execOp,hop,hx,Go.convert,run_underlying (und_int h1),run_underlying (und_int h2),Conv.intToInt]) (rep_raw rfl)
 ·simp [Ev.run] at h
theorem snd_extract (hR:RelC C S M ι A a w)(ho:o.dst=some d)(hd:C.can d){i:Nat}{x:Operand}(hop:o.op=.extract x i){acc:List Loc}{rs:List Loc}{ws:List Wr}
  (h:(opd x fun a=>evExtract d i a).run A acc=some (rs,ws)):Snd P C A ws a w o:=by
 obtain ⟨_,h⟩:=run_opd h
 have hx:=rep_ev hR x
 unfold evExtract at h
 split at h
 ·rename_i vs e;rw [e] at hx
  obtain ⟨us,hu,hx⟩:=hx
  cases hi:vs[i]? with
  |none=>simp [hi,Ev.run] at h
  |some c=>
   obtain ⟨u,hui,hu'⟩:=hx.get' hi
   simp only [hi,Ev.run,Option.some.injEq,Prod.mk.injEq] at h
   obtain ⟨_,rfl⟩:=h
   exact snd_pure hR ho hd (v:=u) (by simp [execOp,hop,hu,Instr.extract,hui]) hu'
 ·simp [Ev.run] at h
 ·simp [Ev.run] at h
 ·simp [Ev.run] at h
end evals
end Go.Mw
namespace Go.Mw
open Go.RowKit
theorem flat_get {α:Type}{k:Nat}:∀ {es:List (List α)},(∀x∈es,x.length=k)→∀ {i j:Nat} {e:List α} {d:α},es[i]? = some e→e[j]? = some d→es.flatten[i*k+j]? = some d
 |[],_,i,j,e,d,h,_=>by simp at h
 |x::es,hk,0,j,e,d,h,h'=>by
  simp at h;subst h
  have hj:j<x.length:=(List.getElem?_eq_some_iff.1 h').1
  simp only [Nat.zero_mul,Nat.zero_add,List.flatten_cons]
  rw [List.getElem?_append_left hj];exact h'
 |x::es,hk,i+1,j,e,d,h,h'=>by
  have hx:x.length=k:=hk x (by simp)
  simp only [List.flatten_cons]
  rw [List.getElem?_append_right (by rw [hx,Nat.add_mul];omega)]
  have:(i+1)*k+j-x.length=i*k+j:=by rw [hx,Nat.add_mul];omega
  rw [this]
  exact flat_get (fun y hy=>hk y V216) (by simpa using h) h'
theorem flat_len {α:Type}{k:Nat}:∀ {es:List (List α)},(∀x∈es,x.length=k)→es.flatten.length=es.length*k
 |[],_=>by simp
 |x::es,hk=>by
  have hx:x.length=k:=hk x (by simp)
  have:=flat_len (es:=es) fun y hy=>hk y V216
  simp [this,hx,Nat.add_mul,Nat.add_comm]
theorem flat_split {α:Type}{k:Nat}(hk0:0<k):∀ {es:List (List α)},(∀x∈es,x.length=k)→∀ {q:Nat} {d:α},es.flatten[q]? = some d→∃i j e,q=i*k+j∧es[i]? = some e∧e[j]? = some d
 |[],_,q,d,h=>by simp at h
 |x::es,hk,q,d,h=>by
  have hx:x.length=k:=hk x (by simp)
  simp only [List.flatten_cons] at h
  by_cases hq:q<x.length
  ·rw [List.getElem?_append_left hq] at h
   exact ⟨0,q,x,by simp,by simp,h⟩
  ·rw [List.getElem?_append_right (by omega)] at h
   obtain ⟨i,j,e,h1,h2,h3⟩:=flat_split hk0 (fun y hy=>hk y V216) h
   exact ⟨i+1,j,e,by rw [Nat.add_mul];omega,by simpa using h2,h3⟩
section runs
variable {P:Program} {t:TypeId} (w:World)
theorem run_loadVar' {ag:Bool}{n:Nat}(hag:tyAg P t=some ag)(hsz:tySize P t=some n)(h1:ag=true∨n=1)(b off:Nat)(f:Nat→Value)
  (h:∀j,j<n→w.cell? ⟨b,off+j,none⟩=some (f j)) :
  (loadVar t ⟨b,off,none⟩).run P w=.ok (if ag then .agg ((List.range n).map f).toArray else f 0) w:=by
 cases ag with
 |true=>
  have hl:=run_loadCells (P:=P) w ⟨b,off,none⟩ n f (fun j hj=>by rw [Addr.add_lit];exact h j hj)
  simp [loadVar,run_ag w hag,run_size w hsz,hl]
 |false=>
  have hn:n=1:=by simpa using h1
  have h0:=h 0 (by omega)
  simp only [Nat.add_zero] at h0
  simp [loadVar,run_ag w hag,h0]
end runs
section ops
variable {P:Program} {C:Ctx P} {S:Settled} {M:Blocks} {ι:Nat→Value} {A:ASt} {a:Act} {w:World} {o:Oper} {d:Nat}
theorem rep_loaded {H:Nat→Option AO}{ag:Bool}{ls:List AL}{f:Nat→Value}(h1:ag=true∨ls.length=1)
  (h:∀j l,ls[j]? = some l→RepL S ι H w l (f j)) :
  RepV S ι H w (.val ag ls) (if ag then .agg ((List.range ls.length).map f).toArray else f 0):=by
 cases ag with
 |true=>
  refine ⟨(List.range ls.length).map f,by simp,All2.ofGet (by simp) fun i l v hl hv=>?_⟩
  have hi:i<ls.length:=(List.getElem?_eq_some_iff.1 hl).1
  simp [hi] at hv;subst hv
  exact h i l hl
 |false=>
  have hn:ls.length=1:=by simpa using h1
  match ls,hn with
  |[l],_=>exact ⟨l,rfl,h 0 l rfl⟩
theorem cells_at {H:Nat→Option AO}{b:Nat}{vs:List Value}{el:TypeId}(h:w.heap[b]? = some (.cells vs.toArray el (0,0)))(i:Nat):w.cell? ⟨b,i,none⟩=vs[i]? :=by
 have _:=H
 simp [World.cell?,h]
theorem execOp_load {t:TypeId}{x:Operand}(hop:o.op=.load t x){b off:Nat}(hx:a.eval x=.pointer (some ⟨b,off,none⟩)){v:Value}
  (h:(loadVar t ⟨b,off,none⟩).run P w=.ok v w):(execOp a.eval o).run P w=.ok (.value v) w:=by
 simp [execOp,hop,hx,Instr.loadAt,Instr.sureAddr,h]
theorem snd_load (hR:RelC C S M ι A a w)(ho:o.dst=some d)(hd:C.can d){t:TypeId}{x:Operand}(hop:o.op=.load t x){acc:List Loc}{rs:List Loc}{ws:List Wr}
  (h:(opd x fun v=>evLoad P t d v).run A acc=some (rs,ws)):Snd P C A ws a w o:=by
 obtain ⟨_,h⟩:=run_opd h
 have hx:=rep_ev hR x
 unfold evLoad at h
 cases hsz:tySize P t with
 |none=>simp [hsz,Ev.run] at h
 |some n=>
 cases hag:tyAg P t with
 |none=>simp [hsz,hag,Ev.run] at h
 |some ag=>
 simp only [hsz,hag] at h
 split at h
 case isFalse=>simp [Ev.run] at h
 rename_i h1
 unfold loadV at h
 split at h
 ·-- settled cells
  rename_i ds e;rw [e] at hx
  have hx:=rep_leaf hx
  split at h
  case isFalse=>simp [Ev.run] at h
  rename_i hn
  simp only [Ev.run,Option.some.injEq,Prod.mk.injEq] at h
  obtain ⟨_,rfl⟩:=h
  cases hx':a.eval x<;>rw [hx'] at hx<;>try (cases hx;done)
  cases hx with
  |pt _ b off vals hS hw hr=>
  have hrun:=run_loadVar' (P:=P) (t:=t) w hag hsz h1 b off vals (fun j hj=>hw j ds[j] (by simp [List.getElem?_eq_getElem (show j<ds.length by omega)]))
  refine snd_pure hR ho hd (execOp_load hop hx' hrun) ?_
  have hn':n=(ds.map AL.d).length:=by simp [hn]
  rw [hn']
  refine rep_loaded (by simpa [hn] using h1) fun j l hl=>?_
  simp only [List.getElem?_map,Option.map_eq_some_iff] at hl
  obtain ⟨x',hx',rfl⟩:=hl
  exact hr j x' hx'
 ·rename_i ob off e;rw [e] at hx
  obtain ⟨ls0,b,hob,hι,hv⟩:=rep_leaf hx
  simp only [Ev.run,hob] at h
  split at h
  case isFalse=>simp [Ev.run] at h
  rename_i hle
  simp only [Ev.run,Option.some.injEq,Prod.mk.injEq] at h
  obtain ⟨_,rfl⟩:=h
  obtain ⟨b',vs,el,hι',hheap,hall,_⟩:=hR.objs ob _ hob
  rw [hι] at hι';simp only [Value.pointer.injEq,Option.some.injEq,Addr.mk.injEq,and_true] at hι';subst hι'
  have hlen:=hall.length
  have hrun:=run_loadVar' (P:=P) (t:=t) w hag hsz h1 b off (fun j=>vs.getD (off+j) undef)
   (fun j hj=>by rw [cells_at (H:=A.obj) hheap];simp [List.getElem?_eq_getElem (show off+j<vs.length by omega),List.getD])
  refine snd_pure hR ho hd (execOp_load hop hv hrun) ?_
  have hn':n=((ls0.drop off).take n).length:=by simp;omega
  have:=rep_loaded (S:=S) (ι:=ι) (w:=w) (H:=A.obj) (ag:=ag) (ls:=(ls0.drop off).take n) (f:=fun j=>vs.getD (off+j) undef) (by rw [←hn'];exact h1) (fun j l hl=>?_)
  ·rw [←hn'] at this;exact this
  ·rw [List.getElem?_take] at hl
   split at hl
   ·rw [List.getElem?_drop] at hl
    obtain ⟨v,hv,hr⟩:=hall.get' hl
    simpa [List.getD,hv] using hr
   ·cases hl
 ·rename_i ob i j tot e;rw [e] at hx
  obtain ⟨_,e',k,es,hob,htl,hval⟩:=rep_leaf hx
  simp only [Ev.run,hob] at h
  cases hei:es[i]? with
  |none=>simp [hei,Ev.run] at h
  |some y=>
  simp only [hei] at h
  split at h
  case isFalse=>simp [Ev.run] at h
  rename_i hc
  obtain ⟨htot,hjn,hyk⟩:=hc
  simp only [Ev.run,Option.some.injEq,Prod.mk.injEq] at h
  obtain ⟨_,rfl⟩:=h
  obtain ⟨hi,hj,b,c,hι,hv⟩:=hval htot
  obtain ⟨xs,hown,hall,hk,hk0,_⟩:=hR.objs ob _ hob
  have hown':=hown
  rw [hι,htot] at hown'
  have hcell:∀q,q<n→w.cell? ⟨b,i*k+j+q,none⟩=xs[i*k+(j+q)]? :=fun q hq=>by
   rw [Nat.add_assoc]
   refine hown'.cellAt _ ?_
   calc i*k+(j+q)<i*k+k:=by omega
    _=(i+1)*k:=by rw [Nat.add_mul,Nat.one_mul]
    _≤tot*k:=Nat.mul_le_mul_right _ hi
  have hxl:xs.length=tot*k:=by rw [hown.1,htot]
  have hin:∀q,q<n→i*k+(j+q)<xs.length:=fun q hq=>by
   rw [hxl]
   calc i*k+(j+q)<i*k+k:=by omega
    _=(i+1)*k:=by rw [Nat.add_mul,Nat.one_mul]
    _≤tot*k:=Nat.mul_le_mul_right _ hi
  have hrun:=run_loadVar' (P:=P) (t:=t) w hag hsz h1 b (i*k+j) (fun q=>xs.getD (i*k+(j+q)) undef)
   (fun q hq=>by rw [hcell q hq];simp [List.getElem?_eq_getElem (hin q hq),List.getD])
  refine snd_pure hR ho hd (execOp_load hop hv hrun) ?_
  have hn':n=(((y.drop j).take n).map AL.d).length:=by simp;omega
  have:=rep_loaded (S:=S) (ι:=ι) (w:=w) (H:=A.obj) (ag:=ag) (ls:=((y.drop j).take n).map AL.d) (f:=fun q=>xs.getD (i*k+(j+q)) undef) (by rw [←hn'];exact h1) (fun q l hl=>?_)
  ·rw [←hn'] at this;exact this
  ·simp only [List.getElem?_map,Option.map_eq_some_iff] at hl
   obtain ⟨x',hx',rfl⟩:=hl
   rw [List.getElem?_take] at hx'
   split at hx'
   ·rw [List.getElem?_drop] at hx'
    obtain ⟨v,hv,hr⟩:=hall.get' (flat_get hk hei hx')
    have e:xs.getD (i*k+(j+q)) undef=v:=by simp [List.getD,hv]
    show RepD S w x' (xs.getD (i*k+(j+q)) undef)
    rw [e];exact hr
   ·cases hx'
 ·rename_i fs e;rw [e] at hx
  obtain ⟨b,off,hv,hf⟩:=rep_leaf hx
  split at h
  case isFalse=>simp [Ev.run] at h
  rename_i hle
  simp only [Ev.run,Option.some.injEq,Prod.mk.injEq] at h
  obtain ⟨_,rfl⟩:=h
  have hex:∃g:Nat→Value,∀j f,fs[j]? = some f→w.cell? ⟨b,off+j,none⟩=some (g j)∧RepF S ι A.obj w f (g j):=by
   refine ⟨fun j=>(w.cell? ⟨b,off+j,none⟩).getD undef,fun j f hj=>?_⟩
   obtain ⟨_,u,h2,h3⟩:=hf j f hj
   simp only [h2,Option.getD_some]
   exact ⟨trivial,h3⟩
  obtain ⟨g,hg⟩:=hex
  have hrun:=run_loadVar' (P:=P) (t:=t) w hag hsz h1 b off g (fun j hj=>(hg j fs[j] (List.getElem?_eq_getElem (show j<fs.length by omega))).1)
  refine snd_pure hR ho hd (execOp_load hop hv hrun) ?_
  have hn':n=((fs.take n).map FL.al).length:=by simp;omega
  have:=rep_loaded (S:=S) (ι:=ι) (w:=w) (H:=A.obj) (ag:=ag) (ls:=(fs.take n).map FL.al) (f:=g) (by rw [←hn'];exact h1) (fun j l hl=>?_)
  ·rw [←hn'] at this;exact this
  ·rw [List.getElem?_map,List.getElem?_take] at hl
   split at hl
   ·cases hq:fs[j]? with
    |none=>simp [hq] at hl
    |some f=>
     simp only [hq,Option.map_some,Option.some.injEq] at hl
     subst hl
     exact (repF_al S ι A.obj w).1 (hg j f hq).2
   ·simp at hl
 ·simp [Ev.run] at h
theorem tyFld_some {t:TypeId}{f off n:Nat}(h:tyFld P t f=some (off,n)):∃fs fd,P.underlying t=some (.struct fs)∧fs[f]? = some fd∧tySize P fd.type=some n∧fd.offset=off:=by
 unfold tyFld at h
 cases hu:P.underlying t with
 |none=>simp [hu] at h
 |some dsc=>
  cases dsc<;>simp only [hu,reduceCtorEq] at h
  rename_i fs
  cases hf:fs[f]? with
  |none=>simp [hf] at h
  |some fd=>
   cases hs:tySize P fd.type with
   |none=>simp [hf,hs] at h
   |some m=>
    simp only [hf,hs,Option.some.injEq,Prod.mk.injEq] at h
    exact ⟨fs,fd,rfl,hf,by rw [hs,h.2],h.1⟩
theorem run_fieldAt {t:TypeId}{f off n:Nat}(h:tyFld P t f=some (off,n))(hn:n≠0)(b p:Nat) :
  (Instr.fieldAt t (.pointer (some ⟨b,p,none⟩)) f).run P w=.ok (.pointer (some ⟨b,p+off,none⟩)) w:=by
 obtain ⟨fs,fd,hu,hf,hs,rfl⟩:=tyFld_some h
 simp [Instr.fieldAt,run_underlying hu,hf,Instr.sureAddr,fieldPlace,run_size w hs,hn,Addr.add_lit]
theorem snd_fieldAddr (hR:RelC C S M ι A a w)(ho:o.dst=some d)(hd:C.can d){t:TypeId}{x:Operand}{f:Nat}(hop:o.op=.fieldAddr t x f){acc:List Loc}{rs:List Loc}{ws:List Wr}
  (h:(opd x fun v=>evFieldAddr P t d v f).run A acc=some (rs,ws)):Snd P C A ws a w o:=by
 obtain ⟨_,h⟩:=run_opd h
 have hx:=rep_ev hR x
 unfold evFieldAddr at h
 cases hf:tyFld P t f with
 |none=>simp [hf,Ev.run] at h
 |some p=>
 obtain ⟨off,n⟩:=p
 simp only [hf] at h
 split at h
 case isTrue=>simp [Ev.run] at h
 rename_i hn
 have hexec:∀b p,a.eval x=.pointer (some ⟨b,p,none⟩)→(execOp a.eval o).run P w=.ok (.value (.pointer (some ⟨b,p+off,none⟩))) w:=fun b p hv=>by
  simp [execOp,hop,hv,run_fieldAt hf hn]
 unfold fieldV at h
 split at h
 ·rename_i ds e;rw [e] at hx
  have hx:=rep_leaf hx
  split at h
  case isFalse=>simp [Ev.run] at h
  rename_i hle
  simp only [Ev.run,Option.some.injEq,Prod.mk.injEq] at h
  obtain ⟨_,rfl⟩:=h
  cases hx':a.eval x<;>rw [hx'] at hx<;>try (cases hx;done)
  cases hx with
  |pt _ b p vals hS hw hr=>
  refine snd_pure hR ho hd (hexec b p hx') (leaf_rep ?_)
  have key:∀(j:Nat) (y:D),((ds.drop off).take n)[j]? = some y→ds[off+j]? = some y:=fun j y hy=>by
   rw [List.getElem?_take] at hy
   split at hy
   ·rwa [List.getElem?_drop] at hy
   ·cases hy
  exact RepD.pt _ b (p+off) (fun j=>vals (off+j)) (fun j y hy=>by have:=hS _ _ (key j y hy);rwa [←Nat.add_assoc] at this)
   (fun j y hy=>by have:=hw _ _ (key j y hy);rwa [←Nat.add_assoc] at this) (fun j y hy=>hr _ _ (key j y hy))
 ·rename_i ob off0 e;rw [e] at hx
  obtain ⟨ls0,b,hob,hι,hv⟩:=rep_leaf hx
  simp only [Ev.run,Option.some.injEq,Prod.mk.injEq] at h
  obtain ⟨_,rfl⟩:=h
  exact snd_pure hR ho hd (hexec b off0 hv) (leaf_rep ⟨ls0,b,hob,hι,rfl⟩)
 ·rename_i ob i j tot e;rw [e] at hx
  obtain ⟨_,e',k,es,hob,htl,hval⟩:=rep_leaf hx
  simp only [Ev.run,hob] at h
  split at h
  case isFalse=>simp [Ev.run] at h
  rename_i hc
  simp only [Ev.run,Option.some.injEq,Prod.mk.injEq] at h
  obtain ⟨_,rfl⟩:=h
  obtain ⟨hi,hj,b,c,hι,hv⟩:=hval hc.1
  refine snd_pure hR ho hd (hexec b _ hv) (leaf_rep ⟨rfl,e',k,es,hob,htl,fun _=>⟨hi,hc.2,b,c,hι,by rw [Nat.add_assoc]⟩⟩)
 ·rename_i fs e;rw [e] at hx
  obtain ⟨b,p,hv,hf⟩:=rep_leaf hx
  simp only [Ev.run,Option.some.injEq,Prod.mk.injEq] at h
  obtain ⟨_,rfl⟩:=h
  refine snd_pure hR ho hd (hexec b p hv) (leaf_rep ⟨b,p+off,rfl,fun j f hj=>?_⟩)
  rw [List.getElem?_drop] at hj
  have:=hf _ _ hj
  rwa [←Nat.add_assoc] at this
 ·simp [Ev.run] at h
theorem snd_len_val (hR:RelC C S M ι A a w)(ho:o.dst=some d)(hd:C.can d){t:TypeId}{x:Operand}(hop:o.op=.call { callee:=.builtin .len,args:=#[x],argTypes:=#[t] }){acc:List Loc}{rs:List Loc}{ws:List Wr}
  (h:(evLen P t d (A.ev x)).run A acc=some (rs,ws)):Snd P C A ws a w o:=by
 have hx:=rep_ev hR x
 have hexec:∀n,(Builtin.len_ #[t] o.type #[a.eval x]).run P w=.ok (goInt n) w→(execOp a.eval o).run P w=.ok (.value (.int .i64 n)) w:=fun n hv=>by
  simp [execOp,hop,resolve,invoke,Go.builtin,hv,goInt]
 have hsl:∀e b n c,tyEl P t=some e→a.eval x=.slice b n c→(execOp a.eval o).run P w=.ok (.value (.int .i64 n)) w:=fun e b n c ht hv=>
  hexec n (by simp [Builtin.len_,run_underlying (und_el ht),hv])
 unfold evLen at h
 cases ht:tyEl P t with
 |none=>
  simp only [ht] at h
  split at h
  case isFalse=>simp [Ev.run] at h
  rename_i hs
  unfold lenS at h
  split at h
  ·rename_i s e;rw [e] at hx
   have hx:=raw_eq (rep_leaf hx)
   simp only [Ev.run,Option.some.injEq,Prod.mk.injEq] at h
   obtain ⟨_,rfl⟩:=h
   have hu:P.underlying t=some .string:=by
    unfold tyStr at hs
    cases hu:P.underlying t with
    |none=>simp [hu] at hs
    |some dsc=>cases dsc<;>simp_all
   exact snd_pure hR ho hd (hexec s.size (by simp [Builtin.len_,run_underlying hu,hx])) (rep_raw rfl)
  ·simp [Ev.run] at h
 |some el=>
  simp only [ht] at h
  unfold lenV at h
  split at h
  ·rename_i k es e;rw [e] at hx
   have hx:=rep_leaf hx
   simp only [Ev.run,Option.some.injEq,Prod.mk.injEq] at h
   obtain ⟨_,rfl⟩:=h
   cases hx':a.eval x<;>rw [hx'] at hx<;>try (cases hx;done)
   cases hx with
   |nil=>exact snd_pure hR ho hd (hsl _ _ _ _ ht hx') (rep_raw rfl)
   |sl=>exact snd_pure hR ho hd (hsl _ _ _ _ ht hx') (rep_raw rfl)
  ·rename_i e;rw [e] at hx
   have hx:=raw_eq (rep_leaf hx)
   simp only [Ev.run,Option.some.injEq,Prod.mk.injEq] at h
   obtain ⟨_,rfl⟩:=h
   exact snd_pure hR ho hd (hsl _ _ _ _ ht hx) (rep_raw rfl)
  ·rename_i ob off len tot e;rw [e] at hx
   obtain ⟨h1,e',k,es,hob,htl,hval⟩:=rep_leaf hx
   simp only [Ev.run,hob] at h
   split at h
   case isFalse=>simp [Ev.run] at h
   rename_i hc
   simp only [Ev.run,Option.some.injEq,Prod.mk.injEq] at h
   obtain ⟨_,rfl⟩:=h
   obtain ⟨_,_,p,c,hv,_⟩:=hval hc
   exact snd_pure hR ho hd (hsl _ _ _ _ ht hv) (rep_raw rfl)
  ·rename_i ob off len e;rw [e] at hx
   obtain ⟨ls0,b,c,hob,hι,hv,hlc⟩:=rep_leaf hx
   simp only [Ev.run,Option.some.injEq,Prod.mk.injEq] at h
   obtain ⟨_,rfl⟩:=h
   exact snd_pure hR ho hd (hsl _ _ _ _ ht hv) (rep_raw rfl)
  ·simp [Ev.run] at h
theorem snd_nil (hR:RelC C S M ι A a w)(ho:o.dst=some d)(hd:C.can d){x:Operand}(hop:o.op=.nilCheck x){acc:List Loc}{rs:List Loc}{ws:List Wr}
  (h:(opd x fun v=>evNil d v).run A acc=some (rs,ws)):Snd P C A ws a w o:=by
 obtain ⟨_,h⟩:=run_opd h
 have hx:=rep_ev hR x
 unfold evNil at h
 split at h
 ·rename_i ds e;rw [e] at hx
  have hx1:=rep_leaf hx
  simp only [Ev.run,Option.some.injEq,Prod.mk.injEq] at h
  obtain ⟨_,rfl⟩:=h
  cases hx':a.eval x<;>rw [hx'] at hx1<;>try (cases hx1;done)
  cases hx1 with
  |pt _ b p vals hS hw hr=>exact snd_pure hR ho hd (by simp [execOp,hop,hx']) (leaf_rep (RepD.pt _ b p vals hS hw hr))
 ·rename_i f ds e;rw [e] at hx
  have hx1:=rep_leaf hx
  simp only [Ev.run,Option.some.injEq,Prod.mk.injEq] at h
  obtain ⟨_,rfl⟩:=h
  cases hx':a.eval x<;>rw [hx'] at hx1<;>try (cases hx1;done)
  cases hx1 with
  |fn _ _ vals hl hr=>exact snd_pure hR ho hd (by simp [execOp,hop,hx']) (leaf_rep (RepD.fn f ds vals hl hr))
 ·rename_i ob i e;rw [e] at hx
  obtain ⟨ls0,b,hob,hι,hv⟩:=rep_leaf hx
  simp only [Ev.run,Option.some.injEq,Prod.mk.injEq] at h
  obtain ⟨_,rfl⟩:=h
  exact snd_pure hR ho hd (by simp [execOp,hop,hv]) (leaf_rep ⟨ls0,b,hob,hι,rfl⟩)
 ·rename_i ob i j tot e;rw [e] at hx
  obtain ⟨_,e',k,es,hob,htl,hval⟩:=rep_leaf hx
  simp only [Ev.run,hob] at h
  split at h
  case isFalse=>simp [Ev.run] at h
  rename_i hc
  simp only [Ev.run,Option.some.injEq,Prod.mk.injEq] at h
  obtain ⟨_,rfl⟩:=h
  obtain ⟨hi,hj,b,c,hι,hv⟩:=hval hc
  exact snd_pure hR ho hd (by simp [execOp,hop,hv]) (leaf_rep ⟨rfl,e',k,es,hob,htl,fun _=>⟨hi,hj,b,c,hι,rfl⟩⟩)
 ·rename_i fs e;rw [e] at hx
  obtain ⟨b,p,hv,hf⟩:=rep_leaf hx
  simp only [Ev.run,Option.some.injEq,Prod.mk.injEq] at h
  obtain ⟨_,rfl⟩:=h
  exact snd_pure hR ho hd (by simp [execOp,hop,hv]) (leaf_rep ⟨b,p,rfl,hf⟩)
 ·simp [Ev.run] at h
end ops
end Go.Mw
namespace Go.Mw
open Go.RowKit
section ops
variable {P:Program} {C:Ctx P} {S:Settled} {M:Blocks} {ι:Nat→Value} {A:ASt} {a:Act} {w:World} {o:Oper} {d:Nat}
theorem run_opdO {x:Option Operand}{k:Option AV→Ev}{acc:List Loc}{r:List Loc × List Wr}(h:(opdO x k).run A acc=some r) :
  ∃acc',(k (x.map A.ev)).run A acc'=some r:=by
 cases x with
 |none=>exact ⟨_,h⟩
 |some x=>exact run_opd h
theorem bnd_rep (hR:RelC C S M ι A a w){x:Option Operand}{n l:Int}(h:bnd (x.map A.ev) n=some l):(x.map a.eval=none∧l=n)∨∃k,x.map a.eval=some (.int k l):=by
 cases x with
 |none=>simp [bnd] at h;exact .inl ⟨rfl,h.symm⟩
 |some x=>
  simp only [Option.map_some,bnd] at h
  cases hx:asInt (A.ev x) with
  |none=>simp [hx] at h
  |some p=>
   obtain ⟨k,m⟩:=p
   simp [hx] at h;subst h
   exact .inr ⟨k,by simp [asInt_rep hx (rep_ev hR x)]⟩
theorem run_bounds {len cap:Nat}{lo hi:Option Value}{l h:Int}(hlo:(lo=none∧l=0)∨∃k,lo=some (.int k l))(hhi:(hi=none∧h=len)∨∃k,hi=some (.int k h))
  (h0:0≤l) (h1:l≤h) (h2:h≤cap):(Instr.sliceBounds true len cap lo hi none).run P w=.ok (l.toNat,h.toNat,cap) w:=by
 have eh:(h.toNat:Int)=h:=Int.toNat_of_nonneg (by omega)
 have h3:l≤(h.toNat:Int):=by omega
 have h4:0≤h:=by omega
 rcases hlo with ⟨rfl,rfl⟩|⟨k,rfl⟩<;>rcases hhi with ⟨rfl,hh⟩|⟨k',rfl⟩
 ·subst hh;simp [Instr.sliceBounds]
 ·simp [Instr.sliceBounds,run_sliceBound,h4,h2]
 ·subst hh;simp [Instr.sliceBounds,run_sliceBound,h0,h1]
 ·have e:=run_sliceBound (P:=P) w k l h.toNat .sliceB h0 h3
  simp [Instr.sliceBounds,run_sliceBound,h4,h2,e]
theorem run_boundsF {len cap:Nat}{lo hi:Option Value}{l h:Int}(hlo:(lo=none∧l=0)∨∃k,lo=some (.int k l))(hhi:(hi=none∧h=len)∨∃k,hi=some (.int k h))
  (h0:0≤l) (h1:l≤h) (h2:h≤cap):(Instr.sliceBounds false len cap lo hi none).run P w=.ok (l.toNat,h.toNat,cap) w:=by
 have eh:(h.toNat:Int)=h:=Int.toNat_of_nonneg (by omega)
 have h3:l≤(h.toNat:Int):=by omega
 have h4:0≤h:=by omega
 rcases hlo with ⟨rfl,rfl⟩|⟨k,rfl⟩<;>rcases hhi with ⟨rfl,hh⟩|⟨k',rfl⟩
 ·subst hh;simp [Instr.sliceBounds]
 ·simp [Instr.sliceBounds,run_sliceBound,h4,h2]
 ·subst hh;simp [Instr.sliceBounds,run_sliceBound,h0,h1]
 ·have e:=run_sliceBound (P:=P) w k l h.toNat .sliceB h0 h3
  simp [Instr.sliceBounds,run_sliceBound,h4,h2,e]
theorem arrA_some {t:TypeId}{n k:Nat}{ag:Bool}(h:tyArrA P t=some (n,k,ag)):∃e,P.underlying t=some (.array n e)∧tySize P e=some k∧tyAg P e=some ag:=by
 unfold tyArrA at h
 split at h
 ·rename_i m e hu
  split at h
  ·rename_i k' hk
   split at h
   ·rename_i ag' ha
    simp only [Option.some.injEq,Prod.mk.injEq] at h
    obtain ⟨rfl,rfl,rfl⟩:=h
    exact ⟨e,hu,hk,ha⟩
   ·cases h
  ·cases h
 ·cases h
theorem snd_sliceA (hR:RelC C S M ι A a w)(ho:o.dst=some d)(hd:C.can d){t:TypeId}{x:Operand}{lo hi:Option Operand}(hop:o.op=.slice t x lo hi none){acc:List Loc}{rs:List Loc}{ws:List Wr}
  (h:(evSliceA (tyArrA P t) d (A.ev x) (lo.map A.ev) (hi.map A.ev)).run A acc=some (rs,ws)):Snd P C A ws a w o:=by
 have hx:=rep_ev hR x
 unfold evSliceA at h
 cases hta:tyArrA P t with
 |none=>simp [hta,Ev.run] at h
 |some p=>
 obtain ⟨n,k,ag⟩:=p
 obtain ⟨e,hu,hk,_⟩:=arrA_some hta
 simp only [hta] at h
 by_cases hk1:k=1
 case neg=>simp [hk1,Ev.run] at h
 subst hk1
 rw [if_pos rfl] at h
 unfold slicePt at h
 split at h
 ·rename_i ds e0;rw [e0] at hx
  have hx:=rep_leaf hx
  cases hl:bnd (lo.map A.ev) 0 with
  |none=>simp [hl,Ev.run] at h
  |some l=>
  cases hh:bnd (hi.map A.ev) n with
  |none=>simp [hl,hh,Ev.run] at h
  |some m=>
  simp only [hl,hh] at h
  split at h
  case isFalse=>simp [Ev.run] at h
  rename_i hc
  obtain ⟨rfl,h0,h1,hn⟩:=hc
  simp only [Ev.run,Option.some.injEq,Prod.mk.injEq] at h
  obtain ⟨_,rfl⟩:=h
  have hl':=bnd_rep hR hl
  have hh':=bnd_rep hR hh
  cases hx':a.eval x<;>rw [hx'] at hx<;>try (cases hx;done)
  cases hx with
  |pt _ b p vals hS hw hr=>
  have hb:=run_boundsF (P:=P) (w:=w) (len:=n) (cap:=n) hl' hh' (Int.le_refl 0) h0 h1
  have hrun:(execOp a.eval o).run P w=.ok (.value (.slice (some ⟨b,p,none⟩) m.toNat n)) w:=by
   simp only [execOp,hop,Option.map_none,Instr.sliceAt,Sem.run_bind,run_underlying hu,Result.andThen_ok,Instr.sureAddr,hx',Sem.run_pure,hb,run_size w hk]
   simp [Addr.add]
  refine snd_pure hR ho hd hrun (leaf_rep ?_)
  have hlen:((ds.take m.toNat).map fun x=>[x]).length=m.toNat:=by simp;omega
  have key:∀(i:Nat) (e:List D),((ds.take m.toNat).map fun x=>[x])[i]? = some e→∃y,ds[i]? = some y∧e=[y]:=fun i e he=>by
   rw [List.getElem?_map,List.getElem?_take] at he
   split at he
   ·cases hy:ds[i]? with
    |none=>rw [hy] at he;simp at he
    |some y=>rw [hy] at he;simp at he;exact ⟨y,rfl,he.symm⟩
   ·simp at he
  have one:∀(e:List D) (y u:D) (j:Nat),e=[y]→e[j]? = some u→j=0∧u=y:=fun e y u j he hu=>by
   subst he
   cases j with
   |zero=>simp at hu;exact ⟨rfl,hu.symm⟩
   |succ j=>simp at hu
  have:=RepD.sl (S:=S) (w:=w) 1 ((ds.take m.toNat).map fun x=>[x]) b p n (fun i _=>vals i) (by rw [hlen];omega) (fun i e he=>by obtain ⟨y,_,rfl⟩:=key i e he;rfl)
   (fun i e j u he hu=>by obtain ⟨y,hy,h2⟩:=key i e he;obtain ⟨rfl,rfl⟩:=one e y u j h2 hu;simpa using hS i _ hy)
   (fun i e j u he hu=>by obtain ⟨y,hy,h2⟩:=key i e he;obtain ⟨rfl,rfl⟩:=one e y u j h2 hu;simpa using hw i _ hy)
   (fun i e j u he hu=>by obtain ⟨y,hy,h2⟩:=key i e he;obtain ⟨rfl,rfl⟩:=one e y u j h2 hu;exact hr i _ hy)
  rw [hlen] at this
  exact this
 ·rename_i ob off e0;rw [e0] at hx
  obtain ⟨ls0,b,hob,hι,hv⟩:=rep_leaf hx
  split at h
  ·simp [Ev.run] at h
  rename_i hlo
  split at h
  ·simp [Ev.run] at h
  rename_i hhi
  simp only [Ev.run,Option.some.injEq,Prod.mk.injEq] at h
  obtain ⟨_,rfl⟩:=h
  have e1:lo=none:=by cases lo<;>simp_all
  have e2:hi=none:=by cases hi<;>simp_all
  subst e1 e2
  have hb:=run_boundsF (P:=P) (w:=w) (len:=n) (cap:=n) (lo:=none) (hi:=none) (l:=0) (h:=n) (.inl ⟨rfl,rfl⟩) (.inl ⟨rfl,rfl⟩) (Int.le_refl 0) (by omega) (by omega)
  have hrun:(execOp a.eval o).run P w=.ok (.value (.slice (some ⟨b,off,none⟩) n n)) w:=by
   simp only [execOp,hop,Option.map_none,Instr.sliceAt,Sem.run_bind,run_underlying hu,Result.andThen_ok,Instr.sureAddr,hv,Sem.run_pure,hb,run_size w hk]
   simp [Addr.add]
  exact snd_pure hR ho hd hrun (leaf_rep ⟨ls0,b,n,hob,hι,rfl,rfl⟩)
 ·simp [Ev.run] at h
theorem execOp_slice {t e:TypeId}{k:Nat}{x:Operand}{lo hi:Option Operand}(hop:o.op=.slice t x lo hi none)(ht:tyEl P t=some e)(hk:tySize P e=some k)
  {p:Option Addr} {len cap:Nat} (hx:a.eval x=.slice p len cap) {l h:Int} (hlo:(lo.map a.eval=none∧l=0)∨∃k,lo.map a.eval=some (.int k l))
  (hhi:(hi.map a.eval=none∧h=len)∨∃k,hi.map a.eval=some (.int k h)) (h0:0≤l) (h1:l≤h) (h2:h≤cap) :
  (execOp a.eval o).run P w=.ok (.value (.slice (if cap=l.toNat then p else p.map (·.add (l.toNat*k))) (h.toNat-l.toNat) (cap-l.toNat))) w:=by
 simp only [execOp,hop,Option.map_none,Instr.sliceAt,Sem.run_bind,run_underlying (und_el ht),Result.andThen_ok,Instr.slice,hx,run_bounds hlo hhi h0 h1 h2,run_size w hk,Sem.run_pure]
theorem snd_slice (hR:RelC C S M ι A a w)(ho:o.dst=some d)(hd:C.can d){t:TypeId}{x:Operand}{lo hi:Option Operand}(hop:o.op=.slice t x lo hi none){acc:List Loc}{rs:List Loc}{ws:List Wr}
  (h:(opd x fun a=>opdO lo fun l=>opdO hi fun h=>evSlice P t d a l h).run A acc=some (rs,ws)):Snd P C A ws a w o:=by
 obtain ⟨_,h⟩:=run_opd h
 obtain ⟨_,h⟩:=run_opdO h
 obtain ⟨_,h⟩:=run_opdO h
 have hx:=rep_ev hR x
 unfold evSlice at h
 cases ht:tyEl P t with
 |none=>
  simp only [ht] at h
  cases hs:tyStr P t with
  |false=>rw [hs] at h;exact snd_sliceA hR ho hd hop h
  |true=>
  rw [hs] at h
  simp only [cond_true] at h
  unfold sliceS at h
  split at h
  case h_2=>simp [Ev.run] at h
  rename_i sv e;rw [e] at hx
  have hx:=raw_eq (rep_leaf hx)
  cases hl:bnd (lo.map A.ev) 0 with
  |none=>simp [hl,Ev.run] at h
  |some l=>
  cases hh:bnd (hi.map A.ev) sv.size with
  |none=>simp [hl,hh,Ev.run] at h
  |some m=>
  simp only [hl,hh] at h
  split at h
  case isFalse=>simp [Ev.run] at h
  rename_i hc
  obtain ⟨h0,h1,h2⟩:=hc
  simp only [Ev.run,Option.some.injEq,Prod.mk.injEq] at h
  obtain ⟨_,rfl⟩:=h
  have hu:P.underlying t=some .string:=by
   unfold tyStr at hs
   cases hu:P.underlying t with
   |none=>simp [hu] at hs
   |some dsc=>cases dsc<;>simp_all
  have hb:=run_boundsF (P:=P) (w:=w) (bnd_rep hR hl) (bnd_rep hR hh) h0 h1 h2
  exact snd_pure hR ho hd (v:=.string (sv.extract l.toNat m.toNat)) (by simp only [execOp,hop,Option.map_none,Instr.sliceAt,Sem.run_bind,run_underlying hu,Result.andThen_ok,Instr.slice,hx];simp [hb]) (rep_raw rfl)
 |some el=>
 cases hk:tySize P el with
 |none=>simp [ht,hk,Ev.run] at h
 |some kk=>
 simp only [ht,hk] at h
 unfold sliceV at h
 split at h
 ·rename_i k es e;rw [e] at hx
  have hx:=rep_leaf hx
  cases hl:bnd (lo.map A.ev) 0 with
  |none=>simp [hl,Ev.run] at h
  |some l=>
  cases hh:bnd (hi.map A.ev) es.length with
  |none=>simp [hl,hh,Ev.run] at h
  |some m=>
  simp only [hl,hh] at h
  split at h
  case isFalse=>simp [Ev.run] at h
  rename_i hc
  obtain ⟨h0,h1,h2,rfl,hk0⟩:=hc
  simp only [Ev.run,Option.some.injEq,Prod.mk.injEq] at h
  obtain ⟨_,rfl⟩:=h
  have hl':=bnd_rep hR hl
  have hh':=bnd_rep hR hh
  have hlen:((es.take m.toNat).drop l.toNat).length=m.toNat-l.toNat:=by simp;omega
  cases hx':a.eval x<;>rw [hx'] at hx<;>try (cases hx;done)
  rename_i p0 n0 cp
  cases hx with
  |nil _ p c=>
   simp at h2
   have:m=0:=by omega
   have:l=0:=by omega
   subst_vars
   have hh2:(hi.map a.eval=none∧(0:Int)=((0:Nat):Int))∨∃k,hi.map a.eval=some (.int k 0):=by simpa using hh'
   refine snd_pure hR ho hd (execOp_slice hop ht hk hx' hl' hh2 (by omega) (by omega) (by omega)) (leaf_rep ?_)
   have:=RepD.nil (S:=S) (w:=w) k (if cp=(0:Int).toNat then p0 else p0.map (·.add ((0:Int).toNat*k))) (cp-(0:Int).toNat)
   simpa [RepL] using this
  |sl _ _ b off c vals hcc hkl hS hw hr=>
   refine snd_pure hR ho hd (execOp_slice hop ht hk hx' hl' hh' h0 h1 (by omega)) (leaf_rep ?_)
   by_cases hz:m.toNat-l.toNat=0
   ·have:(es.take m.toNat).drop l.toNat=[]:=List.eq_nil_of_length_eq_zero (by omega)
    rw [this,hz]
    exact RepD.nil k _ _
   ·have hne:¬_=l.toNat:=(fun e=>by omega:¬cp=l.toNat)
    rw [if_neg hne,←hlen,Option.map_some,Addr.add_lit]
    have key:∀(i:Nat) (e:List D),((es.take m.toNat).drop l.toNat)[i]? = some e→es[l.toNat+i]? = some e:=fun i e he=>by
     rw [List.getElem?_drop,List.getElem?_take] at he
     split at he
     ·exact he
     ·cases he
    have hadd:∀i j,off+l.toNat*k+i*k+j=off+(l.toNat+i)*k+j:=fun i j=>by rw [Nat.add_mul];omega
    exact RepD.sl k _ b (off+l.toNat*k) _ (fun i j=>vals (l.toNat+i) j) (by rw [hlen];omega) (fun i e he=>hkl _ e (key i e he))
     (fun i e j y he hy=>by rw [hadd];exact hS _ e j y (key i e he) hy) (fun i e j y he hy=>by rw [hadd];exact hw _ e j y (key i e he) hy) (fun i e j y he hy=>hr _ e j y (key i e he) hy)
 ·rename_i e;rw [e] at hx
  have hx:=raw_eq (rep_leaf hx)
  cases hl:bnd (lo.map A.ev) 0 with
  |none=>simp [hl,Ev.run] at h
  |some l=>
  cases hh:bnd (hi.map A.ev) 0 with
  |none=>simp [hl,hh,Ev.run] at h
  |some m=>
  simp only [hl,hh] at h
  split at h
  case isFalse=>simp [Ev.run] at h
  rename_i hc
  obtain ⟨rfl,rfl⟩:=hc
  simp only [Ev.run,Option.some.injEq,Prod.mk.injEq] at h
  obtain ⟨_,rfl⟩:=h
  have hh2:(hi.map a.eval=none∧(0:Int)=((0:Nat):Int))∨∃k,hi.map a.eval=some (.int k 0):=by simpa using bnd_rep hR hh
  have hr:=execOp_slice (P:=P) (w:=w) hop ht hk hx (bnd_rep hR hl) hh2 (by omega) (by omega) (by omega)
  simp at hr
  exact snd_pure hR ho hd hr (rep_raw rfl)
 ·rename_i ob off len tot e;rw [e] at hx
  obtain ⟨h1,e',k,es,hob,htl,hval⟩:=rep_leaf hx
  simp only [Ev.run,hob] at h
  cases hl:bnd (lo.map A.ev) 0 with
  |none=>simp [hl,Ev.run] at h
  |some l=>
  cases hh:bnd (hi.map A.ev) len with
  |none=>simp [hl,hh,Ev.run] at h
  |some m=>
  simp only [hl,hh] at h
  split at h
  case isFalse=>simp [Ev.run] at h
  rename_i hc
  obtain ⟨h0,h1,h2,htot,rfl⟩:=hc
  simp only [Ev.run,Option.some.injEq,Prod.mk.injEq] at h
  obtain ⟨_,rfl⟩:=h
  obtain ⟨xs,hown,_⟩:=hR.objs ob _ hob
  obtain ⟨hol,hval⟩:=hval htot
  have hl':=bnd_rep hR hl
  have hh':=bnd_rep hR hh
  obtain ⟨htip,p,c,hv,hcl,hp⟩:=hval
  have hmc:m≤c:=by
   by_cases h3:off<tot
   ·obtain ⟨_,c0,_,_,h4,rfl⟩:=hp h3
    omega
   ·omega
  refine snd_pure hR ho hd (execOp_slice hop ht hk hv hl' hh' h0 h1 hmc) (leaf_rep ⟨rfl,e',k,es,hob,htl,fun _=>⟨by omega,?_,_,_,rfl,by omega,?_⟩⟩)
  ·intro e1 e2
   have z1:l.toNat=0:=by omega
   have z2:off=0:=by omega
   have z3:m.toNat=tot:=by omega
   have z4:(if c=0 then p else p.map (·.add (0*k)))=p:=by
    split
    ·rfl
    ·cases p<;>simp [Addr.add]
   by_cases z5:off<tot
   ·obtain ⟨b,c0,hτ,rfl,_,hc0⟩:=hp z5
    rw [hτ,z1,z3,z4,z2]
    subst z2
    simp [hc0]
   ·rw [←htip z2 (by omega),hv,z1,z3,z4]
    have:len=tot:=by omega
    rw [this];rfl
  ·intro h3
   obtain ⟨b,c0,hτ,rfl,hc0,rfl⟩:=hp (by omega)
   refine ⟨b,c0,hτ,?_,hc0,by omega⟩
   rw [if_neg (by omega),Option.map_some,Addr.add_lit,Nat.add_mul]
 ·simp [Ev.run] at h
theorem tyArr_some {t:TypeId}{n k:Nat}(h:tyArr P t=some (n,k)):∃e,P.underlying t=some (.array n e)∧tySize P e=some k:=by
 unfold tyArr at h
 cases hu:P.underlying t with
 |none=>simp [hu] at h
 |some dsc=>
  cases dsc<;>simp only [hu,reduceCtorEq] at h
  rename_i m e
  cases hs:tySize P e with
  |none=>simp [hs] at h
  |some q=>
   simp only [hs,Option.some.injEq,Prod.mk.injEq] at h
   obtain ⟨rfl,rfl⟩:=h
   exact ⟨e,rfl,hs⟩
theorem run_idx_slice {t e:TypeId}{k:Nat}(ht:tyEl P t=some e)(hk:tySize P e=some k){b p:Nat}{len c:Nat}{kk:IntKind}{i:Int}(h0:0≤i)(h1:i<len) :
  (Instr.indexAt t (.slice (some ⟨b,p,none⟩) len c) (.int kk i)).run P w=.ok (.pointer (some ⟨b,p+i.toNat*k,none⟩)) w:=by
 simp [Instr.indexAt,asIntOf,run_underlying (und_el ht),h0,h1,run_size w hk,Addr.add_lit]
theorem snd_indexAddr (hR:RelC C S M ι A a w)(ho:o.dst=some d)(hd:C.can d){t:TypeId}{x ix:Operand}(hop:o.op=.indexAddr t x ix){acc:List Loc}{rs:List Loc}{ws:List Wr}
  (h:(opd x fun a=>opd ix fun b=>evIndexAddr P t d a b).run A acc=some (rs,ws)):Snd P C A ws a w o:=by
 obtain ⟨_,h⟩:=run_opd h
 obtain ⟨_,h⟩:=run_opd h
 have hx:=rep_ev hR x
 unfold evIndexAddr at h
 cases hi:asInt (A.ev ix) with
 |none=>simp [hi,Ev.run] at h
 |some q=>
 obtain ⟨ki,i⟩:=q
 have hix:=asInt_rep hi (rep_ev hR ix)
 simp only [hi] at h
 cases ht:tyEl P t with
 |none=>
  cases ha:tyArr P t with
  |none=>simp [ht,ha,Ev.run] at h
  |some q=>
  obtain ⟨n,k⟩:=q
  obtain ⟨e0,hu,hk⟩:=tyArr_some ha
  simp only [ht,ha] at h
  unfold idxArr at h
  split at h
  ·rename_i ob off e;rw [e] at hx
   obtain ⟨ls0,b,hob,hι,hv⟩:=rep_leaf hx
   split at h
   case isFalse=>simp [Ev.run] at h
   rename_i hc
   simp only [Ev.run,Option.some.injEq,Prod.mk.injEq] at h
   obtain ⟨_,rfl⟩:=h
   refine snd_pure hR ho hd (v:=.pointer (some ⟨b,off+i.toNat*k,none⟩)) ?_ (leaf_rep ⟨ls0,b,hob,hι,rfl⟩)
   simp [execOp,hop,hv,hix,Instr.indexAt,asIntOf,run_underlying hu,Instr.sureAddr,hc.1,hc.2.1,run_size w hk,Addr.add_lit]
  ·rename_i ds e;rw [e] at hx
   have hx:=rep_leaf hx
   split at h
   case isFalse=>simp [Ev.run] at h
   rename_i hc
   obtain ⟨hc,hle⟩:=hc
   simp only [Ev.run,Option.some.injEq,Prod.mk.injEq] at h
   obtain ⟨_,rfl⟩:=h
   cases hx':a.eval x<;>rw [hx'] at hx<;>try (cases hx;done)
   cases hx with
   |pt _ b p vals hS hw hr=>
   have key:∀(j:Nat) (y:D),((ds.drop (i.toNat*k)).take k)[j]? = some y→ds[i.toNat*k+j]? = some y:=fun j y hy=>by
    rw [List.getElem?_take] at hy
    split at hy
    ·rwa [List.getElem?_drop] at hy
    ·cases hy
   refine snd_pure hR ho hd (v:=.pointer (some ⟨b,p+i.toNat*k,none⟩)) ?_ (leaf_rep (RepD.pt _ b (p+i.toNat*k) (fun j=>vals (i.toNat*k+j)) (fun j y hy=>by have:=hS _ _ (key j y hy);rwa [←Nat.add_assoc] at this)
    (fun j y hy=>by have:=hw _ _ (key j y hy);rwa [←Nat.add_assoc] at this) (fun j y hy=>hr _ _ (key j y hy))))
   simp [execOp,hop,hx',hix,Instr.indexAt,asIntOf,run_underlying hu,Instr.sureAddr,hc.1,hc.2.1,run_size w hk,Addr.add_lit]
  ·simp [Ev.run] at h
 |some el=>
 cases hk:tySize P el with
 |none=>simp [ht,hk,Ev.run] at h
 |some kk=>
 simp only [ht,hk] at h
 unfold idxSl at h
 split at h
 ·rename_i k es e;rw [e] at hx
  have hx:=rep_leaf hx
  cases hei:es[i.toNat]? with
  |none=>simp [hei,Ev.run] at h
  |some y=>
  simp only [hei] at h
  split at h
  case isFalse=>simp [Ev.run] at h
  rename_i hc
  obtain ⟨h0,rfl,_⟩:=hc
  simp only [Ev.run,Option.some.injEq,Prod.mk.injEq] at h
  obtain ⟨_,rfl⟩:=h
  have hil:i.toNat<es.length:=(List.getElem?_eq_some_iff.1 hei).1
  cases hx':a.eval x<;>rw [hx'] at hx<;>try (cases hx;done)
  rename_i p0 n0 cp
  cases hx with
  |nil=>simp at hil
  |sl _ _ b off cc vals hcc hkl hS hw hr=>
   refine snd_pure hR ho hd (v:=.pointer (some ⟨b,off+i.toNat*k,none⟩)) ?_ (leaf_rep (RepD.pt y b _ (vals i.toNat) (fun j z hz=>hS _ _ _ _ hei hz) (fun j z hz=>hw _ _ _ _ hei hz) (fun j z hz=>hr _ _ _ _ hei hz)))
   have e:=run_idx_slice (P:=P) (w:=w) ht hk (b:=b) (p:=off) (len:=es.length) (c:=cp) (kk:=ki) h0 (by omega)
   simp only [execOp,hop,hx',hix,Sem.run_bind,e,Result.andThen_ok,Sem.run_pure]
 ·rename_i ob off len tot e;rw [e] at hx
  obtain ⟨h1,e',k,es,hob,htl,hval⟩:=rep_leaf hx
  simp only [Ev.run,hob] at h
  split at h
  case isFalse=>simp [Ev.run] at h
  rename_i hc
  obtain ⟨h0,hil,rfl,htot⟩:=hc
  simp only [Ev.run,Option.some.injEq,Prod.mk.injEq] at h
  obtain ⟨_,rfl⟩:=h
  obtain ⟨xs,hown,_⟩:=hR.objs ob _ hob
  obtain ⟨hol,hval⟩:=hval htot
  obtain ⟨_,p,c,hv,hcl,hp⟩:=hval
  obtain ⟨b,c0,hτ,rfl,_⟩:=hp (by omega)
  refine snd_pure hR ho hd (v:=.pointer (some ⟨b,off*k+i.toNat*k,none⟩)) ?_ (leaf_rep ⟨rfl,e',k,es,hob,htl,fun _=>⟨by omega,Nat.zero_le _,b,c0,hτ,?_⟩⟩)
  ·have e:=run_idx_slice (P:=P) (w:=w) ht hk (b:=b) (p:=off*k) (len:=len) (c:=c) (kk:=ki) h0 hil
   simp only [execOp,hop,hv,hix,Sem.run_bind,e,Result.andThen_ok,Sem.run_pure]
  ·simp [Nat.add_mul]
 ·rename_i ob off len e;rw [e] at hx
  obtain ⟨ls0,b,c,hob,hι,hv,hlc⟩:=rep_leaf hx
  split at h
  case isFalse=>simp [Ev.run] at h
  rename_i hc
  simp only [Ev.run,Option.some.injEq,Prod.mk.injEq] at h
  obtain ⟨_,rfl⟩:=h
  refine snd_pure hR ho hd (v:=.pointer (some ⟨b,off+i.toNat*kk,none⟩)) ?_ (leaf_rep ⟨ls0,b,hob,hι,rfl⟩)
  have e:=run_idx_slice (P:=P) (w:=w) ht hk (b:=b) (p:=off) (len:=len) (c:=c) (kk:=ki) hc.1 hc.2
  simp only [execOp,hop,hv,hix,Sem.run_bind,e,Result.andThen_ok,Sem.run_pure]
 ·simp [Ev.run] at h
theorem pures_rep {H:Nat→Option AO}:∀ {ls:List AL} {ds:List D} {vs:List Value},pures ls=some ds→All2 (RepL S ι H w) ls vs→All2 (RepD S w) ds vs
 |[],ds,vs,h,hr=>by
  simp [pures] at h;subst h
  cases vs with
  |nil=>trivial
  |cons _ _=>exact hr.elim
 |.d x::r,ds,vs,h,hr=>by
  cases hp:pures r with
  |none=>simp [pures,hp] at h
  |some es=>
   simp [pures,hp] at h;subst h
   cases vs with
   |nil=>exact hr.elim
   |cons v vs=>exact ⟨hr.1,pures_rep hp hr.2⟩
 |.ptr _ _::_,_,_,h,_=>by simp [pures] at h
 |.eptr _ _ _ _::_,_,_,h,_=>by simp [pures] at h
 |.own _ _ _ _::_,_,_,h,_=>by simp [pures] at h
 |.fpt _::_,_,_,h,_=>by simp [pures] at h
 |.csl _ _ _::_,_,_,h,_=>by simp [pures] at h
 |.dead::_,_,_,h,_=>by simp [pures] at h
theorem snd_ifc (hR:RelC C S M ι A a w)(ho:o.dst=some d)(hd:C.can d){t:TypeId}{x:Operand}(hop:o.op=.makeInterface t x){acc:List Loc}{rs:List Loc}{ws:List Wr}
  (h:(opd x fun a=>evIfc P t d a).run A acc=some (rs,ws)):Snd P C A ws a w o:=by
 obtain ⟨_,h⟩:=run_opd h
 have hx:=rep_ev hR x
 unfold evIfc at h
 split at h
 ·rename_i ag ls e;rw [e] at hx
  cases hp:pures ls with
  |none=>simp [hp,Ev.run] at h
  |some ds=>
  simp only [hp] at h
  split at h
  case isFalse=>simp [Ev.run] at h
  rename_i hc
  simp only [Ev.run,Option.some.injEq,Prod.mk.injEq] at h
  obtain ⟨_,rfl⟩:=h
  refine snd_pure hR ho hd (v:=.iface t (a.eval x)) (by simp [execOp,hop,run_makeInterface w t (a.eval x) hc]) (leaf_rep ?_)
  cases ag with
  |true=>
   obtain ⟨vs,hv,hall⟩:=hx
   have hall:=pures_rep hp hall
   rw [hv]
   exact RepD.ifa t ds vs hall.length.symm fun j y v h1 h2=>hall.get h1 h2
  |false=>
   obtain ⟨l,rfl,hl⟩:=hx
   cases l with
   |d y=>simp [pures] at hp;subst hp;exact RepD.ifc t y _ hl
   |_=>simp [pures] at hp
 ·simp [Ev.run] at h
 ·simp [Ev.run] at h
 ·simp [Ev.run] at h
theorem leafs_rep {H:Nat→Option AO}:∀ {xs:List AV} {ds:List D} {vs:List Value},leafs xs=some ds→All2 (RepV S ι H w) xs vs→All2 (RepD S w) ds vs
 |[],ds,vs,h,hr=>by
  simp [leafs] at h;subst h
  cases vs with
  |nil=>trivial
  |cons _ _=>exact hr.elim
 |x::r,ds,vs,h,hr=>by
  unfold leafs at h
  split at h
  ·rename_i e;simp at e
  ·rename_i y r' e
   simp only [List.cons.injEq] at e
   obtain ⟨rfl,rfl⟩:=e
   cases hp:leafs r with
   |none=>simp [hp] at h
   |some es=>
    simp [hp] at h;subst h
    cases vs with
    |nil=>exact hr.elim
    |cons v vs=>exact ⟨rep_leaf hr.1,leafs_rep hp hr.2⟩
  ·cases h
theorem leafsA_rep {H:Nat→Option AO}:∀ {xs:List AV} {ds:List AL} {vs:List Value},leafsA xs=some ds→All2 (RepV S ι H w) xs vs→All2 (RepL S ι H w) ds vs
 |[],ds,vs,h,hr=>by
  simp [leafsA] at h;subst h
  cases vs with
  |nil=>trivial
  |cons _ _=>exact hr.elim
 |x::r,ds,vs,h,hr=>by
  unfold leafsA at h
  split at h
  ·rename_i e;simp at e
  ·rename_i y r' e
   simp only [List.cons.injEq] at e
   obtain ⟨rfl,rfl⟩:=e
   cases hp:leafsA r with
   |none=>simp [hp] at h
   |some es=>
    simp [hp] at h;subst h
    cases vs with
    |nil=>exact hr.elim
    |cons v vs=>exact ⟨rep_leaf hr.1,leafsA_rep hp hr.2⟩
  ·cases h
end ops
end Go.Mw
namespace Go.Mw
open Go.RowKit
section ops
variable {P:Program} {C:Ctx P} {S:Settled} {M:Blocks} {ι:Nat→Value} {A:ASt} {a:Act} {w:World} {o:Oper} {d:Nat}
theorem run_part_leaf {t:TypeId}(hag:tyAg P t=some false){cs:Array Value}{off:Nat}{v:Value}(h:cs[off]? = some v):(part t cs off).run P w=.ok v w:=by
 simp [part,run_ag w hag,h]
theorem run_eqFields {dp:Nat}{H:Nat→Option AO}{xs ys:List Value}:∀(fs:List Field) (i:Nat) (ls ms:List AL) (b:Bool),
  (∀p∈fs.zipIdx i,p.1.name ≠ "_" ∧ p.1.offset=p.2∧∃k,P.underlying p.1.type=some (.int k)) →
  All2 (RepL S ι H w) ls (xs.drop i)→All2 (RepL S ι H w) ms (ys.drop i)→eqInts ls ms=some b→ls.length=fs.length →
  (Op.eqFields (dp+1) xs.toArray ys.toArray fs).run P w=.ok b w
 |[],i,ls,ms,b,_,_,_,he,hl=>by
  have:ls=[]:=List.eq_nil_of_length_eq_zero V211
  subst this
  cases ms with
  |nil=>simp [eqInts] at he;subst he;simp [Op.eqFields]
  |cons _ _=>simp [eqInts] at he
 |f::fs,i,[],ms,b,_,_,_,he,hl=>by simp at hl
 |f::fs,i,l::ls,ms,b,hf,hx,hy,he,hl=>by
  obtain ⟨hn,ho,k0,hu⟩:=hf (f,i) (by simp [List.zipIdx_cons])
  have ho:f.offset=i:=ho
  have hn:f.name ≠ "_" :=hn
  unfold eqInts at he
  split at he
  ·rename_i h1;cases h1
  ·rename_i k a r k' b' s e1
   obtain ⟨rfl,rfl⟩:=List.cons.inj e1
   split at he
   case isFalse=>cases he
   rename_i hk
   subst hk
   cases hr:eqInts ls s with
   |none=>simp [hr] at he
   |some q=>
   simp only [hr,Option.some.injEq] at he
   subst he
   have hx0:∃v,xs[i]? = some v∧RepL S ι H w (.d (.raw (.int k a))) v:=by
    obtain ⟨v,hv,h⟩:=hx.get' (i:=0) rfl
    exact ⟨v,by simpa using hv,h⟩
   have hy0:∃v,ys[i]? = some v∧RepL S ι H w (.d (.raw (.int k b'))) v:=by
    obtain ⟨v,hv,h⟩:=hy.get' (i:=0) rfl
    exact ⟨v,by simpa using hv,h⟩
   obtain ⟨u,hu1,hu2⟩:=hx0
   obtain ⟨v,hv1,hv2⟩:=hy0
   have e1:=raw_eq hu2
   have e2:=raw_eq hv2
   subst e1 e2
   have hag:tyAg P f.type=some false:=by simp [tyAg,hu]
   have hp1:=run_part_leaf (P:=P) (w:=w) (off:=i) (cs:=xs.toArray) hag (by simpa using hu1)
   have hp2:=run_part_leaf (P:=P) (w:=w) (off:=i) (cs:=ys.toArray) hag (by simpa using hv1)
   have heq:=run_equalIn_int (P:=P) w dp f.type k k0 a b' hu
   have hrest:=run_eqFields (dp:=dp) (H:=H) fs (i+1) ls s q (fun p hp=>hf p (by simp [List.zipIdx_cons,hp])) (by simpa [List.drop_drop,Nat.add_comm] using hx.drop 1) (by simpa [List.drop_drop,Nat.add_comm] using hy.drop 1) hr V211
   simp only [Op.eqFields,if_pos hn,Sem.run_bind,ho,hp1,hp2,heq,Result.andThen_ok]
   cases hab:(a==b')
   ·simp
   ·simpa using hrest
  ·cases he
theorem tyInts_some {t:TypeId}{n:Nat}(h:tyInts P t=some n):P.underlying t=some (.struct (P.fieldsOf t))∧P.stoodInHeld t=false∧P.eqGuardType P.depth t=false∧(P.fieldsOf t).size=n ∧
  ∀p∈(P.fieldsOf t).toList.zipIdx 0,p.1.name ≠ "_" ∧ p.1.offset=p.2∧∃k,P.underlying p.1.type=some (.int k):=by
 unfold tyInts at h
 unfold Program.fieldsOf
 cases hu:P.underlying t with
 |none=>simp [hu] at h
 |some dsc=>
  cases dsc<;>simp only [hu,reduceCtorEq] at h
  rename_i fs
  split at h
  case isFalse=>cases h
  rename_i hc
  simp only [Bool.and_eq_true,Bool.not_eq_true'] at hc
  obtain ⟨⟨hc,hst⟩,hg⟩:=hc
  simp only [Option.some.injEq] at h
  refine ⟨rfl,hst,hg,h,?_⟩
  intro p hp
  have:=List.all_eq_true.1 hc p hp
  simp only [Bool.and_eq_true,bne_iff_ne,beq_iff_eq] at this
  obtain ⟨⟨⟨h1,h2⟩,h3⟩,h4⟩:=this
  refine ⟨h1,h2,?_⟩
  cases hk:tyInt P p.1.type with
  |none=>simp [hk] at h3
  |some k=>exact ⟨k,und_int hk⟩
theorem run_eqNil (n:Nat){t e:TypeId}(hu:P.underlying t=some (.pointer e))(p:Option Addr):(Op.equalIn (n+1) t (.pointer p) (.pointer none)).run P w=.ok p.isNone w:=by
 cases p<;>simp [Op.equalIn,run_underlying hu]
theorem snd_isNil (hR:RelC C S M ι A a w)(ho:o.dst=some d)(hd:C.can d){op:BinOp}{t t':TypeId}{x y:Operand}(hop:o.op=.binOp op t x y t'){acc:List Loc}{rs:List Loc}{ws:List Wr}
  (hp:tyPtr P t=true) (hy:a.eval y=.pointer none) (h:(isNil op d (A.ev x)).run A acc=some (rs,ws)):Snd P C A ws a w o:=by
 have hx:=rep_ev hR x
 obtain ⟨e,hu⟩:∃e,P.underlying t=some (.pointer e):=by
  unfold tyPtr at hp
  split at hp
  ·rename_i e he;exact ⟨e,he⟩
  ·cases hp
 have key:∀(p:Option Addr) (b:Bool) (acc:List Loc),a.eval x=.pointer p→p.isNone=b→(nilOp op d b).run A acc=some (rs,ws)→Snd P C A ws a w o:=by
  intro p b acc hv hpb hn
  have heq:(Op.equal t (.pointer p) (.pointer none)).run P w=.ok b w:=by
   subst hpb
   exact run_eqNil 9999 hu p
  unfold nilOp at hn
  split at hn<;>simp only [Ev.run,Option.some.injEq,Prod.mk.injEq,reduceCtorEq] at hn
  ·obtain ⟨_,rfl⟩:=hn
   exact snd_pure hR ho hd (v:=.bool b) (by simp [execOp,hop,hv,hy,eqGuard_at_pointer,Go.binOp,heq]) (rep_raw rfl)
  ·obtain ⟨_,rfl⟩:=hn
   exact snd_pure hR ho hd (v:=.bool (!b)) (by simp [execOp,hop,hv,hy,eqGuard_at_pointer,Go.binOp,heq]) (rep_raw rfl)
 unfold isNil at h
 split at h
 ·rename_i e1;rw [e1] at hx
  exact key none true _ (raw_eq (rep_leaf hx)) rfl h
 ·rename_i ds e1;rw [e1] at hx
  have hx1:=rep_leaf hx
  cases hx':a.eval x<;>rw [hx'] at hx1<;>try (cases hx1;done)
  cases hx1 with
  |pt _ b p vals hS hw hr=>exact key _ false _ hx' rfl h
 ·rename_i ob i e1;rw [e1] at hx
  obtain ⟨ls0,b,hob,hι,hv⟩:=rep_leaf hx
  exact key _ false _ hv rfl h
 ·rename_i fs e1;rw [e1] at hx
  obtain ⟨b,p,hv,hf⟩:=rep_leaf hx
  exact key _ false _ hv rfl h
 ·rename_i ob i j tot e1;rw [e1] at hx
  obtain ⟨_,e',k,es,hob,htl,hval⟩:=rep_leaf hx
  simp only [Ev.run,hob] at h
  split at h
  case isFalse=>simp [Ev.run] at h
  rename_i hc
  obtain ⟨hi,hj,b,c,hι,hv⟩:=hval hc
  exact key _ false _ hv rfl h
 ·simp [Ev.run] at h
theorem snd_bin (hR:RelC C S M ι A a w)(ho:o.dst=some d)(hd:C.can d){op:BinOp}{t t':TypeId}{x y:Operand}(hop:o.op=.binOp op t x y t'){acc:List Loc}{rs:List Loc}{ws:List Wr}
  (h:(opd x fun a=>opd y fun b=>binEv P op t d a b).run A acc=some (rs,ws)):Snd P C A ws a w o:=by
 obtain ⟨_,h⟩:=run_opd h
 obtain ⟨_,h⟩:=run_opd h
 have hx:=rep_ev hR x
 have hy:=rep_ev hR y
 unfold binEv at h
 split at h
 ·rename_i m n e1 e2
  rw [e1] at hx;rw [e2] at hy
  have hx:=raw_eq (rep_leaf hx)
  have hy:=raw_eq (rep_leaf hy)
  unfold strBin at h
  split at h
  ·split at h
   case isFalse=>simp [Ev.run] at h
   rename_i hs
   simp only [Ev.run,Option.some.injEq,Prod.mk.injEq] at h
   obtain ⟨_,rfl⟩:=h
   have hi:¬(((m.size+n.size:Nat):Int)>IntKind.i64.max):=by show ¬(_>(9223372036854775807:Int));omega
   exact snd_pure hR ho hd (v:=.string (m++n)) (by simp only [execOp,hop,hx,hy,eqGuard,Go.binOp,Op.stringOp,if_neg hi];simp) (rep_raw rfl)
  ·simp only [Ev.run,Option.some.injEq,Prod.mk.injEq] at h
   obtain ⟨_,rfl⟩:=h
   exact snd_pure hR ho hd (v:=.bool (m.toList==n.toList)) (by simp [execOp,hop,hx,hy,eqGuard,Go.binOp,Op.stringOp]) (rep_raw rfl)
  ·simp only [Ev.run,Option.some.injEq,Prod.mk.injEq] at h
   obtain ⟨_,rfl⟩:=h
   exact snd_pure hR ho hd (v:=.bool (!(m.toList==n.toList))) (by simp [execOp,hop,hx,hy,eqGuard,Go.binOp,Op.stringOp]) (rep_raw rfl)
  ·simp [Ev.run] at h
 ·rename_i k m k' n e1 e2
  rw [e1] at hx;rw [e2] at hy
  have hx:=raw_eq (rep_leaf hx)
  have hy:=raw_eq (rep_leaf hy)
  split at h
  case isFalse hkk=>
   split at h
   case isFalse=>simp [Ev.run] at h
   rename_i hs
   cases hb:binInt op k m n with
   |none=>simp [hb,Ev.run] at h
   |some v=>
   simp only [hb,Ev.run,Option.some.injEq,Prod.mk.injEq] at h
   obtain ⟨_,rfl⟩:=h
   exact snd_pure hR ho hd (v:=v) (by simp [execOp,hop,hx,hy,eqGuard_at_int,run_binSh hs hb]) (rep_raw (binInt_one hb))
  rename_i hk
  subst hk
  cases hb:binInt op k m n with
  |none=>simp [hb,Ev.run] at h
  |some v=>
  simp only [hb,Ev.run,Option.some.injEq,Prod.mk.injEq] at h
  obtain ⟨_,rfl⟩:=h
  exact snd_pure hR ho hd (v:=v) (by simp [execOp,hop,hx,hy,eqGuard_at_int,run_binInt hb]) (rep_raw (binInt_one hb))
 ·rename_i m n e1 e2
  rw [e1] at hx;rw [e2] at hy
  have hx:=raw_eq (rep_leaf hx)
  have hy:=raw_eq (rep_leaf hy)
  split at h
  case isFalse=>simp [Ev.run] at h
  rename_i ht
  have hu:P.underlying t=some .bool:=by
   unfold tyBool at ht
   cases hu:P.underlying t with
   |none=>simp [hu] at ht
   |some dsc=>cases dsc<;>simp_all
  have heq:(Op.equal t (.bool m) (.bool n)).run P w=.ok (m==n) w:=run_equalIn_bool w 9999 t m n hu
  split at h<;>simp only [Ev.run,Option.some.injEq,Prod.mk.injEq,reduceCtorEq] at h
  ·obtain ⟨_,rfl⟩:=h
   exact snd_pure hR ho hd (v:=.bool (m==n)) (by simp [execOp,hop,hx,hy,eqGuard_at_bool,Go.binOp,heq]) (rep_raw rfl)
  ·obtain ⟨_,rfl⟩:=h
   exact snd_pure hR ho hd (v:=.bool (!(m==n))) (by simp [execOp,hop,hx,hy,eqGuard_at_bool,Go.binOp,heq]) (rep_raw rfl)
 ·rename_i ls ms e1 e2
  rw [e1] at hx;rw [e2] at hy
  obtain ⟨xs,hx,hxs⟩:=hx
  obtain ⟨ys,hy,hys⟩:=hy
  cases ht:tyInts P t with
  |none=>simp [ht,Ev.run] at h
  |some n=>
  cases he:eqInts ls ms with
  |none=>simp [ht,he,Ev.run] at h
  |some b=>
  simp only [ht,he] at h
  split at h
  case isFalse=>simp [Ev.run] at h
  rename_i hl
  obtain ⟨hu,hst,hg,hsz,hf⟩:=tyInts_some ht
  have hflds:=run_eqFields (P:=P) (S:=S) (ι:=ι) (w:=w) (dp:=9998) (H:=A.obj) (xs:=xs) (ys:=ys) (P.fieldsOf t).toList 0 ls ms b hf (by simpa using hxs) (by simpa using hys) he (by rw [hl,←hsz];simp)
  have heq:=(run_equalIn_agg (P:=P) w 9999 t xs.toArray ys.toArray hu hst).trans hflds
  have hgu:=run_eqGuard_agg (P:=P) w op t x y xs.toArray ys.toArray hg
  split at h<;>simp only [Ev.run,Option.some.injEq,Prod.mk.injEq,reduceCtorEq] at h
  ·obtain ⟨_,rfl⟩:=h
   exact snd_pure hR ho hd (v:=.bool b) (by simp only [execOp,hop,hx,hy,Sem.run_bind,hgu,Result.andThen_ok,run_eql_struct,heq,Sem.run_pure]) (rep_raw rfl)
  ·obtain ⟨_,rfl⟩:=h
   exact snd_pure hR ho hd (v:=.bool (!b)) (by simp only [execOp,hop,hx,hy,Sem.run_bind,hgu,Result.andThen_ok,run_neq_struct,heq,Sem.run_pure]) (rep_raw rfl)
 ·unfold nilEv at h
  split at h
  ·rename_i ey
   rw [ey] at hy
   split at h
   case isFalse=>simp [Ev.run] at h
   rename_i hp
   exact snd_isNil hR ho hd hop hp (raw_eq (rep_leaf hy)) h
  ·simp [Ev.run] at h
theorem all2_splice {α β:Type}{R:α→β→Prop}{l:List α}{m:List β}{xs:List α}{ys:List β}(h:All2 R l m)(off:Nat)(h':All2 R xs ys):All2 R (splice l off xs) (splice m off ys):=by
 unfold splice
 rw [h'.length]
 exact ((h.take off).append h').append (h.drop _)
theorem fold_splice (off:Nat)(l:List Value)(cs:Array Value)(h:off+l.length≤cs.size) :
  ((l.zipIdx 0).foldl (fun cs (x:Value × Nat)=>cs.setIfInBounds (off+x.2) x.1) cs).toList=splice cs.toList off l:=by
 obtain ⟨h1,h2⟩:=Great.foldl_set off l 0 cs
 apply List.ext_getElem?
 intro k
 rw [Array.getElem?_toList,h2 k]
 unfold splice
 simp only [Nat.add_zero]
 by_cases ha:k<off
 ·rw [if_neg (by omega),List.append_assoc,List.getElem?_append_left V214,List.getElem?_take,if_pos ha]
  simp
 ·by_cases hb:k<off+l.length
  ·rw [if_pos (by omega),List.append_assoc,List.getElem?_append_right V214,List.getElem?_append_left V214]
   congr 1
   simp;omega
  ·rw [if_neg (by omega),List.getElem?_append_right V214,List.getElem?_drop]
   simp only [List.length_append,List.length_take,Array.length_toList,Array.getElem?_toList]
   congr 1
   omega
theorem fill_flds {H:Nat→Option AO}{pl:List (Nat × Nat)}:∀ {parts:List (Nat × AV)} {vs:List (Nat × Value)} {ls ms:List AL} {zs:Array Value},
  fillFlds pl parts ls=some ms→All2 (fun p q=>p.1=q.1∧RepV S ι H w p.2 q.2) parts vs→All2 (RepL S ι H w) ls zs.toList →
  ∃cs,(∀place:Nat→Option (Nat × Nat),(∀(i:Nat) (p:Nat × Nat),pl[i]? = some p→place i=some p)→Instr.fill place zs vs=some cs)∧All2 (RepL S ι H w) ms cs.toList
 |[],[],ls,ms,zs,h,_,hz=>by simp [fillFlds] at h;subst h;exact ⟨zs,fun _ _=>rfl,hz⟩
 |[],_::_,_,_,_,_,h,_=>h.elim
 |_::_,[],_,_,_,_,h,_=>h.elim
 |(i,.val ag xs)::parts,(j,v)::vs,ls,ms,zs,h,hv,hz=>by
  obtain ⟨⟨rfl,hv1⟩,hv2⟩:=hv
  simp only [fillFlds] at h
  cases hp:pl[i]? with
  |none=>simp [hp] at h
  |some q=>
  obtain ⟨off,n⟩:=q
  simp only [hp] at h
  split at h
  case isFalse=>cases h
  rename_i hc
  have hcs:=RepC.cells S ι H w hv1
  have hlx:=hcs.length
  have hlz:=hz.length
  have hfold:=fold_splice off v.cells.toList zs (by simp at hlz ⊢;simp at hlx;omega)
  have hz':All2 (RepL S ι H w) (splice ls off xs) ((v.cells.toList.zipIdx 0).foldl (fun cs (x:Value × Nat)=>cs.setIfInBounds (off+x.2) x.1) zs).toList:=by
   rw [hfold];exact all2_splice hz off hcs
  obtain ⟨cs,hf,hm⟩:=fill_flds h hv2 hz'
  refine ⟨cs,fun place hpl=>?_,hm⟩
  have:=hf place hpl
  unfold Instr.fill
  simp only [hpl i _ hp]
  rw [if_neg (by simp at hlx hlz ⊢;omega)]
  rw [←this]
  congr 1
  rw [←Array.foldl_toList,Array.toList_zipIdx]
 |(_,.tup _)::_,_::_,_,_,_,h,_,_=>by simp [fillFlds] at h
 |(_,.cnd _ _)::_,_::_,_,_,_,h,_,_=>by simp [fillFlds] at h
 |(_,.dead)::_,_::_,_,_,_,h,_,_=>by simp [fillFlds] at h
theorem zeroLs_some {t:TypeId}{ag:Bool}{ds:List D}(h:zeroLs P t=some (ag,ds)):∃i z,P.info? t=some i∧i.zero=some z∧(ag=true→∃cs,z=.agg cs) ∧
  ds=z.cells.toList.map .raw∧z.cells.toList.all (·.oneCell')=true:=by
 unfold zeroLs tyZero at h
 cases hi:P.info? t with
 |none=>simp [hi] at h
 |some i=>
 cases hz:i.zero with
 |none=>simp [hi,hz] at h
 |some z=>
 simp only [hi,hz,Option.bind_some] at h
 refine ⟨i,z,rfl,hz,?_⟩
 split at h
 ·rename_i cs e
  simp only [Option.some.injEq] at e;subst e
  split at h
  case isFalse=>cases h
  rename_i hc
  simp only [Option.some.injEq,Prod.mk.injEq] at h
  obtain ⟨rfl,rfl⟩:=h
  exact ⟨fun _=>⟨cs,rfl⟩,rfl,hc⟩
 ·rename_i v hna e
  simp only [Option.some.injEq] at e;subst e
  split at h
  case isFalse=>cases h
  rename_i hc
  simp only [Option.some.injEq,Prod.mk.injEq] at h
  obtain ⟨rfl,rfl⟩:=h
  have:z.cells=#[z]:=by cases z<;>simp_all [Value.cells,Value.oneCell']
  exact ⟨(fun h=>by cases h),by simp [this],by simp [this,hc]⟩
 ·cases h
theorem all2_zip {H:Nat→Option AO}{is:List Nat}{xs:List AV}{vs:List Value}(h:All2 (RepV S ι H w) xs vs):All2 (fun p q=>p.1=q.1∧RepV S ι H w p.2 q.2) (is.zip xs) (is.zip vs):=by
 induction is generalizing xs vs with
 |nil=>simp [All2]
 |cons i is ih=>
  cases xs with
  |nil=>cases vs with
   |nil=>simp [All2]
   |cons _ _=>exact h.elim
  |cons x xs=>cases vs with
   |nil=>exact h.elim
   |cons v vs=>exact ⟨⟨rfl,h.1⟩,ih h.2⟩
theorem zip_map {ps:List (Nat × Operand)}(f:Operand→Value):(ps.map (·.1)).zip ((ps.map (·.2)).map f)=ps.map fun p=>(p.1,f p.2):=by
 induction ps with
 |nil=>rfl
 |cons p ps ih=>simp only [List.map_cons,List.zip_cons_cons,ih]
theorem all2_rawD {H:Nat→Option AO}:∀ {vs:List Value},vs.all (·.oneCell')=true→All2 (RepL S ι H w) ((vs.map D.raw).map AL.d) vs
 |[],_=>trivial
 |v::vs,h=>by
  simp only [List.all_cons,Bool.and_eq_true] at h
  exact ⟨RepD.raw v h.1,all2_rawD h.2⟩
theorem all2_rawD':∀ {vs:List Value},vs.all (·.oneCell')=true→All2 (RepD S w) (vs.map D.raw) vs
 |[],_=>trivial
 |v::vs,h=>by
  simp only [List.all_cons,Bool.and_eq_true] at h
  exact ⟨RepD.raw v h.1,all2_rawD' h.2⟩
theorem snd_build (hR:RelC C S M ι A a w)(ho:o.dst=some d)(hd:C.can d){t:TypeId}{ps:Array (Nat × Operand)}(hop:o.op=.build t ps){acc:List Loc}{rs:List Loc}{ws:List Wr}
  (h:(opds (ps.toList.map (·.2)) fun vs=>evBuild P t d ((ps.toList.map (·.1)).zip vs)).run A acc=some (rs,ws)):Snd P C A ws a w o:=by
 obtain ⟨_,h⟩:=run_opds h
 have hx:=rep_evs hR (ps.toList.map (·.2))
 unfold evBuild at h
 cases hz:zeroLs P t with
 |none=>simp [hz,Ev.run] at h
 |some q=>
 obtain ⟨ag,zs⟩:=q
 cases ag with
 |false=>simp [hz,Ev.run] at h
 |true=>
 cases hp:tyPlaces P t with
 |none=>simp [hz,hp,Ev.run] at h
 |some pl=>
 simp only [hz,hp] at h
 cases hf:fillFlds pl ((ps.toList.map (·.1)).zip ((ps.toList.map (·.2)).map A.ev)) (zs.map .d) with
 |none=>simp only [hf,Ev.run,reduceCtorEq] at h
 |some ms=>
 simp only [hf,Ev.run,Option.some.injEq,Prod.mk.injEq] at h
 obtain ⟨_,rfl⟩:=h
 obtain ⟨it,z,hi,hzz,_,rfl,hall⟩:=zeroLs_some hz
 obtain ⟨cs,hfill,hms⟩:=fill_flds (zs:=z.cells) hf (all2_zip hx) (all2_rawD hall)
 rw [zip_map] at hfill
 have hb:P.built t (ps.map fun (i,x)=>(i,a.eval x)).toList=some cs:=by
  unfold Program.built
  unfold tyPlaces at hp
  cases hu:P.underlying t with
  |none=>simp [hu] at hp
  |some dsc=>
   cases dsc<;>simp only [hu,reduceCtorEq] at hp
   case struct fs=>
    simp only [hi,hzz,hp]
    rw [Array.toList_map]
    exact hfill _ fun i p hpi=>by simpa using hpi
   case array n e=>
    cases hs:tySize P e with
    |none=>simp [hs] at hp
    |some k=>
     simp only [hs,Option.some.injEq] at hp
     obtain ⟨ie,hie,hk⟩:=info_of hs
     simp only [hi,hzz,hie]
     rw [Array.toList_map]
     refine hfill _ fun i p hpi=>?_
     subst hp
     simp only [List.getElem?_map,Option.map_eq_some_iff] at hpi
     obtain ⟨j,hj,rfl⟩:=hpi
     have:j=i:=by
      rw [List.getElem?_range] at hj
      ·simpa using hj.symm
      ·have:=(List.getElem?_eq_some_iff.1 hj).1;simpa using this
     subst this
     rw [hk]
 refine snd_pure hR ho hd (v:=.agg cs) ?_ ⟨cs.toList,by simp,hms⟩
 have:=run_build (P:=P) w t (ps.map fun (i,x)=>(i,a.eval x)) cs hb
 simp only [execOp,hop,Sem.run_bind,this,Result.andThen_ok,Sem.run_pure]
end ops
end Go.Mw
namespace Go.Mw
open Go.RowKit
section mv
variable {S S':Settled} {ι ι':Nat→Value} {H H':Nat→Option AO} {w w':World}
structure Mv (S:Settled) (ι:Nat→Value) (H:Nat→Option AO) (w:World) (S':Settled) (ι':Nat→Value) (H':Nat→Option AO) (w':World):Prop where
 d:∀d v,RepD S w d v→RepD S' w' d v
 c:∀o ls,H o=some (.cells ls)→(∃ls',H' o=some (.cells ls'))∧ι' o=ι o
 a:∀o e k es,H o=some (.arr e k es)→∃es',H' o=some (.arr e k es')∧es.length≤es'.length∧(es'.length=es.length→ι' o=ι o)
 s:∀b o,S b o→S' b o∧w'.cell? ⟨b,o,none⟩=w.cell? ⟨b,o,none⟩
 w:∀o x,H o=some x→x.whole=true→(∃x',H' o=some x' ∧ x'.whole=true)∧ι' o=ι o
theorem Mv.f (h:Mv S ι H w S' ι' H' w'){l:FL}{v:Value}(hr:RepF S ι H w l v):RepF S' ι' H' w' l v:=by
 cases l with
 |d x=>exact h.d _ _ hr
 |own o off len tot=>
  obtain ⟨h1,e,k,es,ho,htl,hv⟩:=hr
  obtain ⟨es',ho',hle,hι'⟩:=h.a o e k es ho
  refine ⟨h1,e,k,es',ho',by omega,fun he=>?_⟩
  rw [hι' (by omega)]
  exact hv (by omega)
 |obj o=>
  obtain ⟨h1,hv,x,ho,hx⟩:=hr
  obtain ⟨hx',hι'⟩:=h.w o x ho hx
  exact ⟨h1,hv.trans hι'.symm,hx'⟩
 |dead=>exact hr
theorem Mv.l (h:Mv S ι H w S' ι' H' w'){l:AL}{v:Value}(hr:RepL S ι H w l v):RepL S' ι' H' w' l v:=by
 cases l with
 |d x=>exact h.d _ _ hr
 |ptr o off=>
  obtain ⟨ls,b,ho,hι,hv⟩:=hr
  obtain ⟨⟨ls',ho'⟩,hι'⟩:=h.c o ls ho
  exact ⟨ls',b,ho',hι'.trans hι,hv⟩
 |eptr o i j tot=>
  obtain ⟨h1,e,k,es,ho,htl,hv⟩:=hr
  obtain ⟨es',ho',hle,hι'⟩:=h.a o e k es ho
  refine ⟨h1,e,k,es',ho',by omega,fun he=>?_⟩
  rw [hι' (by omega)]
  exact hv (by omega)
 |own o off len tot=>
  obtain ⟨h1,e,k,es,ho,htl,hv⟩:=hr
  obtain ⟨es',ho',hle,hι'⟩:=h.a o e k es ho
  refine ⟨h1,e,k,es',ho',by omega,fun he=>?_⟩
  rw [hι' (by omega)]
  exact hv (by omega)
 |obj o=>
  obtain ⟨h1,hv,x,ho,hx⟩:=hr
  obtain ⟨hx',hι'⟩:=h.w o x ho hx
  exact ⟨h1,hv.trans hι'.symm,hx'⟩
 |fpt fs=>
  obtain ⟨b,off,hv,hf⟩:=hr
  refine ⟨b,off,hv,fun j f hj=>?_⟩
  obtain ⟨h1,u,h2,h3⟩:=hf j f hj
  exact ⟨(h.s _ _ h1).1,u,(h.s _ _ h1).2.trans h2,h.f h3⟩
 |csl o off len=>
  obtain ⟨ls,b,c,ho,hι,hv⟩:=hr
  obtain ⟨⟨ls',ho'⟩,hι'⟩:=h.c o ls ho
  exact ⟨ls',b,c,ho',hι'.trans hι,hv⟩
 |dead=>exact hr
theorem Mv.cc (h:Mv S ι H w S' ι' H' w'){ag:Bool}{ls:List AL}{v:Value}(hr:RepC S ι H w ag ls v):RepC S' ι' H' w' ag ls v:=by
 cases ag with
 |true=>obtain ⟨vs,hv,ha⟩:=hr;exact ⟨vs,hv,ha.mono fun _ _=>h.l⟩
 |false=>obtain ⟨l,hv,ha⟩:=hr;exact ⟨l,hv,h.l ha⟩
theorem Mv.v (h:Mv S ι H w S' ι' H' w'):∀ {av:AV} {v:Value},RepV S ι H w av v→RepV S' ι' H' w' av v
 |.val _ _,_,hr=>h.cc hr
 |.tup _,_,⟨vs,hv,ha⟩=>⟨vs,hv,ha.mono fun _ _=>h.cc⟩
 |.cnd _ x,_,hr=>⟨fun hb=>Mv.v h (av:=x) (hr.1 hb),hr.2⟩
 |.dead,_,_=>trivial
end mv
section chg
variable {P:Program} {C:Ctx P} {S:Settled} {M:Blocks} {ι:Nat→Value} {A:ASt} {a:Act} {w w':World}
def upd (ι:Nat→Value)(o:Nat)(v:Value):Nat→Value:=fun q=>if q=o then v else ι q
theorem upd_same (ι:Nat→Value)(o:Nat)(v:Value):upd ι o v o=v:=by simp [upd]
theorem upd_other (ι:Nat→Value){o q:Nat}(v:Value)(h:q≠o):upd ι o v q=ι q:=by simp [upd,h]
theorem obj_same (A:ASt)(o:Nat)(x:AO):(A.put [.obj o x]).obj o=some x:=by simp [ASt.put,ASt.put1,ASt.obj,look]
theorem obj_other (A:ASt){o q:Nat}(x:AO)(h:q≠o):(A.put [.obj o x]).obj q=A.obj q:=by simp [ASt.put,ASt.put1,ASt.obj,look,h]
def isData:Obj→Bool
 |.cells .. => true
 |.map .. => true
 |.mapIter .. => true
 |.stringIter .. => true
 |_=>false
theorem ObjOK.blk_ge {o:Nat}{x:AO}{H:Nat→Option AO}(h:ObjOK S ι H w o x){b:Nat}(hb:blk (ι o)=some b):b<w.heap.size∧(∀off,¬S b off)∧∃y,w.heap[b]? = some y∧isData y=true:=by
 cases x with
 |cells ls=>
  obtain ⟨b',vs,el,hι,hh,_,hS,_⟩:=h
  rw [hι] at hb;simp [blk] at hb;subst hb
  exact ⟨(Array.getElem?_eq_some_iff.1 hh).1,hS,_,hh,rfl⟩
 |arr e k es=>
  obtain ⟨xs,hown,_,_,_,hS⟩:=h
  rcases hown.2 with ⟨hι,_⟩|⟨g,cap,cur,hι,hB,hh,_⟩
  ·rw [hι] at hb;simp [blk] at hb
  ·have hb':=hb
   rw [hι] at hb;simp [blk] at hb;subst hb
   exact ⟨(Array.getElem?_eq_some_iff.1 hh).1,hS _ hb',_,hh,rfl⟩
 |clo f ls=>obtain ⟨vs,hι,_⟩:=h;rw [hι] at hb;simp [blk] at hb
 |yl=>obtain ⟨l,hι⟩:=h;rw [hι] at hb;simp [blk] at hb
 |map es=>
  obtain ⟨b',qs,ck,hι,hh,_,_,hS⟩:=h
  rw [hι] at hb;simp [blk] at hb;subst hb
  exact ⟨(Array.getElem?_eq_some_iff.1 hh).1,hS,_,hh,rfl⟩
 |mth f ls=>obtain ⟨vs,hι,_⟩:=h;rw [hι] at hb;simp [blk] at hb
 |pin v l=>rw [h.1] at hb;simp [blk,undef] at hb
 |iter ls n sn c=>
  obtain ⟨b',m,hι,hh,_,hS⟩:=h
  rw [hι] at hb;simp [blk] at hb;subst hb
  exact ⟨(Array.getElem?_eq_some_iff.1 hh).1,hS,_,hh,rfl⟩
 |sit s p=>
  obtain ⟨b',hι,hh,hS⟩:=h
  rw [hι] at hb;simp [blk] at hb;subst hb
  exact ⟨(Array.getElem?_eq_some_iff.1 hh).1,hS,_,hh,rfl⟩
 |byt b' c l=>
  obtain ⟨hι,⟨_,_,_,hh,_⟩,hS⟩:=h
  rw [hι] at hb;simp [blk] at hb;subst hb
  exact ⟨(Array.getElem?_eq_some_iff.1 hh).1,hS,_,hh,rfl⟩
structure Only (ι:Nat→Value) (A:ASt) (o:Nat) (w w':World):Prop where
 os:w'.os=w.os
 tape:w'.tape=w.tape
 output:w'.output=w.output
 size:w.heap.size≤w'.heap.size
 block:∀b,b<w.heap.size→(∀y,A.obj o=some y→blk (ι o)≠some b)→w'.heap[b]? = w.heap[b]?
theorem Only.settled (hR:RelC C S M ι A a w){o:Nat}(h:Only ι A o w w'){b off:Nat}(hs:S b off):w'.heap[b]? = w.heap[b]? :=
 h.block b (hR.inn _ _ hs) fun y hy hb=>((hR.objs o y hy).blk_ge hb).2.1 off hs
theorem Only.repD (hR:RelC C S M ι A a w){o:Nat}(h:Only ι A o w w'){d:D}{v:Value}(hr:RepD S w d v):RepD S w' d v:=
 hr.mono (fun _ _ hs=>hs) fun _ _ hs=>World.cell?_of_block (h.settled hR hs)
def Turns (ι:Nat→Value)(A:ASt)(o:Nat)(x:AO)(u:Value):Prop:=match A.obj o with
 |none=>True
 |some (.cells _)=>(∃ls',x=.cells ls')∧u=ι o
 |some (.arr e k es)=>∃es',x=.arr e k es' ∧ es.length≤es'.length∧(es'.length=es.length→u=ι o)
 |some _=>x.whole=true∧u=ι o
theorem Only.mv (hR:RelC C S M ι A a w){o:Nat}(h:Only ι A o w w'){x:AO}{u:Value}(ht:Turns ι A o x u):Mv S ι A.obj w S (upd ι o u) (A.put [.obj o x]).obj w' where
 d:=fun _ _ hr=>h.repD hR hr
 c:=by
  intro q ls hq
  by_cases hqo:q=o
  ·subst hqo
   unfold Turns at ht
   rw [hq] at ht
   obtain ⟨⟨ls',rfl⟩,hu⟩:=ht
   exact ⟨⟨ls',obj_same _ _ _⟩,by rw [upd_same,hu]⟩
  ·exact ⟨⟨ls,by rw [obj_other _ _ hqo,hq]⟩,upd_other _ _ hqo⟩
 a:=by
  intro q e k es hq
  by_cases hqo:q=o
  ·subst hqo
   unfold Turns at ht
   rw [hq] at ht
   obtain ⟨es',rfl,hle,hu⟩:=ht
   exact ⟨es',obj_same _ _ _,hle,fun he=>by rw [upd_same,hu he]⟩
  ·exact ⟨es,by rw [obj_other _ _ hqo,hq],Nat.le_refl _,fun _=>upd_other _ _ hqo⟩
 w:=by
  intro q y hq hy
  by_cases hqo:q=o
  ·subst hqo
   unfold Turns at ht
   rw [hq] at ht
   have h2:x.whole=true∧u=ι q:=by cases y<;>first|exact ht|simp [AO.whole] at hy
   exact ⟨⟨x,obj_same _ _ _,h2.1⟩,by rw [upd_same,h2.2]⟩
  ·exact ⟨⟨y,by rw [obj_other _ _ hqo,hq],hy⟩,upd_other _ _ hqo⟩
 s:=fun _ _ hs=>⟨hs,World.cell?_of_block (h.settled hR hs)⟩
theorem RepE.mv {S S':Settled}{ι ι':Nat→Value}{H H':Nat→Option AO}{w w':World}(hm:Mv S ι H w S' ι' H' w'){p:Value × Bool × List AL}{q:MapEntry}(h:RepE S ι H w p q):RepE S' ι' H' w' p q:=⟨h.1,hm.cc h.2⟩
theorem ObjOK.other {q:Nat}{x:AO}{S':Settled}{ι':Nat→Value}{H H':Nat→Option AO}(hm:Mv S ι H w S' ι' H' w')(h:ObjOK S ι H w q x)(hι:ι' q=ι q)
  (hb:∀b,blk (ι q)=some b→w'.heap[b]? = w.heap[b]?) (hs:∀b off,blk (ι q)=some b→S' b off→S b off):ObjOK S' ι' H' w' q x:=by
 cases x with
 |cells ls=>
  obtain ⟨b,vs,el,h1,h2,h3,h5⟩:=h
  exact ⟨b,vs,el,hι.trans h1,(hb b V213).trans h2,h3.mono fun _ _=>hm.l,fun off h=>h5.1 off (hs b off V213 h),h5.2⟩
 |arr e k es=>
  obtain ⟨xs,h1,h2,h3,h4,h5⟩:=h
  refine ⟨xs,⟨h1.1,?_⟩,h2.mono fun _ _=>hm.d _ _,h3,h4,fun b hb' off h=>h5 b (hι▸hb') off (hs b off (hι▸hb') h)⟩
  rw [hι]
  rcases h1.2 with hn|⟨g,cap,cur,e1,e2,e3,e4⟩
  ·exact .inl hn
  ·exact .inr ⟨g,cap,cur,e1,e2,(hb g (by rw [e1];rfl)).trans e3,e4⟩
 |clo f ls=>
  obtain ⟨vs,h1,h2⟩:=h
  exact ⟨vs,hι.trans h1,h2.mono fun _ _=>hm.l⟩
 |yl=>obtain ⟨l,h1⟩:=h;exact ⟨l,hι.trans h1⟩
 |map es=>
  obtain ⟨b,qs,ck,h1,h2,h3,h4,h5⟩:=h
  exact ⟨b,qs,ck,hι.trans h1,(hb b V213).trans h2,h3.mono fun _ _=>RepE.mv hm,h4,fun off h=>h5 off (hs b off V213 h)⟩
 |mth f ls=>
  obtain ⟨vs,h1,h2⟩:=h
  exact ⟨vs,hι.trans h1,h2.mono fun _ _=>hm.l⟩
 |pin v l=>exact ⟨hι.trans h.1,hm.l h.2⟩
 |iter ls n sn c=>
  obtain ⟨b,m,h1,h2,h3,h5⟩:=h
  exact ⟨b,m,hι.trans h1,(hb b V213).trans h2,h3.mono fun _ _=>hm.l,fun off h=>h5 off (hs b off V213 h)⟩
 |sit s p=>
  obtain ⟨b,h1,h2,h5⟩:=h
  exact ⟨b,hι.trans h1,(hb b V213).trans h2,fun off h=>h5 off (hs b off V213 h)⟩
 |byt b c l=>
  obtain ⟨h1,⟨vs,el,fz,h2,h3⟩,h5⟩:=h
  exact ⟨hι.trans h1,⟨vs,el,fz,(hb b V213).trans h2,h3⟩,fun off h=>h5 off (hs b off V213 h)⟩
def grow (M:Blocks)(w w':World):Blocks:=fun k=>M k∨(w.heap.size≤k∧k<w'.heap.size)
theorem Only.fr (hR:RelC C S M ι A a w){o:Nat}(h:Only ι A o w w'):Fr S M w w':=
 ⟨h.os,h.tape,h.output,h.size,fun b hb hM=>h.block b hb fun y hy hb'=>hM (hR.own o y b hy hb'),fun _ _ hs=>World.cell?_of_block (h.settled hR hs)⟩
theorem Only.env (hR:RelC C S M ι A a w){o:Nat}(h:Only ι A o w w'):C.E.J A.bh S (grow M w w') w':=
 C.E.step hR.env (h.fr hR) (fun _=>.inl) (fun _=>id) (fun _ _ h=>h) fun _ _ h=>.inl h
theorem Only.stays (hR:RelC C S M ι A a w){o:Nat}(h:Only ι A o w w'){r:Nat}{y:Obj}(hr:w.heap[r]? = some y)(hy:isData y=false):w'.heap[r]? = some y:=by
 refine (h.block r (Array.getElem?_eq_some_iff.1 hr).1 fun x hx hb=>?_).trans hr
 obtain ⟨_,_,z,hz,hd⟩:=(hR.objs o x hx).blk_ge hb
 rw [hr] at hz;cases hz;rw [hy] at hd;cases hd
theorem RelC.chg (hR:RelC C S M ι A a w){o:Nat}{x:AO}{u:Value}(h:Only ι A o w w')(ht:Turns ι A o x u)
  (hx:ObjOK S (upd ι o u) (A.put [.obj o x]).obj w' o x)
  (hf:∀b,blk u=some b→w.heap.size≤b∨∃y,A.obj o=some y∧blk (ι o)=some b) (hy:x≠.yl:=by simp) (hpin:A.obj o=none→C.pin o=none:=by first|exact fun _=>hd.2.2|(intro hnone;simp only [hob,reduceCtorEq] at hnone)):RelC C S (grow M w w') (upd ι o u) (A.put [.obj o x]) a w':=by
 have hm:=h.mv hR ht
 have hold:∀q y,A.obj q=some y→q≠o→∀b,blk (ι q)=some b→b<w.heap.size∧blk u≠some b:=fun q y hq hqo b hb=>by
  have:=(hR.objs q y hq).blk_ge hb
  refine ⟨this.1,fun hu=>?_⟩
  rcases hf b hu with h1|⟨y',hy',hb'⟩
  ·omega
  ·exact hR.dis q o y y' b hq hy' hqo hb hb'
 exact {
  sub:=hR.sub
  new:=fun b off hs=>(hR.new b off hs).imp id .inl
  inn:=fun b off hs=>Nat.lt_of_lt_of_le (hR.inn b off hs) h.size
  minn:=fun b hb=>hb.elim (fun hb=>Nat.lt_of_lt_of_le (hR.minn b hb) h.size) (·.2)
  sz:=hR.sz
  tms:=fun s=>hm.v (hR.tms s)
  objs:=by
   intro q y hq
   by_cases hqo:q=o
   ·subst hqo
    rw [obj_same] at hq
    simp only [Option.some.injEq] at hq
    subst hq
    exact hx
   ·rw [obj_other _ _ hqo] at hq
    exact (hR.objs q y hq).other hm (upd_other _ _ hqo) (fun b hb=>h.block b (hold q y hq hqo b hb).1 fun y' hy' hb'=>hR.dis q o y y' b hq hy' hqo hb hb') fun _ _ _ h=>h
  dis:=by
   intro q q' y y' b hq hq' hne hb
   by_cases hqo:q=o
   ·subst hqo
    rw [upd_same] at hb
    rw [obj_other _ _ (Ne.symm hne)] at hq'
    rw [upd_other _ _ (Ne.symm hne)]
    intro hb'
    exact (hold q' y' hq' (Ne.symm hne) b hb').2 hb
   ·rw [obj_other _ _ hqo] at hq
    rw [upd_other _ _ hqo] at hb
    by_cases hqo':q'=o
    ·subst hqo'
     rw [upd_same]
     exact (hold q y hq hqo b hb).2
    ·rw [obj_other _ _ hqo'] at hq'
     rw [upd_other _ _ hqo']
     exact hR.dis q q' y y' b hq hq' hne hb
  own:=by
   intro q y b hq hb
   by_cases hqo:q=o
   ·subst hqo
    have hlt:=(hx.blk_ge hb).1
    rw [upd_same] at hb
    rcases hf b hb with h1|⟨y',hy',hb'⟩
    ·exact .inr ⟨h1,hlt⟩
    ·exact .inl (hR.own q y' b hy' hb')
   ·rw [obj_other _ _ hqo] at hq
    rw [upd_other _ _ hqo] at hb
    exact .inl (hR.own q y b hq hb)
  env:=(h.env hR:C.E.J A.bh S (grow M w w') w')
  tok:=by
   intro q hq
   by_cases hqo:q=o
   ·subst hqo
    rw [obj_same] at hq
    simp only [Option.some.injEq] at hq
    exact absurd hq hy
   ·rw [obj_other _ _ hqo] at hq
    rw [upd_other _ _ hqo]
    exact hR.tok q hq
  fixed:=hR.fixed
  marks:=by
   obtain ⟨rs,h1,h2,h3⟩:=hR.marks
   exact ⟨rs,h1,h2,fun r hr=>⟨.inl (h3 r hr).1,h.stays hR (h3 r hr).2 rfl⟩⟩
  rdok:=fun l r hl=>⟨.inl (hR.rdok l r hl).1,h.stays hR (hR.rdok l r hl).2 rfl⟩
  pinned:=by
   intro q v n y hq hy'
   by_cases hqo:q=o
   ·subst hqo
    rw [obj_same] at hy'
    simp only [Option.some.injEq] at hy'
    subst hy'
    rw [upd_same]
    cases hA:A.obj q with
    |none=>rw [hpin hA] at hq;cases hq
    |some z=>
     have hz:=hR.pinned q v n z hq hA
     unfold Turns at ht
     rw [hA] at ht
     cases z with
     |cells ls=>obtain ⟨⟨ls',rfl⟩,rfl⟩:=ht;exact hz
     |arr e k es=>
      obtain ⟨es',rfl,hle,hu⟩:=ht
      simp only [AO.pinned] at hz ⊢
      exact ⟨by omega,fun he=>by rw [hu (by omega)];exact hz.2 (by omega)⟩
     |clo f ls=>obtain ⟨hw,rfl⟩:=ht;cases x<;>first|exact hz|simp [AO.whole] at hw
     |yl=>obtain ⟨hw,rfl⟩:=ht;cases x<;>first|exact hz|simp [AO.whole] at hw
     |map es=>obtain ⟨hw,rfl⟩:=ht;cases x<;>first|exact hz|simp [AO.whole] at hw
     |mth f ls=>obtain ⟨hw,rfl⟩:=ht;cases x<;>first|exact hz|simp [AO.whole] at hw
     |pin v l=>obtain ⟨hw,rfl⟩:=ht;cases x<;>first|exact hz|simp [AO.whole] at hw
     |iter ls n sn c=>obtain ⟨hw,rfl⟩:=ht;cases x<;>first|exact hz|simp [AO.whole] at hw
     |sit s p=>obtain ⟨hw,rfl⟩:=ht;cases x<;>first|exact hz|simp [AO.whole] at hw
     |byt b c l=>obtain ⟨hw,rfl⟩:=ht;cases x<;>first|exact hz|simp [AO.whole] at hw
   ·rw [obj_other _ _ hqo] at hy'
    rw [upd_other _ _ hqo]
    exact hR.pinned q v n y hq hy'
  pinN:=hR.pinN }
theorem only_alloc (A:ASt){o:Nat}(x:Obj):Only ι A o w (w.alloc x):=⟨rfl,rfl,rfl,by simp,fun b hb _=>Below.heap_alloc w x b hb⟩
theorem only_refl (A:ASt){o:Nat}:Only ι A o w w:=⟨rfl,rfl,rfl,Nat.le_refl _,fun _ _ _=>rfl⟩
theorem only_row {o g:Nat}{y:AO}(ho:A.obj o=some y)(hg:blk (ι o)=some g)(cs:Array Value):Only ι A o w (w.setRow g cs):=
 ⟨rfl,rfl,rfl,by simp,fun b _ h=>setRow_other w g b cs fun e=>h y ho (e▸hg)⟩
theorem only_grown {o:Nat}{row:Option Nat}(hg:w.grownBy w' row)(hr:∀g,row=some g→∃y,A.obj o=some y∧blk (ι o)=some g):Only ι A o w w':=
 ⟨hg.os,hg.tape,hg.output,hg.size,fun b hb h=>hg.block b hb fun e=>by
  obtain ⟨y,hy,hb'⟩:=hr b e.symm
  exact h y hy hb'⟩
theorem turns_new {o:Nat}(h:A.obj o=none)(x:AO)(u:Value):Turns ι A o x u:=by unfold Turns;rw [h];trivial
end chg
end Go.Mw
namespace Go.Mw
open Go.RowKit
section ops
variable {P:Program} {C:Ctx P} {S:Settled} {M:Blocks} {ι:Nat→Value} {A:ASt} {a:Act} {w w':World} {o:Oper} {d:Nat}
theorem snd_new (ho:o.dst=some d)(hd:C.can d){q:Nat}{x:AO}{u v:Value}{av:AV}(hr:(execOp a.eval o).run P w=.ok (.value v) w')
  (hR':RelC C S (grow M w w') (upd ι q u) (A.put [.obj q x]) a w') (hv:RepV S (upd ι q u) (A.put [.obj q x]).obj w' av v):Snd P C A [.slot d av,.obj q x] a w o:=
 .inl ⟨_,_,hr,by rw [ho];exact ⟨S,_,upd ι q u,hR'.slot hd hv⟩⟩
theorem objOK_cells {H:Nat→Option AO}{ls:List AL}{vs:List Value}{t:TypeId}(htag:tagged d t)(hin:∀b off,S b off→b<w.heap.size)
  (hall:All2 (RepL S (upd ι d (.pointer (some ⟨w.heap.size,0,none⟩))) H (w.alloc (.cells vs.toArray t))) ls vs) :
  ObjOK S (upd ι d (.pointer (some ⟨w.heap.size,0,none⟩))) H (w.alloc (.cells vs.toArray t)) d (.cells ls):=
 ⟨w.heap.size,vs,t,upd_same _ _ _,heap_alloc_new w _,hall,fun off hs=>by have:=hin _ _ hs;omega,htag⟩
theorem snd_cells (hR:RelC C S M ι A a w)(ho:o.dst=some d)(hd:C.can d)(hn:A.obj d=none){t:TypeId}{ls:List AL}{vs:List Value}
  (hr:(execOp a.eval o).run P w=.ok (.value (.pointer (some ⟨w.heap.size,0,none⟩))) (w.alloc (.cells vs.toArray t))) (hall:All2 (RepL S ι A.obj w) ls vs) :
  Snd P C A [.slot d (.leaf (.ptr d 0)),.obj d (.cells ls)] a w o:=by
 have hon:Only ι A d w (w.alloc (.cells vs.toArray t)):=only_alloc A _
 have ht:Turns ι A d (.cells ls) (.pointer (some ⟨w.heap.size,0,none⟩)):=turns_new hn _ _
 have hm:=hon.mv hR ht
 refine snd_new ho hd hr (hR.chg hon ht (objOK_cells (tagged_can hd _) hR.inn (hall.mono fun _ _=>hm.l)) fun b hb=>?_) (leaf_rep ⟨ls,w.heap.size,obj_same _ _ _,upd_same _ _ _,rfl⟩)
 simp [blk] at hb;omega
theorem snd_alloc (hR:RelC C S M ι A a w)(ho:o.dst=some d)(hd:C.can d){t:TypeId}(hop:o.op=.alloc t){acc:List Loc}{rs:List Loc}{ws:List Wr}
  (h:(evAlloc P t d).run A acc=some (rs,ws)):Snd P C A ws a w o:=by
 unfold evAlloc at h
 simp only [Ev.run] at h
 cases hn:A.obj d with
 |some y=>simp [hn,Ev.run] at h
 |none=>
 cases hz:zeroLs P t with
 |none=>simp [hn,hz,Ev.run] at h
 |some q=>
 obtain ⟨ag,ds⟩:=q
 simp only [hn,hz,Ev.run,Option.some.injEq,Prod.mk.injEq] at h
 obtain ⟨_,rfl⟩:=h
 obtain ⟨i,z,hi,hzz,_,rfl,hall⟩:=zeroLs_some hz
 refine snd_cells hR ho hd hn (vs:=z.cells.toList) (t:=t) ?_ (all2_rawD hall)
 simp [execOp,hop,Instr.alloc,zeroValue,typeInfo,hi,hzz,newVar,newRow]
theorem snd_box (hR:RelC C S M ι A a w)(ho:o.dst=some d)(hd:C.can d){t:TypeId}{x:Operand}(hop:o.op=.box t x){acc:List Loc}{rs:List Loc}{ws:List Wr}
  (h:(opd x fun v=>evBox d v).run A acc=some (rs,ws)):Snd P C A ws a w o:=by
 obtain ⟨_,h⟩:=run_opd h
 have hx:=rep_ev hR x
 unfold evBox at h
 split at h
 ·rename_i ag ls e;rw [e] at hx
  simp only [Ev.run] at h
  cases hn:A.obj d with
  |some y=>simp [hn,Ev.run] at h
  |none=>
  simp only [hn,Ev.run,Option.some.injEq,Prod.mk.injEq] at h
  obtain ⟨_,rfl⟩:=h
  refine snd_cells hR ho hd hn (vs:=(a.eval x).cells.toList) (t:=t) ?_ (RepC.cells S ι A.obj w hx)
  simp [execOp,hop,Instr.box,newVar,newRow]
 ·simp [Ev.run] at h
 ·simp [Ev.run] at h
 ·simp [Ev.run] at h
theorem snd_arr (hR:RelC C S M ι A a w)(ho:o.dst=some d)(hd:C.can d)(hn:A.obj d=none){e:TypeId}{k:Nat}{es:List (List D)}{xs:List Value}{u:Value}
  (hr:(execOp a.eval o).run P w=.ok (.value u) w') (hon:Only ι A d w w') (hown:w'.ownsRow 0 e k u es.length xs) (hfresh:∀b,blk u=some b→w.heap.size≤b)
  (hall:All2 (RepD S w) es.flatten xs) (hk:∀x∈es,x.length=k) (hk0:0<k) :
  Snd P C A [.slot d (.leaf (.own d 0 es.length es.length)),.obj d (.arr e k es)] a w o:=by
 have ht:Turns ι A d (.arr e k es) u:=turns_new hn _ _
 have hm:=hon.mv hR ht
 have hu1:u.oneCell'=true:=by
  rcases hown.2 with ⟨rfl,_⟩|⟨_,_,_,rfl,_⟩<;>rfl
 refine snd_new ho hd hr (hR.chg hon ht ⟨xs,by rw [upd_same];exact hown,hall.mono fun _ _=>hm.d _ _,hk,hk0,fun b hb off hs=>?_⟩ fun b hb=>.inl (hfresh b hb))
  (leaf_rep ⟨hu1,e,k,es,obj_same _ _ _,Nat.le_refl _,fun _=>⟨by omega,by rw [upd_same];exact OwnVal.tip hown⟩⟩)
 rw [upd_same] at hb
 have h1:=hR.inn _ _ hs
 have h2:=hfresh b hb
 omega
theorem part_els {H:Nat→Option AO}{k:Nat}:∀ {parts:List (Nat × AV)} {n:Nat} {es:List (List D)} {vs:List Value},partEls k n parts=some es→All2 (RepV S ι H w) (parts.map (·.2)) vs →
  es.length=parts.length∧(∀x∈es,x.length=k)∧(∀v∈vs,v.cells.size=k)∧All2 (RepD S w) es.flatten (vs.flatMap fun v=>v.cells.toList)∧parts.map (·.1)=List.range' n parts.length
 |[],n,es,vs,h,hv=>by
  simp [partEls] at h;subst h
  cases vs with
  |nil=>simp [All2]
  |cons _ _=>exact hv.elim
 |(i,.val ag xs)::parts,n,es,vs,h,hv=>by
  cases vs with
  |nil=>exact hv.elim
  |cons v vs=>
  obtain ⟨hv1,hv2⟩:=hv
  simp only [partEls] at h
  split at h
  case isFalse=>cases h
  rename_i hc
  cases hp:pures xs with
  |none=>simp [hp] at h
  |some ds=>
  cases hr:partEls k (n+1) parts with
  |none=>simp [hp,hr] at h
  |some es'=>
  simp only [hp,hr,Option.some.injEq] at h
  subst h
  obtain ⟨h1,h2,h3,h4,h5⟩:=part_els hr hv2
  have hcs:=RepC.cells S ι H w hv1
  have hds:=pures_rep hp hcs
  have hl:ds.length=k:=by rw [hds.length,←hcs.length];exact hc.2
  refine ⟨by simp [h1],?_,?_,?_,?_⟩
  ·intro x hx
   rcases List.mem_cons.1 hx with rfl|hx
   ·exact hl
   ·exact h2 x hx
  ·intro x hx
   rcases List.mem_cons.1 hx with rfl|hx
   ·rw [←hl,hds.length];simp
   ·exact h3 x hx
  ·simpa using hds.append h4
  ·simp [h5,hc.1,List.range'_succ]
 |(_,.tup _)::_,_,_,_,h,_=>by simp [partEls] at h
 |(_,.cnd _ _)::_,_,_,_,h,_=>by simp [partEls] at h
 |(_,.dead)::_,_,_,_,h,_=>by simp [partEls] at h
theorem part_ls {H:Nat→Option AO}{k:Nat}:∀ {parts:List (Nat × AV)} {n:Nat} {es:List AL} {vs:List Value},partLs k n parts=some es→All2 (RepV S ι H w) (parts.map (·.2)) vs →
  (∀v∈vs,v.cells.size=k)∧All2 (RepL S ι H w) es (vs.flatMap fun v=>v.cells.toList)∧parts.map (·.1)=List.range' n parts.length
 |[],n,es,vs,h,hv=>by
  simp [partLs] at h;subst h
  cases vs with
  |nil=>simp [All2]
  |cons _ _=>exact hv.elim
 |(i,.val ag xs)::parts,n,es,vs,h,hv=>by
  cases vs with
  |nil=>exact hv.elim
  |cons v vs=>
  obtain ⟨hv1,hv2⟩:=hv
  simp only [partLs] at h
  split at h
  case isFalse=>cases h
  rename_i hc
  cases hr:partLs k (n+1) parts with
  |none=>simp [hr] at h
  |some es'=>
  simp only [hr,Option.some.injEq] at h
  subst h
  obtain ⟨h3,h4,h5⟩:=part_ls hr hv2
  have hcs:=RepC.cells S ι H w hv1
  refine ⟨?_,by simpa using hcs.append h4,by simp [h5,hc.1,List.range'_succ]⟩
  intro x hx
  rcases List.mem_cons.1 hx with rfl|hx
  ·rw [←hc.2,hcs.length];simp
  ·exact h3 x hx
 |(_,.tup _)::_,_,_,_,h,_=>by simp [partLs] at h
 |(_,.cnd _ _)::_,_,_,_,h,_=>by simp [partLs] at h
 |(_,.dead)::_,_,_,_,h,_=>by simp [partLs] at h
theorem snd_buildSlice (hR:RelC C S M ι A a w)(ho:o.dst=some d)(hd:C.can d){t:TypeId}{n:Nat}{ps:Array (Nat × Operand)}(hop:o.op=.buildSlice t n ps){acc:List Loc}{rs:List Loc}{ws:List Wr}
  (h:(opds (ps.toList.map (·.2)) fun vs=>evBuildSlice P t n d ((ps.toList.map (·.1)).zip vs)).run A acc=some (rs,ws)):Snd P C A ws a w o:=by
 obtain ⟨_,h⟩:=run_opds h
 have hx:=rep_evs hR (ps.toList.map (·.2))
 unfold evBuildSlice at h
 simp only [Ev.run] at h
 cases hn:A.obj d with
 |some y=>simp only [hn,Ev.run,reduceCtorEq] at h
 |none=>
 cases ht:tyEl P t with
 |none=>simp only [hn,ht,Ev.run,reduceCtorEq] at h
 |some e=>
 cases hk:tySize P e with
 |none=>simp only [hn,ht,hk,Ev.run,reduceCtorEq] at h
 |some k=>
 cases hp:partEls k 0 ((ps.toList.map (·.1)).zip ((ps.toList.map (·.2)).map A.ev)) with
 |none=>
  simp only [hn,ht,hk,hp] at h
  have hmap:((ps.toList.map (·.1)).zip ((ps.toList.map (·.2)).map A.ev)).map (·.2)=(ps.toList.map (·.2)).map A.ev:=List.map_snd_zip (by simp)
  have hmap1:((ps.toList.map (·.1)).zip ((ps.toList.map (·.2)).map A.ev)).map (·.1)=ps.toList.map (·.1):=List.map_fst_zip (by simp)
  cases hl:partLs k 0 ((ps.toList.map (·.1)).zip ((ps.toList.map (·.2)).map A.ev)) with
  |none=>simp only [hl,Ev.run,reduceCtorEq] at h
  |some ls=>
  simp only [hl] at h
  split at h
  case isFalse=>simp [Ev.run] at h
  rename_i hc
  obtain ⟨hpn,⟨hk0,h0⟩,hsm,hzs⟩:=hc
  simp only [Ev.run,Option.some.injEq,Prod.mk.injEq] at h
  obtain ⟨_,rfl⟩:=h
  have hps:ps.size=n:=by simpa using hpn
  obtain ⟨h3,h4,hidx⟩:=part_ls hl (by rw [hmap];exact hx)
  rw [hmap1] at hidx
  have hidx:ps.toList.map (·.1)=List.range' 0 ps.size:=by rw [hidx];simp
  obtain ⟨q,hz⟩:=Option.isSome_iff_exists.1 hzs
  obtain ⟨ag,zs⟩:=q
  obtain ⟨i,z,hi,hzz,_,_,_⟩:=zeroLs_some hz
  obtain ⟨i',hi',hik⟩:=info_of hk
  rw [hi] at hi';simp only [Option.some.injEq] at hi';subst hi'
  have hparts:(ps.map fun (i,x)=>(i,a.eval x)).toList=(((ps.toList.map (·.2)).map a.eval).zipIdx 0).map fun x=>(x.2,x.1):=by
   apply List.ext_getElem?
   intro j
   have hj:=congrArg (·[j]?) hidx
   simp only [List.getElem?_map] at hj
   simp only [Array.toList_map,List.getElem?_map,List.getElem?_zipIdx]
   cases hpj:ps.toList[j]? with
   |none=>simp
   |some p=>
    simp only [hpj,Option.map_some] at hj
    have hjs:j<ps.size:=by have:=(List.getElem?_eq_some_iff.1 hpj).1;simpa using this
    rw [List.getElem?_range' hjs] at hj
    simp at hj
    simp [hj]
  obtain ⟨r,hfill,hsz,hget⟩:=Great.fill_dense (s:=k) hk0 ((ps.toList.map (·.2)).map a.eval) 0 ((Array.range (n*k)).map (z.cells[· % z.cells.size]!)) h3 (by simp [hps])
  have hrun:=run_buildSlice (P:=P) w t e n (ps.map fun (i,x)=>(i,a.eval x)) r i z (und_el ht) hi hzz (by rw [hik];simpa using hsm) (by rw [hik];exact Nat.ne_of_gt (Nat.mul_pos h0 hk0)) (by rw [hik,hparts];exact hfill)
  have hr:r.toList=((ps.toList.map (·.2)).map a.eval).flatMap fun v=>v.cells.toList:=by
   apply List.ext_getElem?
   intro q
   rw [Array.getElem?_toList,hget q]
   have hlen3:∀x∈((ps.toList.map (·.2)).map a.eval).map (fun v=>v.cells.toList),x.length=k:=by
    intro x hx
    obtain ⟨v,hv,rfl⟩:=List.mem_map.1 hx
    simpa using h3 v hv
   by_cases hq:q<ps.size*k
   ·rw [if_pos (by simp;exact hq)]
    have hi1:q / k<ps.size:=(Nat.div_lt_iff_lt_mul hk0).2 hq
    obtain ⟨V,hv⟩:∃V,((ps.toList.map (·.2)).map a.eval)[q / k]? = some V:=⟨_,List.getElem?_eq_getElem (by simpa using hi1)⟩
    rw [Nat.sub_zero,hv,Option.bind_some,List.flatMap_def]
    have hmod:q%k<k:=Nat.mod_lt _ hk0
    have hsz':=h3 V (List.mem_of_getElem? hv)
    have hm2:q%k<V.cells.size:=by omega
    have e1:(((ps.toList.map (·.2)).map a.eval).map fun v=>v.cells.toList)[q / k]? = some V.cells.toList:=by
     rw [List.getElem?_map,hv];rfl
    have:=flat_get hlen3 e1 (j:=q%k) (List.getElem?_eq_getElem (by simpa using hm2))
    rw [Nat.mul_comm,Nat.div_add_mod] at this
    rw [this]
    simp [hm2]
   ·rw [if_neg V214]
    rw [Array.getElem?_eq_none (by simp [hps] at hq ⊢;omega),List.flatMap_def,List.getElem?_eq_none]
    rw [flat_len hlen3]
    simp;omega
  have hall:All2 (RepL S ι A.obj w) ls r.toList:=by rw [hr];exact h4
  have hon:Only ι A d w (w.alloc (.cells r.toList.toArray e)):=only_alloc A _
  have ht':Turns ι A d (.cells ls) (.pointer (some ⟨w.heap.size,0,none⟩)):=turns_new hn _ _
  have hm:=hon.mv hR ht'
  refine snd_new ho hd (v:=.slice (some ⟨w.heap.size,0,none⟩) n n) ?_ (hR.chg hon ht' (objOK_cells (tagged_can hd _) hR.inn (hall.mono fun _ _=>hm.l)) fun b hb=>?_) (leaf_rep ⟨ls,w.heap.size,n,obj_same _ _ _,upd_same _ _ _,rfl,rfl⟩)
  ·simp only [execOp,hop,Sem.run_bind,hrun,Result.andThen_ok,Sem.run_pure]
  ·simp [blk] at hb;omega
 |some es=>
 simp only [hn,ht,hk,hp] at h
 split at h
 case isFalse=>simp [Ev.run] at h
 rename_i hc
 obtain ⟨hlen,hk0,hsm,hzs⟩:=hc
 simp only [Ev.run,Option.some.injEq,Prod.mk.injEq] at h
 obtain ⟨_,rfl⟩:=h
 subst hlen
 have hx2:All2 (RepV S ι A.obj w) (((ps.toList.map (·.1)).zip ((ps.toList.map (·.2)).map A.ev)).map (·.2)) ((ps.toList.map (·.2)).map a.eval):=by
  rw [List.map_snd_zip (by simp)]
  exact hx
 obtain ⟨h1,h2,h3,h4,h5⟩:=part_els hp hx2
 have hl:es.length=ps.size:=by rw [h1];simp
 have hidx:ps.toList.map (·.1)=List.range' 0 ps.size:=by
  rw [List.map_fst_zip (by simp)] at h5
  rw [h5];simp
 -- the zero value
 obtain ⟨q,hz⟩:=Option.isSome_iff_exists.1 hzs
 obtain ⟨ag,zs⟩:=q
 obtain ⟨i,z,hi,hzz,_,_,_⟩:=zeroLs_some hz
 obtain ⟨i',hi',hik⟩:=info_of hk
 rw [hi] at hi';simp only [Option.some.injEq] at hi';subst hi'
 -- the parts
 have hparts:(ps.map fun (i,x)=>(i,a.eval x)).toList=(((ps.toList.map (·.2)).map a.eval).zipIdx 0).map fun x=>(x.2,x.1):=by
  apply List.ext_getElem?
  intro j
  have hj:=congrArg (·[j]?) hidx
  simp only [List.getElem?_map] at hj
  simp only [Array.toList_map,List.getElem?_map,List.getElem?_zipIdx]
  cases hpj:ps.toList[j]? with
  |none=>simp
  |some p=>
   simp only [hpj,Option.map_some] at hj
   have hjs:j<ps.size:=by have:=(List.getElem?_eq_some_iff.1 hpj).1;simpa using this
   rw [List.getElem?_range' hjs] at hj
   simp at hj
   simp [hj]
 by_cases h0:es.length=0
 ·-- no parts
  have hes:es=[]:=List.eq_nil_of_length_eq_zero h0
  subst hes
  have hps:ps=#[]:=by apply Array.eq_empty_of_size_eq_zero;omega
  subst hps
  refine snd_arr hR ho hd hn (xs:=[]) (u:=.slice (some ⟨w.heap.size,0,none⟩) 0 0) (w':=w.alloc (.cells #[] e)) ?_ (only_alloc A _) (World.ownsRow_lit w #[] 0 (Nat.zero_le _) (by simp [maxLen]) (by simp)) (fun b hb=>by simp [blk] at hb;omega) (by trivial) (by simp) hk0
  simp [execOp,hop,Instr.buildSlice,run_underlying (und_el ht),run_size w hk,Instr.fill,newRow,Array.range_zero']
 ·-- the cells
  obtain ⟨r,hfill,hsz,hget⟩:=Great.fill_dense (s:=k) hk0 ((ps.toList.map (·.2)).map a.eval) 0 ((Array.range (es.length*k)).map (z.cells[· % z.cells.size]!)) h3 V217
  have hrun:=run_buildSlice (P:=P) w t e es.length (ps.map fun (i,x)=>(i,a.eval x)) r i z (und_el ht) hi hzz (by rw [hik];simpa using hsm) (by rw [hik];exact Nat.ne_of_gt (Nat.mul_pos (by omega) hk0)) (by rw [hik,hparts];exact hfill)
  have hrs:r.size=es.length*k:=by rw [hsz];simp
  have hr:r.toList=((ps.toList.map (·.2)).map a.eval).flatMap fun v=>v.cells.toList:=by
   apply List.ext_getElem?
   intro q
   rw [Array.getElem?_toList,hget q]
   have hlen3:∀x∈((ps.toList.map (·.2)).map a.eval).map (fun v=>v.cells.toList),x.length=k:=by
    intro x hx
    obtain ⟨v,hv,rfl⟩:=List.mem_map.1 hx
    simpa using h3 v hv
   by_cases hq:q<ps.size*k
   ·rw [if_pos (by simp;exact hq)]
    have hi1:q / k<ps.size:=(Nat.div_lt_iff_lt_mul hk0).2 hq
    obtain ⟨V,hv⟩:∃V,((ps.toList.map (·.2)).map a.eval)[q / k]? = some V:=⟨_,List.getElem?_eq_getElem (by simpa using hi1)⟩
    rw [Nat.sub_zero,hv,Option.bind_some,List.flatMap_def]
    have hmod:q%k<k:=Nat.mod_lt _ hk0
    have hsz':=h3 V (List.mem_of_getElem? hv)
    have hm2:q%k<V.cells.size:=by omega
    have e1:(((ps.toList.map (·.2)).map a.eval).map fun v=>v.cells.toList)[q / k]? = some V.cells.toList:=by
     rw [List.getElem?_map,hv];rfl
    have:=flat_get hlen3 e1 (j:=q%k) (List.getElem?_eq_getElem (by simpa using hm2))
    rw [Nat.mul_comm,Nat.div_add_mod] at this
    rw [this]
    simp [hm2]
   ·rw [if_neg V214]
    rw [Array.getElem?_eq_none (by simp [hl];omega),List.flatMap_def,List.getElem?_eq_none]
    rw [flat_len hlen3]
    simp;omega
  refine snd_arr hR ho hd hn (u:=.slice (some ⟨w.heap.size,0,none⟩) es.length es.length) (w':=w.alloc (.cells r e)) (xs:=r.toList) ?_ (only_alloc A _) (World.ownsRow_lit w r es.length (Nat.zero_le _) ?_ hrs) (fun b hb=>by simp [blk] at hb;omega) (by rw [hr];exact h4) h2 hk0
  ·simp only [execOp,hop,Sem.run_bind,hrun,Result.andThen_ok,Sem.run_pure]
  ·have:es.length≤es.length*k:=Nat.le_mul_of_pos_right _ hk0
   simp only [maxLen];omega
theorem snd_fn (hR:RelC C S M ι A a w)(ho:o.dst=some d)(hd:C.can d){fn:Fn}{first cs:Array Operand}(hf:first.size=0)(hop:o.op=.makeFunc fn first cs){acc:List Loc}{rs:List Loc}{ws:List Wr}
  (h:(opds cs.toList fun vs=>evFn fn d vs).run A acc=some (rs,ws)):Snd P C A ws a w o:=by
 obtain ⟨_,h⟩:=run_opds h
 have hx:=rep_evs hR cs.toList
 unfold evFn at h
 cases fn with
 |func f=>
  simp only at h
  have h0:first=#[]:=by simpa using hf
  have hrun:(execOp a.eval o).run P w=.ok (.value (.func (.func f) #[] (cs.toList.map a.eval).toArray)) w:=by simp [execOp,hop,h0,Instr.makeFunc,←Array.toList_map]
  cases hp:leafs (cs.toList.map A.ev) with
  |none=>
   simp only [hp] at h
   cases hq:leafsA (cs.toList.map A.ev) with
   |none=>simp [hq,Ev.run] at h
   |some ls=>
   simp only [hq,cloV,Ev.run] at h
   cases hn:A.obj d with
   |some y=>simp [hn,Ev.run] at h
   |none=>
   simp only [hn,Ev.run,Option.some.injEq,Prod.mk.injEq] at h
   obtain ⟨_,rfl⟩:=h
   have hall:=leafsA_rep hq hx
   have hon:Only ι A d w w:=only_refl A
   have ht:Turns ι A d (.clo f ls) (.func (.func f) #[] (cs.toList.map a.eval).toArray):=turns_new hn _ _
   have hm:=hon.mv hR ht
   exact snd_new ho hd hrun (hR.chg hon ht ⟨_,upd_same _ _ _,hall.mono fun _ _=>hm.l⟩ fun b hb=>by simp [blk] at hb) (leaf_rep ⟨rfl,(upd_same _ _ _).symm,_,obj_same _ _ _,rfl⟩)
  |some ds=>
  simp only [hp,Ev.run,Option.some.injEq,Prod.mk.injEq] at h
  obtain ⟨_,rfl⟩:=h
  have hall:=leafs_rep hp hx
  exact snd_pure hR ho hd hrun (leaf_rep (RepD.fn f ds _ hall.length.symm fun j y v h1 h2=>hall.get h1 h2))
 |_=>simp [Ev.run] at h
theorem snd_mth (hR:RelC C S M ι A a w)(ho:o.dst=some d)(hd:C.can d){fn:Fn}{first cs:Array Operand}(hc:cs.size=0)(hop:o.op=.makeFunc fn first cs){acc:List Loc}{rs:List Loc}{ws:List Wr}
  (h:(opds first.toList fun vs=>evMth fn d vs).run A acc=some (rs,ws)):Snd P C A ws a w o:=by
 obtain ⟨_,h⟩:=run_opds h
 have hx:=rep_evs hR first.toList
 unfold evMth at h
 cases fn with
 |func f=>
  simp only at h
  have h0:cs=#[]:=by simpa using hc
  have hrun:(execOp a.eval o).run P w=.ok (.value (.func (.func f) (first.toList.map a.eval).toArray #[])) w:=by simp [execOp,hop,h0,Instr.makeFunc,←Array.toList_map]
  cases hq:leafsA (first.toList.map A.ev) with
  |none=>simp [hq,Ev.run] at h
  |some ls=>
  simp only [hq,mthV,Ev.run] at h
  cases hn:A.obj d with
  |some y=>simp [hn,Ev.run] at h
  |none=>
  simp only [hn,Ev.run,Option.some.injEq,Prod.mk.injEq] at h
  obtain ⟨_,rfl⟩:=h
  have hall:=leafsA_rep hq hx
  have hon:Only ι A d w w:=only_refl A
  have ht:Turns ι A d (.mth f ls) (.func (.func f) (first.toList.map a.eval).toArray #[]):=turns_new hn _ _
  have hm:=hon.mv hR ht
  exact snd_new ho hd hrun (hR.chg hon ht ⟨_,upd_same _ _ _,hall.mono fun _ _=>hm.l⟩ fun b hb=>by simp [blk] at hb) (leaf_rep ⟨rfl,(upd_same _ _ _).symm,_,obj_same _ _ _,rfl⟩)
 |_=>simp [Ev.run] at h
end ops
end Go.Mw
namespace Go.Mw
open Go.RowKit
section ops
variable {P:Program} {C:Ctx P} {S:Settled} {M:Blocks} {ι:Nat→Value} {A:ASt} {a:Act} {w w':World} {o:Oper} {d:Nat}
theorem made_flat (z:Array Value)(n:Nat):(madeCells z (n*z.size)).toList=(List.replicate n z.toList).flatten:=by
 apply List.ext_getElem?
 intro q
 by_cases h0:z.size=0
 ·have hz:z=#[]:=Array.eq_empty_of_size_eq_zero h0
  subst hz
  simp [madeCells]
 have hlen:∀x∈List.replicate n z.toList,x.length=z.size:=by
  intro x hx
  rw [(List.mem_replicate.1 hx).2];simp
 by_cases hq:q<n*z.size
 ·have hi1:q / z.size<n:=(Nat.div_lt_iff_lt_mul (Nat.pos_of_ne_zero h0)).2 hq
  have hmod:q%z.size<z.size:=Nat.mod_lt _ (Nat.pos_of_ne_zero h0)
  have:=flat_get hlen (i:=q / z.size) (j:=q%z.size) (e:=z.toList) (by simp [List.getElem?_replicate,hi1]) (List.getElem?_eq_getElem (by simpa using hmod))
  rw [Nat.mul_comm,Nat.div_add_mod] at this
  rw [this]
  simp [madeCells,hq,hmod]
 ·rw [Array.getElem?_toList,Array.getElem?_eq_none (by simp [madeCells];omega),List.getElem?_eq_none]
  rw [flat_len hlen];simp;omega
theorem all2_flat_rep {ds:List D}{vs:List Value}(h:All2 (RepD S w) ds vs):∀n,All2 (RepD S w) (List.replicate n ds).flatten (List.replicate n vs).flatten
 |0=>by simp [All2]
 |n+1=>by simpa [List.replicate_succ] using h.append (all2_flat_rep h n)
theorem snd_make (hR:RelC C S M ι A a w)(ho:o.dst=some d)(hd:C.can d){t:TypeId}{l c:Operand}(hop:o.op=.makeSlice t l c){acc:List Loc}{rs:List Loc}{ws:List Wr}
  (h:(opd l fun a=>opd c fun b=>evMake P t d a b).run A acc=some (rs,ws)):Snd P C A ws a w o:=by
 obtain ⟨_,h⟩:=run_opd h
 obtain ⟨_,h⟩:=run_opd h
 unfold evMake at h
 cases hl:asInt (A.ev l) with
 |none=>simp [hl,Ev.run] at h
 |some q=>
 obtain ⟨kl,n⟩:=q
 cases hc:asInt (A.ev c) with
 |none=>simp [hl,hc,Ev.run] at h
 |some q=>
 obtain ⟨kc,m⟩:=q
 cases ht:tyEl P t with
 |none=>simp [hl,hc,ht,Ev.run] at h
 |some e=>
 cases hk:tySize P e with
 |none=>simp [hl,hc,ht,hk,Ev.run] at h
 |some k=>
 cases hb:tyBytes P e with
 |none=>simp [hl,hc,ht,hk,hb,Ev.run] at h
 |some bytes=>
 cases hz:zeroLs P e with
 |none=>simp [hl,hc,ht,hk,hb,hz,Ev.run] at h
 |some q=>
 obtain ⟨ag,zs⟩:=q
 simp only [hl,hc,ht,hk,hb,hz] at h
 unfold makeV at h
 simp only [Ev.run] at h
 cases hn:A.obj d with
 |some y=>simp [hn,Ev.run] at h
 |none=>
 simp only [hn] at h
 split at h
 case isFalse=>simp [Ev.run] at h
 rename_i hcond
 obtain ⟨h0,rfl,hby,h63,hk0,hzl⟩:=hcond
 simp only [Ev.run,Option.some.injEq,Prod.mk.injEq] at h
 obtain ⟨_,rfl⟩:=h
 obtain ⟨i,z,hi,hzz,_,rfl,hall⟩:=zeroLs_some hz
 obtain ⟨i',hi',hik⟩:=info_of hk
 rw [hi] at hi';simp only [Option.some.injEq] at hi';subst hi'
 have hib:i.bytes=bytes:=by simpa [tyBytes,hi] using hb
 have hxl:=asInt_rep hl (rep_ev hR l)
 have hxc:=asInt_rep hc (rep_ev hR c)
 have hzk:z.cells.size=k:=by simpa using hzl
 have hrun:=run_make (P:=P) w t e i z (und_el ht) hi hzz kl kc n n h0 (Int.le_refl _) (by rw [hib];exact hby) h63
 have hlen:(List.replicate n.toNat (z.cells.toList.map D.raw)).length=n.toNat:=by simp
 have hfl:(madeCells z.cells (n.toNat*i.size)).toList=(List.replicate n.toNat z.cells.toList).flatten:=by rw [hik,←hzk];exact made_flat z.cells n.toNat
 have:=snd_arr (P:=P) (e:=e) (k:=k) (es:=List.replicate n.toNat (z.cells.toList.map D.raw)) (xs:=(madeCells z.cells (n.toNat*i.size)).toList) hR ho hd hn
  (u:=.slice (some ⟨w.heap.size,0,none⟩) n.toNat n.toNat) (w':=w.alloc (.cells (madeCells z.cells (n.toNat*i.size)) e))
  (by simp only [execOp,hop,hxl,hxc,Sem.run_bind,hrun,Result.andThen_ok,Sem.run_pure]) (only_alloc A _)
  (by rw [hlen];exact World.ownsRow_lit w _ n.toNat (Nat.zero_le _) (by simp only [maxLen];omega) (by rw [size_madeCells,hik]))
  (fun b hb=>by simp [blk] at hb;omega) (by rw [hfl];exact all2_flat_rep (all2_rawD' hall) n.toNat) (by intro x hx;rw [(List.mem_replicate.1 hx).2];simpa using hzk) hk0
 rw [hlen] at this
 exact this
theorem all2_one {H:Nat→Option AO}{ls:List AL}{vs:List Value}(h:All2 (RepL S ι H w) ls vs):∀v∈vs,v.oneCell'=true:=by
 intro v hv
 obtain ⟨i,hi⟩:=List.getElem?_of_mem hv
 obtain ⟨l,_,hr⟩:=h.get2 hi
 exact RepL.one S ι H w hr
theorem run_storeAt {t:TypeId}{n:Nat}(hs:tySize P t=some n){b off:Nat}{v:Value}(hv:v.cells.size=n){cur:Array Value}{el:TypeId}(hg:w.heap[b]? = some (.cells cur el (0,0)))
  (hfit:off+n≤cur.size) (h1:∀u∈v.cells.toList,u.oneCell'=true) :
  (Instr.storeAt t (.pointer (some ⟨b,off,none⟩)) v).run P w=.ok () (w.setRow b (splice cur.toList off v.cells.toList).toArray):=by
 have:=run_storeCells_at P b off el v.cells.toList 0 cur w hg V214 h1
 simp only [Nat.add_zero] at this
 simp [Instr.storeAt,Instr.sureAddr,storeVar,run_size w hs,hv,this,splice]
theorem flat_set {α:Type}{k:Nat}:∀ {es:List (List α)} (i:Nat) (y:List α),(∀x∈es,x.length=k)→i<es.length→y.length=k→(es.set i y).flatten=splice es.flatten (i*k) y
 |[],i,y,_,h,_=>by simp at h
 |x::es,0,y,hk,_,hy=>by
  have hx:x.length=k:=hk x (by simp)
  simp [splice,hy,←hx]
 |x::es,i+1,y,hk,hi,hy=>by
  have hx:x.length=k:=hk x (by simp)
  have ih:=flat_set (es:=es) i y (fun z hz=>hk z (by simp [hz])) (by simpa using hi) hy
  simp only [List.set_cons_succ,List.flatten_cons,ih,splice]
  have e1:(i+1)*k=x.length+i*k:=by rw [hx,Nat.add_mul];omega
  rw [e1,List.take_length_add_append,Nat.add_assoc,List.drop_length_add_append,List.append_assoc,List.append_assoc,List.append_assoc]
theorem splice_splice {α:Type}(ls:List α)(p j k:Nat)(y ds:List α)(hy:y=(ls.drop p).take k)(hl:p+k≤ls.length)(hj:j+ds.length≤k):splice ls p (splice y j ds)=splice ls (p+j) ds:=by
 subst hy
 unfold splice
 apply List.ext_getElem?
 intro q
 simp only [List.getElem?_append,List.getElem?_take,List.getElem?_drop,List.length_append,List.length_take,List.length_drop]
 by_cases h1:q<p
 ·have e1:min p ls.length=p:=by omega
  have e2:min (p+j) ls.length=p+j:=by omega
  have e3:q<p+(min j (min k (ls.length-p))+ds.length+(min k (ls.length-p)-(j+ds.length))):=by omega
  simp [e1,e2,e3,h1,show q<p+j by omega,show q<p+j+ds.length by omega]
 ·have e1:min p ls.length=p:=by omega
  have e2:min (p+j) ls.length=p+j:=by omega
  have e3:min k (ls.length-p)=k:=by omega
  have e4:min j k=j:=by omega
  by_cases h2:q<p+j
  ·simp [e1,e2,e3,e4,h1,h2,show q<p+j+ds.length by omega,show q-p<j by omega,show q-p<j+ds.length by omega,show q<p+(j+ds.length+(k-(j+ds.length))) by omega,show q-p<k by omega,show p+(q-p)=q by omega]
  ·by_cases h3:q<p+j+ds.length
   ·simp [e1,e2,e3,e4,h1,h2,h3,show ¬q-p<j by omega,show q-p<j+ds.length by omega,show q<p+(j+ds.length+(k-(j+ds.length))) by omega,show q-p-j=q-(p+j) by omega]
   ·by_cases h4:q<p+k
    ·simp [e1,e2,e3,e4,h1,h2,h3,show ¬q-p<j by omega,show ¬q-p<j+ds.length by omega,show q<p+(j+ds.length+(k-(j+ds.length))) by omega,show j+ds.length+(q-p-(j+ds.length))<k by omega,show p+(j+ds.length+(q-p-(j+ds.length)))=p+j+ds.length+(q-(p+j+ds.length)) by omega]
    ·simp [e1,e2,e3,e4,h1,h2,h3,show ¬q<p+(j+ds.length+(k-(j+ds.length))) by omega,show p+(j+ds.length+(k-(j+ds.length)))+(q-(p+(j+ds.length+(k-(j+ds.length)))))=p+j+ds.length+(q-(p+j+ds.length)) by omega]
theorem flat_slice {α:Type}{k:Nat}:∀ {es:List (List α)} {i:Nat} {y:List α},(∀x∈es,x.length=k)→es[i]? = some y→(es.flatten.drop (i*k)).take k=y
 |[],i,y,_,h=>by simp at h
 |x::es,0,y,hk,h=>by
  simp at h;subst h
  have hx:x.length=k:=hk x (by simp)
  simp [←hx]
 |x::es,i+1,y,hk,h=>by
  have hx:x.length=k:=hk x (by simp)
  have ih:=flat_slice (es:=es) (i:=i) (fun z hz=>hk z (by simp [hz])) (by simpa using h)
  have e1:(i+1)*k=x.length+i*k:=by rw [hx,Nat.add_mul];omega
  rw [e1,List.flatten_cons,List.drop_length_add_append]
  exact ih
theorem snd_upd (hR:RelC C S M ι A a w)(ho:o.dst=none){q:Nat}{x:AO}{u:Value}(hr:(execOp a.eval o).run P w=.ok .skip w')
  (hR':RelC C S (grow M w w') (upd ι q u) (A.put [.obj q x]) a w'):Snd P C A [.obj q x] a w o:=
 have _:=hR
 .inr ⟨_,hr,by rw [ho];exact ⟨S,_,upd ι q u,hR'⟩⟩
theorem snd_store (hR:RelC C S M ι A a w)(ho:o.dst=none){t:TypeId}{x y:Operand}(hop:o.op=.store t x y){acc:List Loc}{rs:List Loc}{ws:List Wr}
  (h:(opd x fun av=>opd y fun v=>evStore P t av v).run A acc=some (rs,ws)):Snd P C A ws a w o:=by
 obtain ⟨_,h⟩:=run_opd h
 obtain ⟨_,h⟩:=run_opd h
 have hx:=rep_ev hR x
 have hy:=rep_ev hR y
 unfold evStore at h
 split at h
 case h_2=>simp [Ev.run] at h
 case h_3=>simp [Ev.run] at h
 case h_4=>simp [Ev.run] at h
 rename_i ag xs e;rw [e] at hy
 cases hs:tySize P t with
 |none=>simp [hs,Ev.run] at h
 |some n=>
 simp only [hs] at h
 split at h
 case isFalse=>simp [Ev.run] at h
 rename_i hxl
 have hcs:=RepC.cells S ι A.obj w hy
 have hvl:(a.eval y).cells.size=n:=by have:=hcs.length;simp at this;omega
 have hone:=all2_one hcs
 unfold storeV at h
 split at h
 ·rename_i ob off e';rw [e'] at hx
  obtain ⟨ls0,b,hob,hι,hv⟩:=rep_leaf hx
  simp only [Ev.run,hob] at h
  split at h
  case isFalse=>simp [Ev.run] at h
  rename_i hle
  simp only [Ev.run,Option.some.injEq,Prod.mk.injEq] at h
  obtain ⟨_,rfl⟩:=h
  obtain ⟨b',vs,el,hι',hheap,hall,hS⟩:=hR.objs ob _ hob
  rw [hι] at hι';simp only [Value.pointer.injEq,Option.some.injEq,Addr.mk.injEq,and_true] at hι';subst hι'
  have hlen:=hall.length
  have hrun:=run_storeAt (P:=P) (w:=w) hs (b:=b) (off:=off) hvl hheap V214 hone
  have hon:Only ι A ob w (w.setRow b (splice vs.toArray.toList off (a.eval y).cells.toList).toArray):=only_row hob (by rw [hι];rfl) _
  have ht:Turns ι A ob (.cells (splice ls0 off xs)) (ι ob):=by unfold Turns;rw [hob];exact ⟨⟨_,rfl⟩,rfl⟩
  have hm:=hon.mv hR ht
  refine snd_upd hR ho ?_ (hR.chg hon ht ⟨b,_,el,by rw [upd_same];exact hι,setRow_heap w b _ _ el _ hheap,(all2_splice hall off hcs).mono fun _ _=>hm.l,hS⟩ fun b1 hb1=>.inr ⟨_,hob,hb1⟩)
  simp [execOp,hop,hv,hrun]
 ·rename_i ob i j tot e';rw [e'] at hx
  obtain ⟨_,el,k,es,hob,htl,hval⟩:=rep_leaf hx
  simp only [Ev.run,hob] at h
  cases hp:pures xs with
  |none=>simp [hp,Ev.run] at h
  |some ds=>
  cases hei:es[i]? with
  |none=>simp [hp,hei,Ev.run] at h
  |some yy=>
  simp only [hp,hei] at h
  split at h
  case isFalse=>simp [Ev.run] at h
  rename_i hc
  obtain ⟨htot,hjn,hyk⟩:=hc
  simp only [Ev.run,Option.some.injEq,Prod.mk.injEq] at h
  obtain ⟨_,rfl⟩:=h
  obtain ⟨hi,hj,b,c,hι,hv⟩:=hval htot
  obtain ⟨xs0,hown,hall,hk,hk0,hS⟩:=hR.objs ob _ hob
  have hds:=pures_rep hp hcs
  have hdl:ds.length=n:=by rw [hds.length];simpa using hvl
  rcases hown.2 with ⟨hτ,_⟩|⟨g,cap,cur,hτ,hB,hheap,hcap,hmax,hcur,htake⟩
  ·rw [hι] at hτ;simp at hτ
  rw [hι] at hτ;simp only [Value.slice.injEq,Option.some.injEq,Addr.mk.injEq,and_true] at hτ
  obtain ⟨rfl,_,rfl⟩:=hτ
  have hin:i*k+j+n≤es.length*k:=by
   calc i*k+j+n≤i*k+k:=by omega
    _=(i+1)*k:=by rw [Nat.add_mul,Nat.one_mul]
    _≤es.length*k:=Nat.mul_le_mul_right _ (by omega)
  have hcm:es.length*k≤cur.size:=by rw [hcur];exact Nat.mul_le_mul_right _ hcap
  have hrun:=run_storeAt (P:=P) (w:=w) hs (b:=b) (off:=i*k+j) hvl hheap (by omega) hone
  have hon:Only ι A ob w (w.setRow b (splice cur.toList (i*k+j) (a.eval y).cells.toList).toArray):=only_row hob (by rw [hι];rfl) _
  have hil:i<es.length:=by omega
  have hnl:(splice yy j ds).length=k:=by unfold splice;simp;omega
  have ht:Turns ι A ob (.arr el k (es.set i (splice yy j ds))) (ι ob):=by unfold Turns;rw [hob];exact ⟨_,rfl,by simp,fun _=>rfl⟩
  have hm:=hon.mv hR ht
  have hfl:(es.set i (splice yy j ds)).flatten=splice es.flatten (i*k+j) ds:=by
   rw [flat_set i _ hk hil hnl]
   refine splice_splice es.flatten (i*k) j k yy ds (flat_slice hk hei).symm ?_ (by omega)
   rw [flat_len hk]
   calc i*k+k=(i+1)*k:=by rw [Nat.add_mul,Nat.one_mul]
    _≤es.length*k:=Nat.mul_le_mul_right _ (by omega)
  have hxs:xs0.length=es.length*k:=hown.1
  have hvc:(a.eval y).cells.toList.length=n:=by simpa using hvl
  refine snd_upd hR ho ?_ (hR.chg hon ht ⟨splice xs0 (i*k+j) (a.eval y).cells.toList,?_,?_,?_,hk0,fun b1 hb1=>hS b1 (by rw [upd_same] at hb1;exact hb1)⟩ fun b1 hb1=>.inr ⟨_,hob,hb1⟩)
  ·simp [execOp,hop,hv,hrun]
  ·rw [upd_same,hι,List.length_set,←htot]
   refine ⟨by unfold splice;simp;omega,.inr ⟨b,c,_,rfl,hB,setRow_heap w b _ _ el _ hheap,hcap,hmax,?_,?_⟩⟩
   ·rw [List.size_toArray,←hcur]
    unfold splice;simp;omega
   ·unfold splice
    rw [←htake]
    apply List.ext_getElem?
    intro q
    have e2:min (i*k+j) cur.toList.length=i*k+j:=by simp;omega
    have e3:min (es.length*k) cur.toList.length=es.length*k:=by simp;omega
    have e4:min (i*k+j) (es.length*k)=i*k+j:=by omega
    simp only [List.getElem?_append,List.getElem?_take,List.getElem?_drop,List.length_append,List.length_take,hvc,e2,e3,e4]
    by_cases q1:q<i*k+j
    ·simp [q1,show q<es.length*k by omega,show q<i*k+j+n by omega]
    ·by_cases q2:q<i*k+j+n
     ·simp [q1,q2,show q<es.length*k by omega]
     ·by_cases q3:q<es.length*k
      ·simp [q1,q2,q3,show i*k+j+n+(q-(i*k+j+n))=q by omega]
      ·simp [q1,q2,q3,show i*k+j+n+(q-(i*k+j+n))=q by omega]
  ·rw [hfl]
   exact (all2_splice hall _ hds).mono fun _ _=>hm.d _ _
  ·intro z hz
   rcases List.mem_or_eq_of_mem_set hz with hz|rfl
   ·exact hk z hz
   ·exact hnl
 ·simp [Ev.run] at h
end ops
end Go.Mw

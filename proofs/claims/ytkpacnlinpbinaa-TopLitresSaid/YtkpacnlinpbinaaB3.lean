/- The code of a function over abstract states does in the model what it does to a state; no condition but those in each. -/
import Derived.Test.YtkpacnlinpbinaaB2
import Derived.Scope
set_option linter.unusedSimpArgs false
set_option linter.unusedVariables false
set_option linter.unusedSectionVars false
set_option linter.deprecated false
namespace Go.Mw
open Go.RowKit
section enter
variable {P:Program} {C:Ctx P} {S:Settled} {M:Blocks} {ι:Nat→Value} {A:ASt} {a:Act} {w:World}
theorem marks_of {ds:List Deferred}{rs:List Nat}(h:ds=rs.map mark){r:Nat}(hr:mark r∈ds):r∈rs:=by
 subst h
 obtain ⟨q,hq,e⟩:=List.mem_map.1 hr
 simp only [mark,Deferred.mk.injEq,Target.collected.injEq,and_true] at e
 exact e▸hq
theorem RelC.laid (hR:RelC C S M ι A a w)(x:Obj):RelC C S (grow M w (w.alloc x)) ι A a (w.alloc x):=by
 have hk:∀k,k<w.heap.size→(w.alloc x).heap[k]? = w.heap[k]? :=fun k hk=>Below.heap_alloc w x k hk
 refine hR.far (U:=M) hR.own (fun r hr=>?_) (fun l r h=>(hR.rdok l r h).1) (fun k h=>hk k (hR.minn k h)) (by simp) (fun b o h=>World.cell?_of_block (hk b (hR.inn b o h))) (fun _ _ h=>h) (fun _=>.inl) (fun _ _ h=>.inl h)
  (fun b o h=>Nat.lt_of_lt_of_le (hR.inn b o h) (by simp)) (fun k h=>?_) (C.E.step hR.env ⟨rfl,rfl,rfl,by simp,fun k h _=>hk k h,fun b o h=>World.cell?_of_block (hk b (hR.inn b o h))⟩ (fun _=>.inl) (fun _=>id) (fun _ _ h=>h) fun _ _ h=>.inl h)
 ·obtain ⟨rs,h1,_,h3⟩:=hR.marks
  exact (h3 r (marks_of h1 hr)).1
 ·rcases h with h|h
  ·exact Nat.lt_of_lt_of_le (hR.minn k h) (by simp)
  ·exact h.2
theorem enter_ok (hR:RelC C S M ι A a w)(fn:FuncId)(ps:Array Tmp)(assign body:Code):∃l D mk w1 M1,(Instr.enterLoop fn a.tmps ps assign body (fen C).round).run P w=.ok (l,mk) w1 ∧
  RelC C S M1 ι A { a with defers:=mk++a.defers } w1∧w1.heap[l]? = some (.loop (recOf fn a.tmps ps assign body D .ready none))∧M1 l∧(∀l0 r,C.rd=some (l0,r)→l0≠l)∧(∀b o,S b o→w1.cell? ⟨b,o,none⟩=w.cell? ⟨b,o,none⟩):=by
 cases hrd:C.rd with
 |none=>
  have hf:(fen C).round=none:=by unfold fen;rw [hrd];rfl
  rw [hf]
  have h1:=(hR.laid (.deferred (some []))).laid (.loop (recOf fn a.tmps ps assign body w.heap.size .ready none))
  have hc:∀b o,S b o→((w.alloc (.deferred (some []))).alloc (.loop (recOf fn a.tmps ps assign body w.heap.size .ready none))).cell? ⟨b,o,none⟩=w.cell? ⟨b,o,none⟩:=fun b o h=>
   World.cell?_of_block ((Below.heap_alloc _ _ _ (by have:=hR.inn b o h;simp;omega)).trans (Below.heap_alloc w _ _ (hR.inn b o h)))
  refine ⟨w.heap.size+1,w.heap.size,_,_,_,run_enterLoop_outer fn a.tmps ps assign body,{ h1 with marks:=?_ },?_,?_,(by simp),hc⟩
  ·obtain ⟨rs,e1,e2,e3⟩:=h1.marks
   obtain ⟨rs',e1',e2',e3'⟩:=hR.marks
   have hrs:rs=rs':=mark_inj (e1.symm.trans e1')
   subst hrs
   refine ⟨w.heap.size::rs,by simp [e1,mark],List.nodup_cons.2 ⟨fun hm=>?_,e2⟩,fun r hr=>?_⟩
   ·have:=hR.minn _ (e3' _ hm).1;omega
   ·rcases List.mem_cons.1 hr with rfl|hr
    ·refine ⟨.inl (.inr ⟨by omega,by simp⟩),?_⟩
     exact (Below.heap_alloc _ _ _ (by simp)).trans (World.alloc_heap_new w _)
    ·exact e3 r hr
  ·have:=World.alloc_heap_new (w.alloc (.deferred (some []))) (.loop (recOf fn a.tmps ps assign body w.heap.size .ready none))
   rwa [World.size_alloc] at this
  ·exact .inr ⟨by simp,by simp⟩
 |some q=>
  obtain ⟨l0,r0⟩:=q
  have hf:(fen C).round=some l0:=by unfold fen;rw [hrd];rfl
  rw [hf]
  have hl0:=hR.rdok l0 r0 hrd
  have h1:=hR.laid (.loop (recOf fn a.tmps ps assign body r0.defers .ready none))
  refine ⟨w.heap.size,r0.defers,[],_,_,run_enterLoop_inner hl0.2 fn a.tmps ps assign body,h1,World.alloc_heap_new w _,.inr ⟨Nat.le_refl _,by simp⟩,fun l1 r1 e=>?_,fun b o h=>World.cell?_of_block (Below.heap_alloc w _ _ (hR.inn b o h))⟩
  simp only [Option.some.injEq,Prod.mk.injEq] at e
  have:=hR.minn _ hl0.1
  omega
end enter
theorem dst_and {p q:Nat→Bool}:∀ {c:Code},dstOK p c=true→dstOK q c=true→dstOK (fun d=>p d&&q d) c=true
 |.skip,_,_=>rfl
 |.region _ ops _,h,h'=>by
  refine Array.all_eq_true_iff_forall_mem.2 fun o ho=>?_
  have h1:=Array.all_eq_true_iff_forall_mem.1 h o ho
  have h2:=Array.all_eq_true_iff_forall_mem.1 h' o ho
  cases hd:o.dst with
  |none=>rfl
  |some d=>simp only [hd] at h1 h2 ⊢;simp [h1,h2]
 |.seq x y,h,h'=>by
  simp only [dstOK,Bool.and_eq_true] at h h' ⊢
  exact ⟨dst_and h.1 h'.1,dst_and h.2 h'.2⟩
 |.cond _ x y,h,h'=>by
  simp only [dstOK,Bool.and_eq_true] at h h' ⊢
  exact ⟨dst_and h.1 h'.1,dst_and h.2 h'.2⟩
 |.block _ x,h,h'=>dst_and (c:=x) h h'
 |.loop x,h,h'=>dst_and (c:=x) h h'
 |.rangeFunc _ ps x y,h,h'=>by
  simp only [dstOK,Bool.and_eq_true,List.all_eq_true] at h h' ⊢
  exact ⟨fun d hd=>⟨h.1 d hd,h'.1 d hd⟩,dst_and h.2.1 h'.2.1,dst_and h.2.2 h'.2.2⟩
 |.exit _,_,_=>rfl
 |.scope x,h,h'=>dst_and (c:=x) h h'
 |.label _,_,_=>rfl
 |.goto _,_,_=>rfl
 |.ret,_,_=>rfl
 |.refuse _,_,_=>rfl
theorem dst_spec {p:Nat→Bool}{id:Nat}{ops:Array Oper}{dr:Bool}(h:dstOK p (.region id ops dr)=true){o:Oper}(ho:o∈ops){d:Nat}(hd:o.dst=some d):p d=true:=by
 have:=Array.all_eq_true_iff_forall_mem.1 h o ho
 simpa [hd] using this
theorem least {p:Nat→Prop}(h:∃n,p n):∃n,p n∧∀m,p m→n≤m:=by
 obtain ⟨n,hn⟩:=h
 induction n using Nat.strongRecOn with
 |_ n ih=>
  by_cases hm:∃m,m<n∧p m
  ·obtain ⟨m,hlt,hm⟩:=hm
   exact ih m hlt hm
  ·exact ⟨n,hn,fun m hpm=>Nat.le_of_not_lt fun hlt=>hm ⟨m,hlt,hpm⟩⟩
theorem close_rec {P:Program}{C:Ctx P}{a1:Act}{l:Nat}{w:World}{Sc:Settled}{Mt:Blocks}{ι:Nat→Value}{A3:ASt}{r:Loop}(hR:RelC C Sc Mt ι A3 a1 w)(hl:w.heap[l]? = some (.loop r))(hM:Mt l)(hrd:∀l0 r0,C.rd=some (l0,r0)→l0≠l)(r':Loop):Rel C A3 a1 (w.putObj l (.loop r')):=by
 refine ⟨Sc,Mt,ι,hR.far (U:=fun k=>Mt k∧k≠l) (fun o x k ho hk=>⟨hR.own o x k ho hk,fun e=>?_⟩) (fun r hr=>?_) (fun l0 r0 h0=>⟨(hR.rdok l0 r0 h0).1,hrd l0 r0 h0⟩) (fun k hk=>World.putObj_heap_other hk.2) (by simp) (fun b o _=>cell_putObj hl _)
  (fun _ _ h=>h) (fun _ h=>h) (fun _ _ h=>.inl h) (fun b o hs=>by simpa using hR.inn b o hs) (fun k hk=>by simpa using hR.minn k hk) (C.E.step hR.env (fr_putObj hl hM) (fun _ h=>h) (fun _ h=>.inl h) (fun _ _ h=>h) fun _ _ h=>.inl h)⟩
 ·obtain ⟨_,_,z,hz,hd⟩:=(hR.objs o x ho).blk_ge hk
  rw [e,hl] at hz;cases hz;cases hd
 ·obtain ⟨rs,h1,_,h3⟩:=hR.marks
  have hm:=h3 r (marks_of h1 hr)
  exact ⟨hm.1,fun e=>by rw [e,hl] at hm;cases hm.2⟩
section lent
variable {P:Program} {C:Ctx P} {S:Settled} {M:Blocks} {ι:Nat→Value} {A:ASt} {a:Act} {w:World}
theorem RelC.restr {A':ASt}(hR:RelC C S M ι A a w)(h:Restr A A'):RelC C S M ι A' a w:=by
 obtain ⟨hv,ho,hb⟩:=h
 refine ⟨hR.sub,hR.new,hR.inn,hR.minn,hR.sz,fun s=>hv S ι w s _ (hR.tms s),fun o x' h=>?_,fun o o' x x' b h h'=>?_,fun o x b h=>?_,?_,fun o h=>?_,hR.fixed,hR.marks,hR.rdok,fun q u n x h1 h2=>?_,hR.pinN⟩
 ·obtain ⟨x,hx,hok,_⟩:=ho S ι w o x' h
  exact hok (hR.objs o x hx)
 ·obtain ⟨y,hy,_⟩:=ho S ι w o x h
  obtain ⟨y',hy',_⟩:=ho S ι w o' x' h'
  exact hR.dis o o' y y' b hy hy'
 ·obtain ⟨y,hy,_⟩:=ho S ι w o x h
  exact hR.own o y b hy
 ·rw [hb];exact hR.env
 ·obtain ⟨y,hy,_,ht,_⟩:=ho S ι w o _ h
  rw [ht rfl] at hy
  exact hR.tok o hy
 ·obtain ⟨y,hy,_,_,hp⟩:=ho S ι w q _ h2
  exact hp _ _ _ (hR.pinned q u n y h1 hy)
theorem FL.ren_id (l:FL):l.ren (fun q=>q)=l:=by cases l<;>rfl
theorem AL.ren_id (l:AL):l.ren (fun q=>q)=l:=by
 cases l<;>first|rfl|(simp only [AL.ren];congr 1;exact (List.map_congr_left fun x _=>FL.ren_id x).trans (List.map_id _))
theorem als_ren_id (ls:List AL):ls.map (·.ren fun q=>q)=ls:=(List.map_congr_left fun x _=>AL.ren_id x).trans (List.map_id _)
theorem AO.ren_id (x:AO):x.ren (fun q=>q)=x:=by
 cases x with
 |cells ls=>simp only [AO.ren];rw [als_ren_id]
 |clo f ls=>simp only [AO.ren];rw [als_ren_id]
 |mth f ls=>simp only [AO.ren];rw [als_ren_id]
 |pin v l=>simp only [AO.ren];rw [AL.ren_id]
 |iter ls n s c=>simp only [AO.ren];rw [als_ren_id]
 |map es=>
  simp only [AO.ren]
  congr 1
  exact (List.map_congr_left fun p _=>by rw [als_ren_id];rfl).trans (List.map_id _)
 |_=>rfl
theorem look_pre {pre ob:List (Nat × AO)}{q:Nat}{x:AO}(h:look pre q=some x):look (pre++ob) q=some x:=by rw [look_append,h]
theorem look_rest {pre ob:List (Nat × AO)}{q:Nat}(h:look pre q=none):look (pre++ob) q=look ob q:=by rw [look_append,h]
theorem RelC.regain {pre obs:List (Nat × AO)}{S':Settled}{M':Blocks}{ι' ιp:Nat→Value}(hR:RelC C S M ι A a w)(hb:backOK pre obs A.ob)(hS:∀b o,S' b o→S b o)(hSc:∀b o,S b o→M' b→S' b o)(hM:∀k,M' k→M k)
  (hfar:∀o x k,A.obj o=some x→blk (ι o)=some k→¬M' k) (hobjs:∀o x,look obs o=some x→ObjOK S' ι' (look obs) w o x) (hdis:∀o o' x x' b,look obs o=some x→look obs o'=some x' → o≠o' → blk (ι' o)=some b→blk (ι' o')≠some b)
  (hown:∀o x b,look obs o=some x→blk (ι' o)=some b→M' b) (hsame:∀o x x',look pre o=some x→look obs o=some x' → Same1 x x' (ι' o) (ιp o)) (hpin:∀q u n x,C.pin q=some (u,n)→look pre q=some x→x.pinned u (ιp q) n) :
  RelC C S M (fun o=>if (look obs o).isSome then ι' o else ι o) ⟨A.tm,obs++A.ob,A.bh⟩ a w:=by
 have eN:∀ {o x},look obs o=some x→(if (look obs o).isSome then ι' o else ι o)=ι' o:=fun h=>by rw [h];rfl
 have eO:∀ {o x},A.obj o=some x→look obs o=none:=fun {o x} h=>by
  cases ho:look obs o with
  |none=>rfl
  |some y=>have:=(hb o y ho).1;rw [show look A.ob o=A.obj o from rfl,h] at this;cases this
 have eO':∀ {o x},A.obj o=some x→(if (look obs o).isSome then ι' o else ι o)=ι o:=fun h=>by rw [eO h];rfl
 have gO:∀ {o x},A.obj o=some x→look (obs++A.ob) o=some x:=fun h=>by rw [look_rest (eO h)];exact h
 have hmA:Mv S ι A.obj w S (fun o=>if (look obs o).isSome then ι' o else ι o) (look (obs++A.ob)) w:=⟨fun _ _ h=>h,fun o ls h=>⟨⟨ls,gO h⟩,eO' h⟩,fun o e k es h=>⟨es,gO h,Nat.le_refl _,fun _=>eO' h⟩,fun b o hs=>⟨hs,rfl⟩,fun o x h hx=>⟨⟨x,gO h,hx⟩,eO' h⟩⟩
 have hmN:Mv S' ι' (look obs) w S (fun o=>if (look obs o).isSome then ι' o else ι o) (look (obs++A.ob)) w:=⟨fun _ _ h=>h.mono hS fun _ _ _=>rfl,fun o ls h=>⟨⟨ls,look_pre h⟩,eN h⟩,fun o e k es h=>⟨es,look_pre h,Nat.le_refl _,fun _=>eN h⟩,fun b o hs=>⟨hS b o hs,rfl⟩,fun o x h hx=>⟨⟨x,look_pre h,hx⟩,eN h⟩⟩
 have split:∀ {o x},look (obs++A.ob) o=some x→(look obs o=some x)∨(look obs o=none∧A.obj o=some x):=fun {o x} h=>by
  rw [look_append] at h
  cases ho:look obs o with
  |some y=>rw [ho] at h;exact .inl h
  |none=>rw [ho] at h;exact .inr ⟨rfl,h⟩
 exact {
  sub:=hR.sub,new:=hR.new,inn:=hR.inn,minn:=hR.minn,sz:=hR.sz
  tms:=fun s=>hmA.v (hR.tms s)
  objs:=fun o x h=>by
   rcases split h with h|⟨_,h⟩
   ·exact (hobjs o x h).other hmN (eN h) (fun _ _=>rfl) fun b off hk hs=>hSc b off hs (hown o x b h hk)
   ·exact (hR.objs o x h).other hmA (eO' h) (fun _ _=>rfl) fun _ _ _ h=>h
  dis:=fun o o' x x' b h h' hne hk=>by
   rcases split h with h|⟨_,h⟩<;>rcases split h' with h'|⟨_,h'⟩
   ·rw [eN h] at hk;rw [eN h'];exact hdis o o' x x' b h h' hne hk
   ·rw [eN h] at hk;rw [eO' h'];exact fun hk'=>hfar o' x' b h' hk' (hown o x b h hk)
   ·rw [eO' h] at hk;rw [eN h'];exact fun hk'=>hfar o x b h hk (hown o' x' b h' hk')
   ·rw [eO' h] at hk;rw [eO' h'];exact hR.dis o o' x x' b h h' hne hk
  own:=fun o x b h hk=>by
   rcases split h with h|⟨_,h⟩
   ·rw [eN h] at hk;exact hM b (hown o x b h hk)
   ·rw [eO' h] at hk;exact hR.own o x b h hk
  env:=hR.env
  tok:=fun o h=>by
   rcases split h with h|⟨_,h⟩
   ·exact absurd rfl (hb o _ h).2.1
   ·show (if (look obs o).isSome then ι' o else ι o)=_
    rw [eO' h];exact hR.tok o h
  fixed:=hR.fixed,marks:=hR.marks,rdok:=hR.rdok
  pinned:=fun q u n x hq h=>by
   rcases split h with h|⟨_,h⟩
   ·show x.pinned u (if (look obs q).isSome then ι' q else ι q) n
    rw [eN h]
    obtain ⟨_,_,y,hy,hbk⟩:=hb q x h
    have hs:=hsame q y x hy h
    have hz:=hpin q u n y hq hy
    cases y with
    |cells ls=>obtain ⟨ls',rfl⟩:=hbk;exact hs.trans hz
    |arr e k es=>
     obtain ⟨es',rfl,hlen⟩:=hbk
     simp only [AO.pinned] at hz ⊢
     exact ⟨by omega,fun he=>by rw [hs.2 (by omega)];exact hz.2 (by omega)⟩
    |_=>
     have hz:ιp q=u:=hz
     simp only [Back] at hbk
     cases x<;>first|exact hs.trans hz|simp [AO.whole] at hbk
   ·show x.pinned u (if (look obs q).isSome then ι' q else ι q) n
    rw [eO' h];exact hR.pinned q u n x hq h
  pinN:=hR.pinN }
end lent
section scope
variable {P:Program} {b:Frame} {a:Act} {k:List Item} {cs:List Frame} {w:World} {F:Fence} {n:Nat} {Q:Exit→Act→World→Prop}
theorem stepR_scope {c:Code}:step P (lone (b.atR a (.code (.scope c)::k)) cs w)=.next (lone (b.atR a (.code c :: .inScope c::k)) cs w):=
 step_lone_go (by simp [stepG,stepG.exec,Frame.atR])
theorem stepR_inScope {c:Code}:step P (lone (b.atR a (.inScope c::k)) cs w)=.next (lone (b.atR a k) cs w):=
 step_lone_go (by simp [stepG,stepG.exec,Frame.atR])
theorem wpIn_scope {c:Code}(h:c.wpIn F n P (Exit.noGoto Q) a w):(Code.scope c).wpIn F n P Q a w:=by
 intro b k cs hro hb hr
 have h0:(lone (b.atR a (.code (.scope c)::k)) cs w).fenced P F:=fenced_calm hb hr rfl
 obtain ⟨e,a₁,w₁,hq,harr⟩:=h b (.inScope c::k) cs hro hb hr
 cases e with
 |normal=>exact ⟨.normal,a₁,w₁,hq,.head h0 stepR_scope (StepsIn.trans harr (.one (fenced_calm hb hr rfl) stepR_inScope))⟩
 |exit id=>
  have hx:exitTo id (.inScope c::k)=exitTo id k:=by simp [exitTo]
  exact ⟨.exit id,a₁,w₁,hq,fun k' hk=>.head h0 stepR_scope (harr.1 k' (by rw [hx];exact hk)),
   fun hr' hk=>let ⟨k₁,h1,h2⟩:=harr.2 hr' (by rw [hx];exact hk);⟨k₁,h1,.head h0 stepR_scope h2⟩⟩
 |goto l=>exact hq.elim
 |ret=>exact ⟨_,a₁,w₁,hq,.of_steps (.one h0 stepR_scope) harr⟩
 |panic ch=>exact ⟨_,a₁,w₁,hq,.of_steps (.one h0 stepR_scope) harr⟩
 |outgrown=>exact ⟨_,a₁,w₁,hq,.of_steps (.one h0 stepR_scope) harr⟩
end scope
theorem exec_sound {P:Program}(hm:P.follows .mixedOrders=true):∀(c:Code) (p:Nat→Bool),dstOK p c=true→Sound P p c
 |.skip,_,_,C,Φ,A,a,w,_,h,hR,Q,hQ=>wpIn_skip (hQ _ _ _ _ h hR)
 |.region id ops false,p,hd,C,Φ,A,a,w,hp,h,hR,Q,hQ=>wpIn_region_list (by
  rcases h with h|h
  ·exact run_sound h (fun o ho d hod=>hp d (dst_spec hd (by simpa using ho) hod)) a w hR fun A' a' w' h1 h2=>hQ _ _ _ _ h1 h2
  ·exact runP_sound h (fun o ho d hod=>hp d (dst_spec hd (by simpa using ho) hod)) a w hR fun pv A' a' w' h1 h2=>hQ _ _ _ _ h1 h2)
 |.region id ops true,p,hd,C,Φ,A,a,w,hp,h,hR,Q,hQ=>by
  rcases h with ⟨A',hg,h⟩|⟨A',hg,h⟩
  ·refine open_sound hm h (fun i o ho d hod=>hp d (dst_spec hd (Array.mem_of_getElem? ho) hod)) (hg P C a w hR) fun B a' w' h1 h2=>?_
   obtain ⟨B',hg',h1⟩:=h1
   exact hQ _ _ _ _ h1 (hg' P C a' w' h2)
  ·exact openP_sound hm h (fun i o ho d hod=>hp d (dst_spec hd (Array.mem_of_getElem? ho) hod)) (hg P C a w hR) fun pv A' a' w' h1 h2=>hQ _ _ _ _ h1 h2
 |.seq x y,p,hd,C,Φ,A,a,w,hp,h,hR,Q,hQ=>by
  simp only [dstOK,Bool.and_eq_true] at hd
  refine wpIn_seq (exec_sound hm x p hd.1 C _ A a w hp h hR _ fun e A' a' w' h1 h2=>?_)
  cases e with
  |normal=>
   obtain ⟨B,hg,h1⟩:=h1
   exact exec_sound hm y p hd.2 C _ B a' w' hp h1 (hg P C a' w' h2) Q hQ
  |_=>exact hQ _ _ _ _ h1 h2
 |.cond c x y,p,hd,C,Φ,A,a,w,hp,h,hR,Q,hQ=>by
  simp only [dstOK,Bool.and_eq_true] at hd
  obtain ⟨b,hb,h1,h2⟩:=h
  obtain ⟨S,M,ι,hR'⟩:=id hR
  have hv:=asBool_rep hb (rep_ev hR' c)
  exact wpIn_cond_split hv (fun e=>exec_sound hm x p hd.1 C _ A a w hp (h1 e) hR Q hQ) (fun e=>exec_sound hm y p hd.2 C _ A a w hp (h2 e) hR Q hQ)
 |.block id x,p,hd,C,Φ,A,a,w,hp,h,hR,Q,hQ=>by
  refine wpIn_block (exec_sound hm x p hd C _ A a w hp h hR _ fun e A' a' w' h1 h2=>?_)
  cases e with
  |exit j=>
   simp only [Exit.inBlock]
   simp only at h1
   split
   ·rename_i hj;rw [if_pos hj] at h1;exact hQ _ _ _ _ h1 h2
   ·rename_i hj;rw [if_neg hj] at h1;exact hQ _ _ _ _ h1 h2
  |_=>exact hQ _ _ _ _ h1 h2
 |.loop x,p,hd,C,Φ,A,a,w,hp,h,hR,Q,hQ=>by
  obtain ⟨I,⟨n0,A0,hg0,h0⟩,hround⟩:=h
  let J:Act→World→Nat→Prop:=fun a w n=>∃A,I n A∧Rel C A a w
  classical
  let μ:Act→World→Nat:=fun a w=>if h:∃n,J a w n then Classical.choose (least h) else 0
  have hμ:∀ {a:Act} {w:World} {n:Nat},J a w n→μ a w≤n:=fun {a w n} hJ=>by
   have hex:∃n,J a w n:=⟨n,hJ⟩
   have:μ a w=Classical.choose (least hex):=by simp only [μ];rw [dif_pos hex]
   rw [this]
   exact (Classical.choose_spec (least hex)).2 n hJ
  refine wpIn_loop (fun a w=>∃n,J a w n) μ ⟨n0,A0,h0,hg0 P C a w hR⟩ fun a w hex=>?_
  have heq:μ a w=Classical.choose (least hex):=by simp only [μ];rw [dif_pos hex]
  have hmin:=Classical.choose_spec (least hex)
  rw [←heq] at hmin
  obtain ⟨A1,hI,hR1⟩:=hmin.1
  refine exec_sound hm x p hd C _ A1 a w hp (hround _ A1 hI) hR1 _ fun e A2 a2 w2 h1 h2=>?_
  cases e with
  |normal=>
   obtain ⟨m,A3,hlt,hg,hI3⟩:=h1
   have hJ:J a2 w2 m:=⟨A3,hI3,hg P C a2 w2 h2⟩
   exact ⟨⟨m,hJ⟩,Nat.lt_of_le_of_lt (hμ hJ) hlt⟩
  |_=>exact hQ _ _ _ _ h1 h2
 |.exit id,_,_,C,Φ,A,a,w,_,h,hR,Q,hQ=>wpIn_exit (hQ _ _ _ _ h hR)
 |.ret,_,_,C,Φ,A,a,w,_,h,hR,Q,hQ=>wpIn_ret (hQ _ _ _ _ h hR)
 |.rangeFunc g ps assign body,p,hd,C,Φ,A,a,w,hp,h,hR,Q,hQ=>by
  obtain ⟨gf,ds,args,T,b0,tm0,tm,ob,bh,X,pre,hg,hcan,hwk,hcon,hgh,hrs,hlo,hX0,hld,hX,hret⟩:=h
  simp only [dstOK,Bool.and_eq_true] at hd
  have hld':=hld
  simp only [loopDst,Bool.and_eq_true] at hld'
  have hsa:=exec_sound hm assign (fun d=>p d&&off (tm.map Prod.fst) d) (dst_and hd.2.1 hld'.1.2)
  have hsb:=exec_sound hm body (fun d=>p d&&off (tm.map Prod.fst) d) (dst_and hd.2.2 hld'.2)
  obtain ⟨S,M,ι,hRf0⟩:=hgh P C a w hR
  have hR:=hRf0.restr hrs
  have hgv:=rep_ev hR g
  rw [hg] at hgv
  obtain ⟨us,hgv,hus⟩:∃us:List Value,a.eval g=.func (.func gf) #[] us.toArray∧All2 (RepD S w) ds us:=by
   have hgv:=rep_leaf hgv
   cases hge:a.eval g<;>rw [hge] at hgv<;>try (cases hgv;done)
   cases hgv with
   |fn _ _ us hl hr=>exact ⟨us,rfl,All2.ofGet hl.symm fun i x v h1 h2=>hr i x v h1 h2⟩
  refine wpIn_rangeFunc fun fn _=>?_
  obtain ⟨l,D,mk,w1,M1,hent,hRf,hl,hMl,hrd,hcell⟩:=enter_ok hRf0 fn ps assign body
  have hR1:=hRf.restr hrs
  let Φ':List (Nat × AO)→Exit→ASt→Prop:=fun obs e A3=>backOK pre obs A3.ob∧Φ e ⟨A3.tm,obs++A3.ob,A3.bh⟩
  let a1:Act:={ a with defers:=mk++a.defers }
  let E1:Env P:={
   l:=l
   J:=fun b S M w=>Jit C a1 l (recOf fn a1.tmps ps assign body D) (fun b=>⟨tm,ob b,bh b⟩) X Φ' b S M w∧GOk P S w
   glob:=fun h=>h.2
   step:=fun h hf hM hN hS hT=>⟨Jit.step h.1 hf hM hN hS hT,h.2.step hS hf.cell⟩
   yld:=fun hJ hvs=>by
    obtain ⟨fn,tmps,assign,body,hy,hR⟩:=jit_yld (Φ:=Φ') (p:=p) hp hd.1 hld hsa hsb hX hJ.1 hvs
    exact ⟨fn,tmps,assign,body,hy,hR.mono fun e w' ⟨r,he,hk,hJ'⟩=>⟨r,he,hk,hJ',hJ.2.step (fun _ _ h=>h) hk.cell⟩⟩ }
  let ιc:Nat→Value:=fun q=>if q=T then .func (.yield l) #[] #[] else ι q
  have hcT:ιc T=.func (.yield l) #[] #[]:=if_pos rfl
  have hcO:∀ {q},q≠T→ιc q=ι q:=fun h=>if_neg h
  have hpT:∀ {q x},look pre q=some x→q≠T:=fun {q x} h e=>by rw [e,hlo.1] at h;cases h
  have lT:∀ {q x},look ((T,AO.yl)::pre) q=some x→(q=T∧x=.yl)∨(q≠T∧look pre q=some x):=fun {q x} h=>by
   by_cases e:q=T
   ·subst e;simp [look] at h;exact .inl ⟨rfl,h.symm⟩
   ·simp only [look,if_neg e] at h;exact .inr ⟨e,h⟩
  have lN:∀ {q x},look pre q=some x→look ((T,AO.yl)::pre) q=some x:=fun {q x} h=>by simp only [look,if_neg (hpT h)];exact h
  let LB:Blocks:=fun k=>∃q x,look pre q=some x∧blk (ι q)=some k
  have hLM:∀k,LB k→M1 k:=fun k ⟨q,x,h1,h2⟩=>hRf.own q x k (look_pre h1) h2
  have hLd:∀k y,LB k→w1.heap[k]? = some y→isData y=true:=fun k y ⟨q,x,h1,h2⟩ hy=>by
   obtain ⟨_,_,z,hz,hd⟩:=(hRf.objs q x (look_pre h1)).blk_ge h2
   rw [hy] at hz;cases hz;exact hd
  have hfull:∀ {o x},(ASt.mk tm (ob b0) (bh b0)).obj o=some x→look pre o=none:=fun {o x} h=>by
   cases ho:look pre o with
   |none=>rfl
   |some y=>have h1:=(hlo.2 o y ho).2.2;rw [show look (ob b0) o=(ASt.mk tm (ob b0) (bh b0)).obj o from rfl,h] at h1;cases h1
  have hargs:All2 (RepV S ιc (look ((T,.yl)::pre)) w1) (.leaf (.obj T)::args) (.func (.yield l) #[] #[]::us):=by
   refine ⟨leaf_rep ⟨rfl,hcT.symm,.yl,by simp [look],rfl⟩,?_⟩
   have h1:All2 (RepV S ι (ASt.mk tm (ob b0) (bh b0)).obj w) (ds.map fun x=>.leaf (.d x)) us:=all2_map (R:=RepD S w) (fun x=>AV.leaf (.d x)) (fun _ _ h=>leaf_rep h) hus
   generalize (ds.map fun x=>AV.leaf (.d x))=l1 at hwk h1
   clear hcon hgv hus
   induction args generalizing l1 us with
   |nil=>cases l1 with
    |nil=>cases us with
     |nil=>trivial
     |cons _ _=>exact h1.elim
    |cons _ _=>exact hwk.elim
   |cons y ys ih=>cases l1 with
    |nil=>exact hwk.elim
    |cons x xs=>cases us with
     |nil=>exact h1.elim
     |cons v vs=>exact ⟨repV_mono (fun _ _ h=>h) hcell (hwk.1 S ι _ w v h1.1),ih vs xs hwk.2 h1.2⟩
  refine ⟨l,mk,w1,{ target:=.fn (.func gf) us.toArray,args:=#[.func (.yield l) #[] #[]] },w1,gf,#[.func (.yield l) #[] #[]]++us.toArray,w1,hent,?_,fun _ _=>fen_fn C _,?_,fen_isSome C,callsIn_fen C ?_⟩
  ·simp only [resolve,hgv]
   simp [go_sem]
  ·simp [invoke,run_callFunc hcan]
  ·have e1:#[.func (.yield l) #[] #[]]++us.toArray=((.func (.yield l) #[] #[]::us):List Value).toArray:=by apply Array.ext';simp
   rw [e1]
   have hcal:=hcon E1 S LB ιc w1 _ hR1.inn (fun k hk=>hRf.minn k (hLM k hk)) ?_ ?_ ?_ ?_ hargs ?_
   ·refine hcal.mono fun e w' he=>?_
    obtain ⟨v,res,obs,S',M',ι',rfl,_,⟨⟨Sc,Mt,U,ι3,A3,st,pe,hj⟩,_⟩,hp⟩:=he
    have hend:∀(hb:backOK pre obs A3.ob) (r':Loop),Rel C ⟨A3.tm,obs++A3.ob,A3.bh⟩ a1 (w'.putObj l (.loop r')):=fun hb r'=>
     close_rec (RelC.regain hj.rel hb hj.ssc hj.scs hj.mmt (fun o x k ho hk hm=>hj.apart k (hj.uobj o x k ho hk) hm) hp.objs hp.dis hp.own (fun o x x' h1 h2=>by have:=hp.same o x x' (lN h1) h2;rw [hcO (hpT h1)] at this;exact this) fun q u n x hq hx=>hRf.pinned q u n x hq (look_pre hx))
      hj.hl (hj.umt l hj.ul) (fun l0 r0 h0=>(hj.urd l0 r0 h0).2) r'
    rcases hj.mode with ⟨rfl,rfl,hx,rfl⟩|⟨_,_,hb,rfl,e,c,hc,rfl,hΦ⟩
    ·obtain ⟨hb,hΦ⟩:=hret res obs hx
     exact ⟨none,_,run_endLoop hj.hl (by simp [recOf]),hQ _ _ _ _ hΦ (hend hb _)⟩
    ·cases hb
     refine ⟨some c,_,run_endLoop hj.hl (by simp [recOf]),?_⟩
     cases e with
     |ret=>cases hc;exact wpIn_ret (hQ _ _ _ _ hΦ.2 (hend hΦ.1 _))
     |exit i=>cases hc;exact wpIn_exit (hQ _ _ _ _ hΦ.2 (hend hΦ.1 _))
     |_=>cases hc
   ·intro o x h
    rcases lT h with ⟨rfl,rfl⟩|⟨hne,h⟩
    ·exact ⟨l,hcT⟩
    ·have hH:∀q∈nms pre,∃x y,look pre q=some x∧(ASt.mk tm0 (pre++ob b0) (bh b0)).obj q=some y∧OLe y (x.ren fun q=>q):=fun q hq=>by
      obtain ⟨p,hp,rfl⟩:=List.mem_map.1 hq
      obtain ⟨x,hx⟩:=look_mem hp
      exact ⟨x,x,hx,look_pre hx,by rw [AO.ren_id];exact OLe.refl x⟩
     have h1:=objOK_un (r:=fun q=>q) hH (fun ls e t ht=>ht) (by rw [AO.ren_id];exact OLe.refl x) (hlo.2 o x h).2.1 (hRf.objs o x (look_pre h))
     have hm:Mv S ι (look pre) w1 S ιc (look ((T,.yl)::pre)) w1:=⟨fun _ _ h=>h,fun o ls h=>⟨⟨ls,lN h⟩,hcO (hpT h)⟩,fun o e k es h=>⟨es,lN h,Nat.le_refl _,fun _=>hcO (hpT h)⟩,fun b o hs=>⟨hs,rfl⟩,fun o x h hx=>⟨⟨x,lN h,hx⟩,hcO (hpT h)⟩⟩
     exact h1.other hm (hcO hne) (fun _ _=>rfl) fun _ _ _ h=>h
   ·intro o o' x x' b h h' hne hk
    rcases lT h with ⟨rfl,rfl⟩|⟨hn,h⟩
    ·rw [hcT] at hk;simp [blk] at hk
    ·rw [hcO hn] at hk
     rcases lT h' with ⟨rfl,rfl⟩|⟨hn',h'⟩
     ·rw [hcT];simp [blk]
     ·rw [hcO hn'];exact hRf.dis o o' x x' b (look_pre h) (look_pre h') hne hk
   ·intro o x b h hk
    rcases lT h with ⟨rfl,rfl⟩|⟨hn,h⟩
    ·rw [hcT] at hk;simp [blk] at hk
    ·rw [hcO hn] at hk;exact ⟨o,x,h,hk⟩
   ·intro o h
    rcases lT h with ⟨rfl,_⟩|⟨hn,h⟩
    ·exact hcT
    ·exact absurd rfl (hlo.2 o _ h).1
   ·exact ⟨⟨S,M1,fun k=>M1 k∧¬LB k,ι,_,.ready,none,{
     rel:=hR1,umt:=fun _ h=>h.1,apart:=fun _ h=>h.2,mmt:=hLM
     uobj:=fun o x k ho hk=>⟨hR1.own o x k ho hk,fun ⟨q,y,hq,hb⟩=>hRf.dis o q x y k ((look_rest (hfull ho)).trans ho) (look_pre hq) (fun e=>by have:=hfull ho;rw [e,hq] at this;cases this) hk hb⟩
     umark:=fun r hr=>by obtain ⟨rs,h1,_,h3⟩:=hR1.marks;have:=h3 r (marks_of h1 hr);exact ⟨this.1,fun hb=>by have:=hLd r _ hb this.2;cases this⟩
     urd:=fun l0 r0 h0=>⟨⟨(hR1.rdok l0 r0 h0).1,fun hb=>by have:=hLd l0 _ hb (hR1.rdok l0 r0 h0).2;cases this⟩,hrd l0 r0 h0⟩
     ul:=⟨hMl,fun hb=>by have:=hLd l _ hb hl;cases this⟩,hl:=hl,ssc:=fun _ _ h=>h,scs:=fun _ _ h _=>h,mode:=.inl ⟨rfl,rfl,hX0,rfl⟩ }⟩,C.E.glob hR1.env⟩
 |.label l,_,_,C,Φ,A,a,w,_,h,hR,Q,hQ=>wpIn_label (hQ _ _ _ _ h hR)
 |.scope x,p,hd,C,Φ,A,a,w,hp,h,hR,Q,hQ=>by
  refine wpIn_scope (exec_sound hm x p hd C _ A a w hp h hR _ fun e A' a' w' h1 h2=>?_)
  cases e with
  |goto l=>exact h1.elim
  |_=>exact hQ _ _ _ _ h1 h2
 |.goto _,_,_,_,_,_,_,_,_,h,_,_,_=>h.elim
 |.refuse _,_,_,_,_,_,_,_,_,h,_,_,_=>h.elim
end Go.Mw

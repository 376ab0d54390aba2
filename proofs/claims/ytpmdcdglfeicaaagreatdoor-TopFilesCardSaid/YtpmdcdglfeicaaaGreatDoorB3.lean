/- The code of a function over abstract states does in the model what it does to a state; no condition but those in each. -/
import Derived.Test.YtpmdcdglfeicaaaGreatDoorB2
import Derived.Scope
set_option linter.unusedSimpArgs false
set_option linter.unusedVariables false
set_option linter.unusedSectionVars false
set_option linter.deprecated false
namespace Go.Mw
open Go.RowKit
section enter
variable {P:Program} {C:Ctx P} {S:JZ} {M:J3} {ι:Nat→Value} {A:JD} {a:Act} {w:World}
theorem JJk {ds:List Deferred}{rs:List Nat}(h:ds=rs.map mark){r:Nat}(hr:mark r∈ds):r∈rs:=by
 subst h
 obtain ⟨q,hq,e⟩:=List.mem_map.1 hr
 simp only [mark,Deferred.mk.injEq,Target.collected.injEq,and_true] at e
 exact e▸hq
theorem Jb.laid (hR:Jb C S M ι A a w)(x:Obj):Jb C S (grow M w (w.alloc x)) ι A a (w.alloc x):=by
 have hk:∀k,k<w.heap.size→(w.alloc x).heap[k]? = w.heap[k]? :=fun k hk=>Below.heap_alloc w x k hk
 refine hR.far (U:=M) hR.own (fun r hr=>?_) (fun l r h=>(hR.rdok l r h).1) (fun k h=>hk k (hR.minn k h)) (by simp) (fun b o h=>World.cell?_of_block (hk b (hR.inn b o h))) (fun _ _ h=>h) (fun _=>.inl) (fun _ _ h=>.inl h)
  (fun b o h=>Nat.lt_of_lt_of_le (hR.inn b o h) (by simp)) (fun k h=>?_) (C.E.step hR.env ⟨rfl,rfl,rfl,by simp,fun k h _=>hk k h,fun b o h=>World.cell?_of_block (hk b (hR.inn b o h))⟩ (fun _=>.inl) (fun _=>id) (fun _ _ h=>h) fun _ _ h=>.inl h)
 ·obtain ⟨rs,h1,_,h3⟩:=hR.marks
  exact (h3 r (JJk h1 hr)).1
 ·rcases h with h|h
  ·exact Nat.lt_of_lt_of_le (hR.minn k h) (by simp)
  ·exact h.2
theorem JRC (hR:Jb C S M ι A a w)(fn:FuncId)(ps:Array Tmp)(assign body:Code):∃l D mk w1 M1,(Instr.enterLoop fn a.tmps ps assign body (QX C).round).run P w=.ok (l,mk) w1 ∧
  Jb C S M1 ι A { a with defers:=mk++a.defers } w1∧w1.heap[l]? = some (.loop (Zm fn a.tmps ps assign body D .ready none))∧M1 l∧(∀l0 r,C.rd=some (l0,r)→l0≠l)∧(∀b o,S b o→w1.cell? ⟨b,o,none⟩=w.cell? ⟨b,o,none⟩):=by
 cases hrd:C.rd with
 |none=>
  have hf:(QX C).round=none:=by unfold QX;rw [hrd];rfl
  rw [hf]
  have h1:=(hR.laid (.deferred (some []))).laid (.loop (Zm fn a.tmps ps assign body w.heap.size .ready none))
  have hc:∀b o,S b o→((w.alloc (.deferred (some []))).alloc (.loop (Zm fn a.tmps ps assign body w.heap.size .ready none))).cell? ⟨b,o,none⟩=w.cell? ⟨b,o,none⟩:=fun b o h=>
   World.cell?_of_block ((Below.heap_alloc _ _ _ (by have:=hR.inn b o h;simp;omega)).trans (Below.heap_alloc w _ _ (hR.inn b o h)))
  refine ⟨w.heap.size+1,w.heap.size,_,_,_,run_enterLoop_outer fn a.tmps ps assign body,{ h1 with marks:=?_ },?_,?_,(by simp),hc⟩
  ·obtain ⟨rs,e1,e2,e3⟩:=h1.marks
   obtain ⟨rs',e1',e2',e3'⟩:=hR.marks
   have hrs:rs=rs':=JJj (e1.symm.trans e1')
   subst hrs
   refine ⟨w.heap.size::rs,by simp [e1,mark],List.nodup_cons.2 ⟨fun hm=>?_,e2⟩,fun r hr=>?_⟩
   ·have:=hR.minn _ (e3' _ hm).1;omega
   ·rcases List.mem_cons.1 hr with rfl|hr
    ·refine ⟨.inl (.inr ⟨by omega,by simp⟩),?_⟩
     exact (Below.heap_alloc _ _ _ (by simp)).trans (World.alloc_heap_new w _)
    ·exact e3 r hr
  ·have:=World.alloc_heap_new (w.alloc (.deferred (some []))) (.loop (Zm fn a.tmps ps assign body w.heap.size .ready none))
   rwa [World.size_alloc] at this
  ·exact .inr ⟨by simp,by simp⟩
 |some q=>
  obtain ⟨l0,r0⟩:=q
  have hf:(QX C).round=some l0:=by unfold QX;rw [hrd];rfl
  rw [hf]
  have hl0:=hR.rdok l0 r0 hrd
  have h1:=hR.laid (.loop (Zm fn a.tmps ps assign body r0.defers .ready none))
  refine ⟨w.heap.size,r0.defers,[],_,_,run_enterLoop_inner hl0.2 fn a.tmps ps assign body,h1,World.alloc_heap_new w _,.inr ⟨Nat.le_refl _,by simp⟩,fun l1 r1 e=>?_,fun b o h=>World.cell?_of_block (Below.heap_alloc w _ _ (hR.inn b o h))⟩
  simp only [Option.some.injEq,Prod.mk.injEq] at e
  have:=hR.minn _ hl0.1
  omega
end enter
theorem JBH {p q:Nat→Bool}:∀ {c:Code},Yf p c=true→Yf q c=true→Yf (fun d=>p d&&q d) c=true
 |.skip,_,_=>rfl
 |.region _ ops _,h,h'=>by
  refine Array.all_eq_true_iff_forall_mem.2 fun o ho=>?_
  have h1:=Array.all_eq_true_iff_forall_mem.1 h o ho
  have h2:=Array.all_eq_true_iff_forall_mem.1 h' o ho
  cases hd:o.dst with
  |none=>rfl
  |some d=>simp only [hd] at h1 h2 ⊢;simp [h1,h2]
 |.seq x y,h,h'=>by
  simp only [Yf,Bool.and_eq_true] at h h' ⊢
  exact ⟨JBH h.1 h'.1,JBH h.2 h'.2⟩
 |.cond _ x y,h,h'=>by
  simp only [Yf,Bool.and_eq_true] at h h' ⊢
  exact ⟨JBH h.1 h'.1,JBH h.2 h'.2⟩
 |.block _ x,h,h'=>JBH (c:=x) h h'
 |.loop x,h,h'=>JBH (c:=x) h h'
 |.rangeFunc _ ps x y,h,h'=>by
  simp only [Yf,Bool.and_eq_true,List.all_eq_true] at h h' ⊢
  exact ⟨fun d hd=>⟨h.1 d hd,h'.1 d hd⟩,JBH h.2.1 h'.2.1,JBH h.2.2 h'.2.2⟩
 |.exit _,_,_=>rfl
 |.scope x,h,h'=>JBH (c:=x) h h'
 |.label _,_,_=>rfl
 |.goto _,_,_=>rfl
 |.ret,_,_=>rfl
 |.refuse _,_,_=>rfl
theorem JGu {p:Nat→Bool}{id:Nat}{ops:Array Oper}{dr:Bool}(h:Yf p (.region id ops dr)=true){o:Oper}(ho:o∈ops){d:Nat}(hd:o.dst=some d):p d=true:=by
 have:=Array.all_eq_true_iff_forall_mem.1 h o ho
 simpa [hd] using this
theorem least {p:Nat→Prop}(h:∃n,p n):∃n,p n∧∀m,p m→n≤m:=by
 obtain ⟨n,hn⟩:=h
 induction n using Nat.strongRecOn with
 |_ n ih=>
  by_cases hm:∃m,m<n∧p m
  ·obtain ⟨m,hlt,hm⟩:=hm
   exact ih m hlt hm
  ·exact ⟨n,hn,fun m hpm=>Nat.le_of_not_lt fun hlt=>hm ⟨m,hlt,hpm⟩⟩
theorem JR1 {P:Program}{C:Ctx P}{a1:Act}{l:Nat}{rc:LoopState→Option Code→Loop}{St:Jc→JD}{X:Jc→Prop}{Φ:Exit→JD→Prop}{b:Jc}{S:JZ}{M:J3}{w:World}
  {Sc:JZ} {Mt U:J3} {ι:Nat→Value} {A3:JD} {st:LoopState} {pe:Option Code} (h:JHs C a1 l rc St X Φ b S M w Sc Mt U ι A3 st pe) (r':Loop):J7 C A3 a1 (w.putObj l (.loop r')):=by
 have hR:=h.rel
 refine ⟨Sc,Mt,ι,hR.far (U:=fun k=>Mt k∧k≠l) (fun o x k ho hk=>⟨hR.own o x k ho hk,fun e=>?_⟩) (fun r hr=>?_) (fun l0 r0 h0=>⟨(hR.rdok l0 r0 h0).1,(h.urd l0 r0 h0).2⟩) (fun k hk=>World.putObj_heap_other hk.2) (by simp) (fun b o _=>JC1 h.hl _)
  (fun _ _ h=>h) (fun _ h=>h) (fun _ _ h=>.inl h) (fun b o hs=>by simpa using hR.inn b o hs) (fun k hk=>by simpa using hR.minn k hk) (C.E.step hR.env (JI5 h.hl (h.umt l h.ul)) (fun _ h=>h) (fun _ h=>.inl h) (fun _ _ h=>h) fun _ _ h=>.inl h)⟩
 ·obtain ⟨_,_,z,hz,hd⟩:=(hR.objs o x ho).blk_ge hk
  rw [e,h.hl] at hz;cases hz;cases hd
 ·obtain ⟨rs,h1,_,h3⟩:=hR.marks
  have hm:=h3 r (JJk h1 hr)
  exact ⟨hm.1,fun e=>by rw [e,h.hl] at hm;cases hm.2⟩
section scope
variable {P:Program} {b:Frame} {a:Act} {k:List Item} {cs:List Frame} {w:World} {F:Fence} {n:Nat} {Q:Exit→Act→World→Prop}
theorem JEU {c:Code}:step P (lone (b.atR a (.code (.scope c)::k)) cs w)=.next (lone (b.atR a (.code c :: .inScope c::k)) cs w):=
 step_lone_go (by simp [stepG,stepG.exec,Frame.atR])
theorem JU3 {c:Code}:step P (lone (b.atR a (.inScope c::k)) cs w)=.next (lone (b.atR a k) cs w):=
 step_lone_go (by simp [stepG,stepG.exec,Frame.atR])
theorem JVm {c:Code}(h:c.wpIn F n P (Exit.noGoto Q) a w):(Code.scope c).wpIn F n P Q a w:=by
 intro b k cs hro hb hr
 have h0:(lone (b.atR a (.code (.scope c)::k)) cs w).fenced P F:=fenced_calm hb hr rfl
 obtain ⟨e,a₁,w₁,hq,harr⟩:=h b (.inScope c::k) cs hro hb hr
 cases e with
 |normal=>exact ⟨.normal,a₁,w₁,hq,.head h0 JEU (StepsIn.trans harr (.one (fenced_calm hb hr rfl) JU3))⟩
 |exit id=>
  have hx:exitTo id (.inScope c::k)=exitTo id k:=by simp [exitTo]
  exact ⟨.exit id,a₁,w₁,hq,fun k' hk=>.head h0 JEU (harr.1 k' (by rw [hx];exact hk)),
   fun hr' hk=>let ⟨k₁,h1,h2⟩:=harr.2 hr' (by rw [hx];exact hk);⟨k₁,h1,.head h0 JEU h2⟩⟩
 |goto l=>exact hq.elim
 |ret=>exact ⟨_,a₁,w₁,hq,.of_steps (.one h0 JEU) harr⟩
 |panic ch=>exact ⟨_,a₁,w₁,hq,.of_steps (.one h0 JEU) harr⟩
 |outgrown=>exact ⟨_,a₁,w₁,hq,.of_steps (.one h0 JEU) harr⟩
end scope
theorem JBI {P:Program}(hm:P.follows .mixedOrders=true):∀(c:Code) (p:Nat→Bool),Yf p c=true→JHv P p c
 |.skip,_,_,C,Φ,A,a,w,_,h,hR,Q,hQ=>wpIn_skip (hQ _ _ _ _ h hR)
 |.region id ops false,p,hd,C,Φ,A,a,w,hp,h,hR,Q,hQ=>wpIn_region_list (by
  rcases h with h|h
  ·exact JOI h (fun o ho d hod=>hp d (JGu hd (by simpa using ho) hod)) a w hR fun A' a' w' h1 h2=>hQ _ _ _ _ h1 h2
  ·exact JTw h (fun o ho d hod=>hp d (JGu hd (by simpa using ho) hod)) a w hR fun pv A' a' w' h1 h2=>hQ _ _ _ _ h1 h2)
 |.region id ops true,p,hd,C,Φ,A,a,w,hp,h,hR,Q,hQ=>by
  rcases h with ⟨A',hg,h⟩|⟨A',hg,h⟩
  ·refine JSq hm h (fun i o ho d hod=>hp d (JGu hd (Array.mem_of_getElem? ho) hod)) (hg P C a w hR) fun B a' w' h1 h2=>?_
   obtain ⟨B',hg',h1⟩:=h1
   exact hQ _ _ _ _ h1 (hg' P C a' w' h2)
  ·exact JSm hm h (fun i o ho d hod=>hp d (JGu hd (Array.mem_of_getElem? ho) hod)) (hg P C a w hR) fun pv A' a' w' h1 h2=>hQ _ _ _ _ h1 h2
 |.seq x y,p,hd,C,Φ,A,a,w,hp,h,hR,Q,hQ=>by
  simp only [Yf,Bool.and_eq_true] at hd
  refine wpIn_seq (JBI hm x p hd.1 C _ A a w hp h hR _ fun e A' a' w' h1 h2=>?_)
  cases e with
  |normal=>
   obtain ⟨B,hg,h1⟩:=h1
   exact JBI hm y p hd.2 C _ B a' w' hp h1 (hg P C a' w' h2) Q hQ
  |_=>exact hQ _ _ _ _ h1 h2
 |.cond c x y,p,hd,C,Φ,A,a,w,hp,h,hR,Q,hQ=>by
  simp only [Yf,Bool.and_eq_true] at hd
  obtain ⟨b,hb,h1,h2⟩:=h
  obtain ⟨S,M,ι,hR'⟩:=id hR
  have hv:=JLa hb (J4 hR' c)
  exact wpIn_cond_split hv (fun e=>JBI hm x p hd.1 C _ A a w hp (h1 e) hR Q hQ) (fun e=>JBI hm y p hd.2 C _ A a w hp (h2 e) hR Q hQ)
 |.block id x,p,hd,C,Φ,A,a,w,hp,h,hR,Q,hQ=>by
  refine wpIn_block (JBI hm x p hd C _ A a w hp h hR _ fun e A' a' w' h1 h2=>?_)
  cases e with
  |exit j=>
   simp only [Exit.inBlock]
   simp only at h1
   split
   ·rename_i hj;rw [if_pos hj] at h1;exact hQ _ _ _ _ h1 h2
   ·rename_i hj;rw [if_neg hj] at h1;exact hQ _ _ _ _ h1 h2
  |_=>exact hQ _ _ _ _ h1 h2
 |.loop x,p,hd,C,Φ,A,a,w,hp,h,hR,Q,hQ=>by
  obtain ⟨I,⟨n0,A0,hg0,h0⟩,hround⟩:=h
  let J:Act→World→Nat→Prop:=fun a w n=>∃A,I n A∧J7 C A a w
  classical
  let μ:Act→World→Nat:=fun a w=>if h:∃n,J a w n then Classical.choose (least h) else 0
  have hμ:∀ {a:Act} {w:World} {n:Nat},J a w n→μ a w≤n:=fun {a w n} hJ=>by
   have hex:∃n,J a w n:=⟨n,hJ⟩
   have:μ a w=Classical.choose (least hex):=by simp only [μ];rw [dif_pos hex]
   rw [this]
   exact (Classical.choose_spec (least hex)).2 n hJ
  refine wpIn_loop (fun a w=>∃n,J a w n) μ ⟨n0,A0,h0,hg0 P C a w hR⟩ fun a w hex=>?_
  have heq:μ a w=Classical.choose (least hex):=by simp only [μ];rw [dif_pos hex]
  have hmin:=Classical.choose_spec (least hex)
  rw [←heq] at hmin
  obtain ⟨A1,hI,hR1⟩:=hmin.1
  refine JBI hm x p hd C _ A1 a w hp (hround _ A1 hI) hR1 _ fun e A2 a2 w2 h1 h2=>?_
  cases e with
  |normal=>
   obtain ⟨m,A3,hlt,hg,hI3⟩:=h1
   have hJ:J a2 w2 m:=⟨A3,hI3,hg P C a2 w2 h2⟩
   exact ⟨⟨m,hJ⟩,Nat.lt_of_le_of_lt (hμ hJ) hlt⟩
  |_=>exact hQ _ _ _ _ h1 h2
 |.exit id,_,_,C,Φ,A,a,w,_,h,hR,Q,hQ=>wpIn_exit (hQ _ _ _ _ h hR)
 |.ret,_,_,C,Φ,A,a,w,_,h,hR,Q,hQ=>wpIn_ret (hQ _ _ _ _ h hR)
 |.rangeFunc g ps assign body,p,hd,C,Φ,A,a,w,hp,h,hR,Q,hQ=>by
  obtain ⟨gf,ds,args,T,b0,tm,ob,bh,X,hg,hcan,hwk,hcon,hgh,hX0,hld,hX,hret⟩:=h
  simp only [Yf,Bool.and_eq_true] at hd
  have hld':=hld
  simp only [JFa,Bool.and_eq_true] at hld'
  have hsa:=JBI hm assign (fun d=>p d&&off (tm.map Prod.fst) d) (JBH hd.2.1 hld'.1.2)
  have hsb:=JBI hm body (fun d=>p d&&off (tm.map Prod.fst) d) (JBH hd.2.2 hld'.2)
  obtain ⟨S,M,ι,hR⟩:=hgh P C a w hR
  have hgv:=J4 hR g
  rw [hg] at hgv
  obtain ⟨us,hgv,hus⟩:∃us:List Value,a.eval g=.func (.func gf) #[] us.toArray∧JO (RepD S w) ds us:=by
   have hgv:=Jm hgv
   cases hge:a.eval g<;>rw [hge] at hgv<;>try (cases hgv;done)
   cases hgv with
   |fn _ _ us hl hr=>exact ⟨us,rfl,JO.ofGet hl.symm fun i x v h1 h2=>hr i x v h1 h2⟩
  refine wpIn_rangeFunc fun fn _=>?_
  obtain ⟨l,D,mk,w1,M1,hent,hR1,hl,hMl,hrd,hcell⟩:=JRC hR fn ps assign body
  let a1:Act:={ a with defers:=mk++a.defers }
  let E1:Env P:={
   l:=l
   J:=fun b S M w=>Jit C a1 l (Zm fn a1.tmps ps assign body D) (fun b=>⟨tm,ob b,bh b⟩) X Φ b S M w∧ZZ P S w
   glob:=fun h=>h.2
   step:=fun h hf hM hN hS hT=>⟨Jit.step h.1 hf hM hN hS hT,h.2.step hS hf.cell⟩
   yld:=fun hJ hvs=>by
    obtain ⟨fn,tmps,assign,body,hy,hR⟩:=JR2 (p:=p) hp hd.1 hld hsa hsb hX hJ.1 hvs
    exact ⟨fn,tmps,assign,body,hy,hR.mono fun e w' ⟨r,he,hk,hJ'⟩=>⟨r,he,hk,hJ',hJ.2.step (fun _ _ h=>h) hk.cell⟩⟩ }
  have hargs:JO (Jk S (fun _=>.func (.yield l) #[] #[]) (look [(T,.yl)]) w1) (.leaf (.obj T)::args) (.func (.yield l) #[] #[]::us):=by
   refine ⟨Qc ⟨rfl,rfl,.yl,by simp [look],rfl⟩,?_⟩
   have h1:JO (Jk S ι (JD.mk tm (ob b0) (bh b0)).obj w) (ds.map fun x=>.leaf (.d x)) us:=Qv (R:=RepD S w) (fun x=>AV.leaf (.d x)) (fun _ _ h=>Qc h) hus
   generalize (ds.map fun x=>AV.leaf (.d x))=l1 at hwk h1
   clear hcon hgv hus
   induction args generalizing l1 us with
   |nil=>cases l1 with
    |nil=>cases us with
     |nil=>trivial
     |cons _ _=>exact h1.elim
    |cons _ _=>exact hwk.elim
   |cons y ys ih=>cases l1 with
    |nil=>exact hwk.elim
    |cons x xs=>cases us with
     |nil=>exact h1.elim
     |cons v vs=>exact ⟨JN2 (fun _ _ h=>h) hcell (hwk.1 S ι _ w v h1.1),ih vs xs hwk.2 h1.2⟩
  refine ⟨l,mk,w1,{ target:=.fn (.func gf) us.toArray,args:=#[.func (.yield l) #[] #[]] },w1,gf,#[.func (.yield l) #[] #[]]++us.toArray,w1,hent,?_,fun _ _=>JDw C _,?_,JFP C,JGk C ?_⟩
  ·simp only [resolve,hgv]
   simp [go_sem]
  ·simp [invoke,JFn hcan]
  ·have e1:#[.func (.yield l) #[] #[]]++us.toArray=((.func (.yield l) #[] #[]::us):List Value).toArray:=by apply Array.ext';simp
   rw [e1]
   have hT:∀o x,look [(T,AO.yl)] o=some x→o=T∧x=.yl:=fun o x h=>by
    by_cases e:o=T
    ·subst e;simp [look] at h;exact ⟨rfl,h.symm⟩
    ·simp [look,e] at h
   refine (hcon E1 S (fun _=>False) (fun _=>.func (.yield l) #[] #[]) w1 _ hR1.inn (fun _ h=>h.elim) (fun o x h=>?_) (fun o o' x x' b _ _ _ h=>?_) (fun o x b _ h=>?_) (fun o _=>rfl) hargs ?_).mono fun e w' he=>?_
   ·obtain ⟨_,rfl⟩:=hT o x h;exact ⟨l,rfl⟩
   ·simp [blk] at h
   ·simp [blk] at h
   ·exact ⟨⟨S,M1,M1,ι,_,.ready,none,{
     rel:=hR1,umt:=fun _ h=>h,apart:=fun _ _ h=>h,mmt:=fun _ h=>h.elim,uobj:=hR1.own
     umark:=fun r hr=>by obtain ⟨rs,h1,_,h3⟩:=hR1.marks;exact (h3 r (JJk h1 hr)).1
     urd:=fun l0 r0 h0=>⟨(hR1.rdok l0 r0 h0).1,hrd l0 r0 h0⟩
     ul:=hMl,hl:=hl,ssc:=fun _ _ h=>h,scs:=fun _ _ _ h=>h.elim,mode:=.inl ⟨rfl,rfl,hX0,rfl⟩ }⟩,C.E.glob hR1.env⟩
   ·obtain ⟨v,res,obs,S',M',ι',rfl,_,⟨⟨Sc,Mt,U,ι3,A3,st,pe,hj⟩,_⟩,_⟩:=he
    have hend:=JR1 hj
    rcases hj.mode with ⟨rfl,rfl,hx,rfl⟩|⟨_,rfl,e,c,hc,rfl,hΦ⟩
    ·exact ⟨none,_,run_endLoop hj.hl (by simp [Zm]),hQ _ _ _ _ (hret res obs hx) (hend _)⟩
    ·refine ⟨some c,_,run_endLoop hj.hl (by simp [Zm]),?_⟩
     cases e with
     |ret=>cases hc;exact wpIn_ret (hQ _ _ _ _ hΦ (hend _))
     |exit i=>cases hc;exact wpIn_exit (hQ _ _ _ _ hΦ (hend _))
     |_=>cases hc
 |.label l,_,_,C,Φ,A,a,w,_,h,hR,Q,hQ=>wpIn_label (hQ _ _ _ _ h hR)
 |.scope x,p,hd,C,Φ,A,a,w,hp,h,hR,Q,hQ=>by
  refine JVm (JBI hm x p hd C _ A a w hp h hR _ fun e A' a' w' h1 h2=>?_)
  cases e with
  |goto l=>exact h1.elim
  |_=>exact hQ _ _ _ _ h1 h2
 |.goto _,_,_,_,_,_,_,_,_,h,_,_,_=>h.elim
 |.refuse _,_,_,_,_,_,_,_,_,h,_,_,_=>h.elim
end Go.Mw

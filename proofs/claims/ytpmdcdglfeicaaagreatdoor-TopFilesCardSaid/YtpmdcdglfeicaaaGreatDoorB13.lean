/- Contracts of the sorting functions: exchanges and merges. -/
import Derived.Test.YtpmdcdglfeicaaaGreatDoorD1
import Derived.Test.YtpmdcdglfeicaaaGreatDoorB5
import Derived.Test.YtpmdcdglfeicaaaGreatDoorB12
import Derived.Test.YtpmdcdglfeicaaaGreatDoorB4
set_option maxRecDepth 20000
set_option maxHeartbeats 64000000
set_option linter.unusedSimpArgs false
set_option linter.unusedVariables false
set_option linter.unusedSectionVars false
set_option linter.deprecated false
namespace Go.Mw.Cd
open Go.Proofs
theorem JIk {g:FuncId}{ds:List D}(p u m v q:List Qo)(n:Nat)(huv:u.length=v.length)(hn:p.length+u.length+m.length+v.length+q.length=n)(hn2:n≤1000):Qg Tryz.prog 218 [.leaf (.own 900 0 n n),.int p.length,.int ((p.length+u.length+m.length:Nat):Int),.int u.length,.leaf (.d (.fn g ds))] [(900,.arr 112 4 ((Yh p u m v q 0).map YC))] (.ret (.tup []) [(900,.arr 112 4 ((Yh p u m v q u.length).map YC))]):=by
 refine Jq Jj Tryz.func218 rfl (by simp only [List.length_cons,List.length_nil,Tryz.ntmps218];omega) JL rfl ?_
 refine JB.reg ?_
 refine JA.o ?_
 refine JA.nil (JB.blk1 ?_)
 refine JB.forA [0,1,2,3,10] [900] (u.length) (fun k=>[.slot 10 (.int k),.obj 900 (.arr 112 4 ((Yh p u m v q k).map YC))]) (fun _=>True) (fun k=>by simp only [go_sem]<;>rfl) (by simp only [go_sem,Int.natCast_zero]<;>rfl) ?_ (fun k hk hX=>?_)
 ·trivial
 ·skip
  refine JB.assocS (JB.reg ?_)
  iterate 3 (refine JA.o ?_)
  refine JA.nil ?_
  refine JB.cndS JF (fun hb13=>?_) (fun hb13=>?_)
  ·skip
   have hlt:=of_decide_eq_true hb13
   have hlt2:k<u.length:=by omega
   obtain ⟨x,hx⟩:∃x,u[k]? = some x:=⟨_,List.getElem?_eq_getElem hlt2⟩
   obtain ⟨y,hy⟩:∃y,v[k]? = some y:=⟨_,List.getElem?_eq_getElem (by omega)⟩
   have ga:=JVD (p:=p) (m:=m) (q:=q) huv hx
   have gb:=JVE (p:=p) (m:=m) (q:=q) huv hy
   have gs:=JVF (p:=p) (m:=m) (q:=q) huv hx hy
   have gl:(Yh p u m v q k).length=n:=by rw [JKg huv];omega
   have t1:((p.length:Int)+k).toNat=p.length+k:=by omega
   have t2:(((p.length+u.length+m.length:Nat):Int)+k).toNat=p.length+u.length+m.length+k:=by omega
   have hne:p.length+k≠p.length+u.length+m.length+k:=by omega
   refine JB.skipS (JB.blk ?_)
   refine JB.opk1 26 ?_
   iterate 3 (refine JG.o1 JBj ?_)
   refine JG.o1 V49 ?_
   iterate 3 (refine JG.o1 JBj ?_)
   refine JG.o1 V49 ?_
   iterate 3 (refine JG.o1 JBj ?_)
   refine JG.o1 V49 ?_
   refine JG.o1 V46 ?_
   iterate 4 (refine JG.o1 JBj ?_)
   refine JG.o1 V49 ?_
   refine JG.o1 V46 ?_
   refine JG.o1 JBj ?_
   refine JG.o1 V46 ?_
   refine JG.o1 JBj ?_
   refine JG.o1 V46 ?_
   refine JG.o1 JBj ?_
   refine JG.nil (QK.finT JL JL JL ?_)
   refine JR.nrm (JB.reg1 ?_)
   refine JA.o1 JBj ?_
   refine JA.o1 V49 ?_
   refine JA.o1 JBj ?_
   refine JA.nil ?_
   refine JU.nxt ?_ ?_ ?_
   ·omega
   ·exact JN.kp [0,1,2,3,10] [900] (by simp only [go_sem,ga,gb,gl,t1,t2,List.getElem?_set_ne hne]<;>first|((repeat' (first|with_reducible_and_instances rfl|refine Q6 ?_ ?_ ?_|refine Q4 ?_|refine Q8 ?_|refine Q7 ?_ ?_|refine Qw ?_|refine Qy ?_|refine Q9 ?_|refine Q1 ?_ ?_|refine Q3 ?_ ?_|refine Q5 ?_|refine Qx ?_|(refine Qz ?_;omega)));(all_goals (rw [←gs,List.map_set,List.map_set];rfl)))|rfl)
   ·trivial
  ·skip
   have hke:k=u.length:=by have:=of_decide_eq_false hb13;omega
   subst hke
   refine JB.exitS (JU.ext (QA.hit ?_))
   exact Ends.fin0 [900] (rs:=[]) rfl JF Y3
structure Za where
 p:List Qo
 u:List Qo
 v:List Qo
 q:List Qo
def Za.now (t:Za):List Qo:=t.p++(t.u++(t.v++t.q))
def Za.goal (t:Za):List Qo:=t.p++(t.v++(t.u++t.q))
theorem JQi {g:FuncId}{ds:List D}(p u v q:List Qo)(n:Nat)(hu:0<u.length)(hv:0<v.length)(hn:p.length+u.length+v.length+q.length=n)(hn2:n≤1000):Qg Tryz.prog 208 [.leaf (.own 900 0 n n),.int p.length,.int ((p.length+u.length:Nat):Int),.int ((p.length+u.length+v.length:Nat):Int),.leaf (.d (.fn g ds))] [(900,.arr 112 4 ((p++(u++(v++q))).map YC))] (.ret (.tup []) [(900,.arr 112 4 ((p++(v++(u++q))).map YC))]):=by
 refine Jq Jj Tryz.func208 rfl (by simp only [List.length_cons,List.length_nil,Tryz.ntmps208];omega) JL rfl ?_
 refine JB.reg ?_
 iterate 2 (refine JA.o ?_)
 refine JA.o1 V68 ?_
 refine JA.o ?_
 refine JA.nil (JB.reg ?_)
 iterate 2 (refine JA.o ?_)
 refine JA.o1 V68 ?_
 refine JA.o ?_
 refine JA.nil (JB.blk ?_)
 have i0:((p.length+u.length:Nat):Int)-p.length=u.length:=by omega
 have i1:((p.length+u.length+v.length:Nat):Int)-((p.length+u.length:Nat):Int)=v.length:=by omega
 have X:=(Fx.mk i0).a i1
 refine JB.whl [0,2,4,10,11] [900] (fun (t:Za)=>[.slot 10 (.int t.u.length),.slot 11 (.int t.v.length),.obj 900 (.arr 112 4 ((t.now).map YC))]) (fun t=>(0<t.u.length∧0<t.v.length)∧t.p.length+t.u.length=p.length+u.length∧t.p.length+t.u.length+t.v.length+t.q.length=n∧t.goal=p++(v++(u++q))) (fun t=>t.u.length+t.v.length) (⟨p,u,v,q⟩) (fun t=>by simp only [go_sem]<;>rfl) JC ?_ (fun t hX=>?_)
 ·exact ⟨⟨hu,hv⟩,rfl,hn,rfl⟩
 ·skip
  obtain ⟨⟨hu1,hv1⟩,hm1,hn1,hgoal⟩:=hX
  obtain ⟨P,U,V,Q⟩:=t
  simp only at hu1 hv1 hm1 hn1
  simp only [Za.goal] at hgoal
  refine JB.assocS (JB.reg ?_)
  iterate 3 (refine JA.o ?_)
  refine JA.nil ?_
  refine JB.cndS JF (fun hb20=>?_) (fun hb20=>?_)
  ·skip
   have hne:U.length≠V.length:=fun h=>by rw [h] at hb20;simp at hb20
   refine JB.skipS (JB.blk1 (JB.reg ?_))
   iterate 3 (refine JA.o ?_)
   refine JA.nil ?_
   refine JB.cnd JF (fun hb23=>?_) (fun hb23=>?_)
   ·skip
    have hgt:V.length<U.length:=by have:=of_decide_eq_true hb23;omega
    obtain ⟨U1,U2,rfl,hu11,hu22⟩:=JIo (l:=U) (n:=V.length) (by omega)
    have hlen:U1.length=V.length:=hu11
    have hll:(U1++U2).length=U1.length+U2.length:=List.length_append
    have hnow:Za.now ⟨P,U1++U2,V,Q⟩=Yh P U1 U2 V Q 0:=by rw [JKh];simp [Za.now]
    have hnext:Za.now ⟨P++V,U2,U1,Q⟩=Yh P U1 U2 V Q U1.length:=by rw [JKf hlen];simp [Za.now]
    rw [hnow]
    refine JB.reg ?_
    have X:=Fx.mk hnext
    iterate 3 (refine JA.o1 JC ?_)
    refine JA.o1 Jx ?_
    iterate 3 (refine JA.o1 JC ?_)
    refine JA.lendA 900 900 (JIk P U1 U2 V Q n (by omega) (by omega) hn2) JH1 Jr JF JC JC V8 JC ?_
    refine JA.nil (JB.reg1 ?_)
    iterate 2 (refine JA.o1 JC ?_)
    refine JA.o1 Jx ?_
    refine JA.o1 JC ?_
    refine JA.nil (QA.nrm ?_)
    refine Yl.nxt (⟨P++V,U2,U1,Q⟩) ?_ ?_ ?_
    ·simp only [List.length_append] at *;omega
    ·exact ⟨⟨by simp only;omega,by simp only;omega⟩,by simp only [List.length_append];omega,by simp only [List.length_append];omega,by rw [←hgoal];simp [Za.goal]⟩
    ·exact JN.kp [0,2,4,10,11] [900] Yi
   ·skip
    have hgt:U.length<V.length:=by have:=of_decide_eq_false hb23;omega
    obtain ⟨V1,V2,rfl,hv11,hv22⟩:=JIo (l:=V) (n:=V.length-U.length) (by omega)
    have hlen:U.length=V2.length:=by have:(V1++V2).length=V1.length+V2.length:=List.length_append;omega
    have hll:(V1++V2).length=V1.length+V2.length:=List.length_append
    have hnow:Za.now ⟨P,U,V1++V2,Q⟩=Yh P U V1 V2 Q 0:=by rw [JKh];simp [Za.now]
    have hnext:Za.now ⟨P,V2,V1,U++Q⟩=Yh P U V1 V2 Q U.length:=by rw [JKf hlen];simp [Za.now]
    rw [hnow]
    refine JB.reg ?_
    have X:=Fx.mk hnext
    iterate 3 (refine JA.o1 JC ?_)
    refine JA.o1 Jx ?_
    iterate 2 (refine JA.o1 JC ?_)
    refine JA.o1 Jx ?_
    refine JA.o1 JC ?_
    refine JA.o1 Jx ?_
    iterate 2 (refine JA.o1 JC ?_)
    refine JA.lendA 900 900 (JIk P U V1 V2 Q n (by omega) (by omega) hn2) JH1 Jr JF JC JC V8 JC ?_
    refine JA.nil (JB.reg1 ?_)
    iterate 2 (refine JA.o1 JC ?_)
    refine JA.o1 Jx ?_
    refine JA.o1 JC ?_
    refine JA.nil (QA.nrm ?_)
    refine Yl.nxt (⟨P,V2,V1,U++Q⟩) ?_ ?_ ?_
    ·simp only [List.length_append] at *;omega
    ·exact ⟨⟨by simp only;omega,by simp only;omega⟩,by simp only;omega,by simp only [List.length_append];omega,by rw [←hgoal];simp [Za.goal]⟩
    ·exact JN.kp [0,2,4,10,11] [900] Yi
  ·skip
   have hlen:U.length=V.length:=Int.ofNat_inj.1 (by simpa using hb20)
   have hnow:Za.now ⟨P,U,V,Q⟩=Yh P U [] V Q 0:=by rw [JKh];simp [Za.now]
   have hend:Yh P U [] V Q U.length=p++(v++(u++q)):=by rw [JKf hlen,←hgoal];simp
   rw [hnow]
   refine JB.exitS (Yl.ext (JR.hit (JB.reg1 ?_)))
   have X:=Fx.mk hend
   iterate 3 (refine JA.o1 JC ?_)
   refine JA.o1 Jx ?_
   iterate 3 (refine JA.o1 JC ?_)
   refine JA.lendA 900 900 (JIk P U [] V Q n (by omega) (by simp only [List.length_nil];omega) hn2) JH1 Jr JF JC JC V8 JC ?_
   refine JA.nil ?_
   exact Ends.fin0 [900] (rs:=[]) rfl JC Qk
theorem JHC (n:Nat):((n:Nat):Int).fdiv (2^(min (Int.toNat 1) 64))=((n / 2:Nat):Int):=by
 have e:min (Int.toNat 1) 64=1:=by decide
 rw [e,Int.fdiv_eq_ediv_of_nonneg _ (by decide)]
 omega
theorem JQl {g:FuncId}{ds:List D}(c:Qo→Qo→Int)(hg:JM Tryz.prog g=true)(hc:∀x y,Jf Tryz.prog g (JAB x::JAB y::ds.map fun x=>.leaf (.d x)) (.int (c x y)) [])(hw:YZ (fun x y=>decide (c x y<0)))(n N:Nat)(hn2:n≤1000)(IH:∀p l r q:List Qo,l.length+r.length<N→0<l.length→0<r.length→YA (fun x y=>decide (c x y<0)) l→YA (fun x y=>decide (c x y<0)) r→p.length+l.length+r.length+q.length=n→Qg Tryz.prog 185 [.leaf (.own 900 0 n n),.int (p).length,.int (((p).length+(l).length:Nat):Int),.int (((p).length+(l).length+(r).length:Nat):Int),.leaf (.d (.fn g ds))] [(900,.arr 112 4 ((p++(l++(r++q))).map YC))] (.ret (.tup []) [(900,.arr 112 4 ((p++(mg (fun x y=>decide (c x y<0)) l r++q)).map YC))]))(p l r q:List Qo)(hN:l.length+r.length=N)(hl0:0<l.length)(hr0:0<r.length)(hl:YA (fun x y=>decide (c x y<0)) l)(hr:YA (fun x y=>decide (c x y<0)) r)(hn:p.length+l.length+r.length+q.length=n):Qg Tryz.prog 185 [.leaf (.own 900 0 n n),.int (p).length,.int (((p).length+(l).length:Nat):Int),.int (((p).length+(l).length+(r).length:Nat):Int),.leaf (.d (.fn g ds))] [(900,.arr 112 4 ((p++(l++(r++q))).map YC))] (.ret (.tup []) [(900,.arr 112 4 ((p++(mg (fun x y=>decide (c x y<0)) l r++q)).map YC))]):=by
 have hdl:(p++(l++(r++q))).length=n:=by simp;omega
 refine Jq Jj Tryz.func185 rfl (by simp only [List.length_cons,List.length_nil,Tryz.ntmps185];omega) JL rfl ?_
 refine JB.assocS (JB.reg ?_)
 iterate 2 (refine JA.o ?_)
 refine JA.o1 V68 ?_
 refine JA.o ?_
 refine JA.nil ?_
 refine JB.cndS JF (fun hb28=>?_) (fun hb28=>?_)
 ·skip
  have hl1:l.length=1:=by
   have:((p.length+l.length:Nat):Int)-p.length=1:=by simpa using hb28
   omega
  obtain ⟨x0,rfl⟩:∃x0,l=[x0]:=by
   match l,hl1 with
   |[x],_=>exact ⟨x,rfl⟩
  have i0:((p.length+[x0].length:Nat):Int)=((p.length+1+0:Nat):Int):=rfl
  have i1:((p.length+[x0].length+r.length:Nat):Int)=((p.length+1+r.length:Nat):Int):=rfl
  have hsz:p.length+1+r.length+q.length=n:=by have:[x0].length=1:=rfl;omega
  refine JB.assocS (JB.reg ?_)
  iterate 2 (refine JA.o ?_)
  refine JA.nil (JB.assocS (JB.reg ?_))
  iterate 2 (refine JA.o ?_)
  refine JA.nil (JB.assocS (JB.blk ?_))
  have X:=(Fx.mk i0).a i1
  refine JB.whl [0,1,4,10,11] [900] (fun (t:Nat × Nat)=>[.slot 10 (.int ((p.length+1+t.1:Nat):Int)),.slot 11 (.int ((p.length+1+t.2:Nat):Int))]) (fun t=>(t.1≤t.2∧t.2≤r.length)∧(∀k y,k<t.1→r[k]? = some y→decide (c y x0<0)=true)∧(∀k y,t.2≤k→r[k]? = some y→decide (c y x0<0)=false)) (fun t=>t.2-t.1) ((0,r.length)) (fun t=>by simp only [go_sem]<;>rfl) JC ?_ (fun t hX=>?_)
  ·exact ⟨⟨Nat.zero_le _,Nat.le_refl _⟩,fun k y hk=>absurd hk (Nat.not_lt_zero _),fun k y hk hy=>absurd (List.getElem?_eq_some_iff.1 hy).1 (by simp only at hk;omega)⟩
  ·skip
   obtain ⟨⟨h12,h2r⟩,hlo,hhi⟩:=hX
   obtain ⟨i,j⟩:=t
   simp only at h12 h2r hlo hhi
   refine JB.assocS (JB.reg ?_)
   iterate 3 (refine JA.o ?_)
   refine JA.nil ?_
   refine JB.cndS JF (fun hb33=>?_) (fun hb33=>?_)
   ·skip
    have hij:i<j:=by have:=of_decide_eq_true hb33;omega
    have hsum:((p.length+1+i:Nat):Int)+((p.length+1+j:Nat):Int)=((p.length+1+i+(p.length+1+j):Nat):Int):=by omega
    have hsh:=JHC (p.length+1+i+(p.length+1+j))
    obtain ⟨h',hh⟩:∃h',(p.length+1+i+(p.length+1+j)) / 2=p.length+1+h':=⟨(p.length+1+i+(p.length+1+j)) / 2-(p.length+1),by omega⟩
    have hi':i≤h' ∧ h'<j:=by omega
    have t1:((p.length+1+h':Nat):Int).toNat=p.length+1+h':=Int.toNat_natCast _
    obtain ⟨y,hy⟩:∃y,r[h']? = some y:=⟨_,List.getElem?_eq_getElem (by omega)⟩
    have gy:(p++x0::(r++q))[p.length+1+h']? = some y:=JJC (l:=[x0]) hy
    have gx:(p++x0::(r++q))[p.length]? = some x0:=JJB (c:=0) (l:=[x0]) rfl
    have hd2:p.length+(r.length+q.length+1)=n:=by omega
    refine JB.skipS (JB.blk1 (JB.reg ?_))
    have X:=((((((Fx.mk hsum).a hsh).a hh).a t1).a gy).a gx).a hd2
    iterate 2 (refine JA.o1 JC ?_)
    iterate 2 (refine JA.o1 Jx ?_)
    refine JA.o1 JC ?_
    refine JA.o1 Jx ?_
    refine JA.o1 JC ?_
    refine JA.nil ?_
    refine JB.opk 13 ?_
    iterate 3 (refine JG.o1 JC ?_)
    refine JG.o1 QG ?_
    iterate 3 (refine JG.o1 JC ?_)
    refine JG.o1 QG ?_
    refine JG.o1 JC ?_
    refine JG.calw JF (hc y x0) (by assumption) JC JC V53 (Yr) JC JF JF ?_
    refine JG.o1 JC ?_
    refine JG.nil (QK.fin Qb Qb ?_)
    refine JB.cnd JC (fun hb50=>?_) (fun hb50=>?_)
    ·skip
     refine JB.reg1 ?_
     refine JA.o1 JC ?_
     refine JA.o1 Jx ?_
     refine JA.o1 JC ?_
     refine JA.nil (QA.nrm ?_)
     refine Yl.nxt ((h'+1,j)) ?_ ?_ ?_
     ·simp only;omega
     ·exact ⟨⟨by simp only;omega,by simp only;omega⟩,JRt hw hr hy hb50,hhi⟩
     ·exact JN.kp [0,1,4,10,11] [900] V21
    ·skip
     refine JB.reg1 ?_
     iterate 2 (refine JA.o1 JC ?_)
     refine JA.nil (QA.nrm ?_)
     refine Yl.nxt ((i,h')) ?_ ?_ ?_
     ·simp only;omega
     ·exact ⟨⟨by simp only;omega,by simp only;omega⟩,hlo,JRq hw hr hy hb50⟩
     ·exact JN.kp [0,1,4,10,11] [900] Yi
   ·skip
    have hij:i=j:=by have:=of_decide_eq_false hb33;omega
    subst hij
    have hmg:=JSY (lt:=(fun x y=>decide (c x y<0))) hlo hhi
    have e0:Lt p r q x0 0=p++([x0]++(r++q)):=by simp [Lt]
    have eN:Lt p r q x0 i=p++(mg (fun x y=>decide (c x y<0)) [x0] r++q):=by rw [hmg];simp [Lt]
    refine JB.exitS (Yl.ext (JR.hit (JB.assocS (JB.assocS (JB.reg ?_)))))
    iterate 2 (refine JA.o ?_)
    refine JA.nil (JB.blk ?_)
    have X:=Fx.mk e0
    refine JB.forA [0,10,13] [900] (i) (fun k=>[.slot 13 (.int ((p.length+k:Nat):Int)),.obj 900 (.arr 112 4 ((Lt p r q x0 k).map YC))]) (fun _=>True) (fun k=>by simp only [go_sem]<;>rfl) (by simp only [go_sem,X.h,Nat.add_zero]<;>rfl) ?_ (fun k hk hX=>?_)
    ·trivial
    ·skip
     refine JB.assocS (JB.reg ?_)
     iterate 2 (refine JA.o ?_)
     refine JA.o1 V68 ?_
     refine JA.o ?_
     refine JA.nil ?_
     refine JB.cndS JF (fun hb58=>?_) (fun hb58=>?_)
     ·skip
      have hki:k<i:=by have:=of_decide_eq_true hb58;omega
      obtain ⟨y,hy⟩:∃y,r[k]? = some y:=⟨_,List.getElem?_eq_getElem (by omega)⟩
      have gx:=JHu (p:=p) (t:=r) (r:=q) (x:=x0) (c:=k) (by omega)
      have gy:=JPG (p:=p) (r:=q) (x:=x0) hy
      have gs:=JPE (p:=p) (r:=q) (x:=x0) hy
      have gl:(Lt p r q x0 k).length=n:=by rw [JHt (by omega)];omega
      have t1:((p.length+k:Nat):Int).toNat=p.length+k:=Int.toNat_natCast _
      have t2:(((p.length+k:Nat):Int)+1).toNat=p.length+k+1:=by omega
      have hne:p.length+k≠p.length+k+1:=by omega
      refine JB.skipS (JB.blk ?_)
      refine JB.opk1 20 ?_
      iterate 4 (refine JG.o1 JCB ?_)
      refine JG.o1 V50 ?_
      iterate 2 (refine JG.o1 JCB ?_)
      refine JG.o1 V50 ?_
      refine JG.o1 V47 ?_
      iterate 3 (refine JG.o1 JCB ?_)
      refine JG.o1 V47 ?_
      refine JG.o1 JCB ?_
      refine JG.o1 V47 ?_
      refine JG.o1 JCB ?_
      refine JG.o1 V47 ?_
      refine JG.o1 JCB ?_
      refine JG.nil (QK.finT JL JL JL ?_)
      refine JR.nrm (JB.reg1 ?_)
      refine JA.o1 JCB ?_
      refine JA.o1 V50 ?_
      refine JA.o1 JCB ?_
      refine JA.nil ?_
      refine JU.nxt ?_ ?_ ?_
      ·omega
      ·exact JN.kp [0,10,13] [900] (by simp only [go_sem,gx,gy,gl,t1,t2,List.getElem?_set_ne hne]<;>first|((repeat' (first|with_reducible_and_instances rfl|refine Q6 ?_ ?_ ?_|refine Q4 ?_|refine Q8 ?_|refine Q7 ?_ ?_|refine Qw ?_|refine Qy ?_|refine Q9 ?_|refine Q1 ?_ ?_|refine Q3 ?_ ?_|refine Q5 ?_|refine Qx ?_|(refine Qz ?_;omega)));(all_goals (rw [←gs,List.map_set,List.map_set];rfl)))|rfl)
      ·trivial
     ·skip
      have hki:k=i:=by have:=of_decide_eq_false hb58;omega
      subst hki
      refine JB.exitS (JU.ext (JR.hit (JB.retS ?_)))
      have X:=Fx.mk eN
      exact Ends.fin [900] (rs:=[]) rfl JC Qk
 ·skip
  have h2l:2≤l.length:=by
   have:¬((p.length+l.length:Nat):Int)-p.length=1:=by simpa using hb28
   omega
  refine JB.skipS (JB.assocS (JB.reg ?_))
  iterate 2 (refine JA.o ?_)
  refine JA.o1 V68 ?_
  refine JA.o ?_
  refine JA.nil ?_
  refine JB.cndS JF (fun hb80=>?_) (fun hb80=>?_)
  ·skip
   have hr1:r.length=1:=by
    have:((p.length+l.length+r.length:Nat):Int)-((p.length+l.length:Nat):Int)=1:=by simpa using hb80
    omega
   obtain ⟨y0,rfl⟩:∃y0,r=[y0]:=by
    match r,hr1 with
    |[x],_=>exact ⟨x,rfl⟩
   have hsz:p.length+l.length+1+q.length=n:=by have:[y0].length=1:=rfl;omega
   refine JB.assocS (JB.reg ?_)
   iterate 2 (refine JA.o ?_)
   refine JA.nil (JB.assocS (JB.reg ?_))
   iterate 2 (refine JA.o ?_)
   refine JA.nil (JB.assocS (JB.blk ?_))
   refine JB.whl [0,2,4,14,15] [900] (fun (t:Nat × Nat)=>[.slot 14 (.int ((p.length+t.1:Nat):Int)),.slot 15 (.int ((p.length+t.2:Nat):Int))]) (fun t=>(t.1≤t.2∧t.2≤l.length)∧(∀k y,k<t.1→l[k]? = some y→decide (c y0 y<0)=false)∧(∀k y,t.2≤k→l[k]? = some y→decide (c y0 y<0)=true)) (fun t=>t.2-t.1) ((0,l.length)) (fun t=>by simp only [go_sem]<;>rfl) (by simp only [go_sem,Nat.add_zero]<;>rfl) ?_ (fun t hX=>?_)
   ·exact ⟨⟨Nat.zero_le _,Nat.le_refl _⟩,fun k y hk=>absurd hk (Nat.not_lt_zero _),fun k y hk hy=>absurd (List.getElem?_eq_some_iff.1 hy).1 (by simp only at hk;omega)⟩
   ·skip
    obtain ⟨⟨h12,h2r⟩,hlo,hhi⟩:=hX
    obtain ⟨i,j⟩:=t
    simp only at h12 h2r hlo hhi
    refine JB.assocS (JB.reg ?_)
    iterate 3 (refine JA.o ?_)
    refine JA.nil ?_
    refine JB.cndS JF (fun hb85=>?_) (fun hb85=>?_)
    ·skip
     have hij:i<j:=by have:=of_decide_eq_true hb85;omega
     have hsum:((p.length+i:Nat):Int)+((p.length+j:Nat):Int)=((p.length+i+(p.length+j):Nat):Int):=by omega
     have hsh:=JHC (p.length+i+(p.length+j))
     obtain ⟨h',hh⟩:∃h',(p.length+i+(p.length+j)) / 2=p.length+h':=⟨(p.length+i+(p.length+j)) / 2-(p.length),by omega⟩
     have hi':i≤h' ∧ h'<j:=by omega
     have t1:((p.length+h':Nat):Int).toNat=p.length+h':=Int.toNat_natCast _
     obtain ⟨y,hy⟩:∃y,l[h']? = some y:=⟨_,List.getElem?_eq_getElem (by omega)⟩
     have gy:(p++(l++y0::q))[p.length+h']? = some y:=JJB (r:=[y0]) hy
     have gx:(p++(l++y0::q))[p.length+l.length]? = some y0:=JJC (c:=0) (r:=[y0]) rfl
     have hd2:p.length+(l.length+(q.length+1))=n:=by omega
     refine JB.skipS (JB.blk1 (JB.reg ?_))
     have X:=((((((Fx.mk hsum).a hsh).a hh).a t1).a gy).a gx).a hd2
     iterate 2 (refine JA.o1 JC ?_)
     iterate 2 (refine JA.o1 Jx ?_)
     refine JA.o1 JC ?_
     refine JA.o1 Jx ?_
     refine JA.o1 JC ?_
     refine JA.nil ?_
     refine JB.opk 14 ?_
     iterate 3 (refine JG.o1 JC ?_)
     refine JG.o1 QG ?_
     iterate 3 (refine JG.o1 JC ?_)
     refine JG.o1 QG ?_
     refine JG.o1 JC ?_
     refine JG.calw JF (hc y0 y) (by assumption) JC JC V53 (Yr) JC JF JF ?_
     iterate 2 (refine JG.o1 JC ?_)
     refine JG.nil (QK.fin Qb Qb ?_)
     refine JB.cnd JC (fun hb103=>?_) (fun hb103=>?_)
     ·skip
      have hlt:decide (c y0 y<0)=false:=by simpa using hb103
      refine JB.reg1 ?_
      refine JA.o1 JC ?_
      refine JA.o1 Jx ?_
      refine JA.o1 JC ?_
      refine JA.nil (QA.nrm ?_)
      refine Yl.nxt ((h'+1,j)) ?_ ?_ ?_
      ·simp only;omega
      ·exact ⟨⟨by simp only;omega,by simp only;omega⟩,JRu hw hl hy hlt,hhi⟩
      ·exact JN.kp [0,2,4,14,15] [900] V21
     ·skip
      have hlt:decide (c y0 y<0)=true:=by simpa using hb103
      refine JB.reg1 ?_
      iterate 2 (refine JA.o1 JC ?_)
      refine JA.nil (QA.nrm ?_)
      refine Yl.nxt ((i,h')) ?_ ?_ ?_
      ·simp only;omega
      ·exact ⟨⟨by simp only;omega,by simp only;omega⟩,hlo,JRr hw hl hy hlt⟩
      ·exact JN.kp [0,2,4,14,15] [900] Yi
    ·skip
     have hij:i=j:=by have:=of_decide_eq_false hb85;omega
     subst hij
     have hmg:=JSZ (lt:=(fun x y=>decide (c x y<0))) hlo hhi
     have e0:Lt p l q y0 l.length=p++(l++([y0]++q)):=by simp [Lt]
     have eN:Lt p l q y0 i=p++(mg (fun x y=>decide (c x y<0)) l [y0]++q):=by rw [hmg];simp [Lt]
     refine JB.exitS (Yl.ext (JR.hit (JB.assocS (JB.assocS (JB.reg ?_)))))
     iterate 2 (refine JA.o ?_)
     refine JA.nil (JB.blk ?_)
     have X:=Fx.mk e0
     refine JB.forA [0,14,17] [900] (l.length-i) (fun k=>[.slot 17 (.int (((p.length+l.length:Nat):Int)-(k:Int))),.obj 900 (.arr 112 4 ((Lt p l q y0 (l.length-k)).map YC))]) (fun _=>True) (fun k=>by simp only [go_sem]<;>rfl) (by simp only [go_sem,X.h,Nat.sub_zero,Int.natCast_zero,Int.sub_zero]<;>rfl) ?_ (fun k hk hX=>?_)
     ·trivial
     ·skip
      refine JB.assocS (JB.reg ?_)
      iterate 3 (refine JA.o ?_)
      refine JA.nil ?_
      refine JB.cndS JF (fun hb110=>?_) (fun hb110=>?_)
      ·skip
       have hki:k<l.length-i:=by have:=of_decide_eq_true hb110;omega
       obtain ⟨c1,hc1⟩:∃c1,l.length-k=c1+1:=⟨l.length-k-1,by omega⟩
       have hc2:l.length-(k+1)=c1:=by omega
       obtain ⟨y,hy⟩:∃y,l[c1]? = some y:=⟨_,List.getElem?_eq_getElem (by omega)⟩
       have gx:=JHu (p:=p) (t:=l) (r:=q) (x:=y0) (c:=c1+1) (by omega)
       have gy:=JKy (p:=p) (r:=q) (x:=y0) hy
       have gs:=JKx (p:=p) (r:=q) (x:=y0) hy
       have gl:(Lt p l q y0 (c1+1)).length=n:=by rw [JHt (by omega)];omega
       have t1:(((p.length+l.length:Nat):Int)-(k:Int)).toNat=p.length+(c1+1):=by omega
       have t2:(((p.length+l.length:Nat):Int)-(k:Int)-1).toNat=p.length+c1:=by omega
       have hne:p.length+(c1+1)≠p.length+c1:=by omega
       refine JB.skipS (JB.blk ?_)
       refine JB.opk1 20 ?_
       iterate 4 (refine JG.o1 V96 ?_)
       refine JG.o1 V41 ?_
       iterate 2 (refine JG.o1 V96 ?_)
       refine JG.o1 V41 ?_
       refine JG.o1 V36 ?_
       iterate 3 (refine JG.o1 V96 ?_)
       refine JG.o1 V36 ?_
       refine JG.o1 V96 ?_
       refine JG.o1 V36 ?_
       refine JG.o1 V96 ?_
       refine JG.o1 V36 ?_
       refine JG.o1 V96 ?_
       refine JG.nil (QK.finT JL JL JL ?_)
       refine JR.nrm (JB.reg1 ?_)
       refine JA.o1 V96 ?_
       refine JA.o1 V41 ?_
       refine JA.o1 V96 ?_
       refine JA.nil ?_
       refine JU.nxt ?_ ?_ ?_
       ·omega
       ·exact JN.kp [0,14,17] [900] (by simp only [go_sem,hc1,hc2,gx,gy,gl,t1,t2,List.getElem?_set_ne hne]<;>first|((repeat' (first|with_reducible_and_instances rfl|refine Q6 ?_ ?_ ?_|refine Q4 ?_|refine Q8 ?_|refine Q7 ?_ ?_|refine Qw ?_|refine Qy ?_|refine Q9 ?_|refine Q1 ?_ ?_|refine Q3 ?_ ?_|refine Q5 ?_|refine Qx ?_|(refine Qz ?_;omega)));(all_goals (rw [←gs,List.map_set,List.map_set];rfl)))|rfl)
       ·trivial
      ·skip
       have hki:l.length-k=i:=by have:=of_decide_eq_false hb110;omega
       refine JB.exitS (JU.ext (JR.hit (JB.retS ?_)))
       have X:=(Fx.mk hki).a eN
       exact Ends.fin [900] (rs:=[]) rfl JC Qk
  ·skip
   have h2r:2≤r.length:=by
    have:¬((p.length+l.length+r.length:Nat):Int)-((p.length+l.length:Nat):Int)=1:=by simpa using hb80
    omega
   have hsum:(p.length:Int)+((p.length+l.length+r.length:Nat):Int)=((p.length+(p.length+l.length+r.length):Nat):Int):=by omega
   have hsh:=JHC (p.length+(p.length+l.length+r.length))
   obtain ⟨mid,hmid⟩:∃mid,(p.length+(p.length+l.length+r.length)) / 2=mid:=⟨_,rfl⟩
   refine JB.skipS (JB.reg ?_)
   have X:=((Fx.mk hsum).a hsh).a hmid
   iterate 2 (refine JA.o1 JC ?_)
   iterate 2 (refine JA.o1 Jx ?_)
   refine JA.o1 JC ?_
   refine JA.o1 Jx ?_
   refine JA.o1 JC ?_
   refine JA.nil (JB.reg ?_)
   iterate 2 (refine JA.o1 JC ?_)
   refine JA.o1 Jx ?_
   refine JA.o1 JC ?_
   refine JA.nil (JB.reg ?_)
   iterate 2 (refine JA.o1 JC ?_)
   refine JA.nil (JB.assocS (JB.reg ?_))
   iterate 3 (refine JA.o1 JC ?_)
   refine JA.nil ?_
   refine JB.joinA [0,1,2,3,4,18,19,20,21] [900] (fun (t:Nat × Nat)=>[.slot 20 (.int (t.1:Int)),.slot 21 (.int (t.2:Int))]) (fun (t:Nat × Nat)=>JF3 p.length (p.length+l.length) (p.length+l.length+r.length) mid t.1 t.2) (fun t=>by simp only [go_sem]<;>rfl) ?_ (fun t hj=>?_)
   ·skip
    refine JB.cnd JC (fun hb140=>?_) (fun hb140=>?_)
    ·skip
     have hgt:mid<p.length+l.length:=by have:=of_decide_eq_true hb140;omega
     refine JB.reg ?_
     iterate 2 (refine JA.o1 JC ?_)
     refine JA.o1 Jx ?_
     refine JA.o1 JC ?_
     refine JA.nil (JB.reg1 ?_)
     iterate 2 (refine JA.o1 JC ?_)
     refine JA.nil ?_
     refine JAV.nrm ((mid+(p.length+l.length)-(p.length+l.length+r.length),mid)) ?_ ?_
     ·exact .inl ⟨hgt,rfl,rfl⟩
     ·exact JN.kp [0,1,2,3,4,18,19,20,21] [900] Yi
    ·skip
     have hgt:p.length+l.length≤mid:=by have:=of_decide_eq_false hb140;omega
     refine JB.reg ?_
     iterate 2 (refine JA.o1 JC ?_)
     refine JA.nil (JB.reg1 ?_)
     iterate 2 (refine JA.o1 JC ?_)
     refine JA.nil ?_
     refine JAV.nrm ((p.length,p.length+l.length)) ?_ ?_
     ·exact .inr ⟨hgt,rfl,rfl⟩
     ·exact JN.kp [0,1,2,3,4,18,19,20,21] [900] Yi
   ·skip
    obtain ⟨s0,r0⟩:=t
    simp only at hj
    have hj2:=hj
    unfold JF3 at hj2
    refine JB.reg ?_
    refine JA.o1 JC ?_
    refine JA.o1 Jx ?_
    refine JA.o1 JC ?_
    refine JA.nil (JB.blk ?_)
    refine JB.whl [0,1,2,3,4,18,19,20,21,22] [900] (fun (t:Nat × Nat)=>[.slot 20 (.int (t.1:Int)),.slot 21 (.int (t.2:Int))]) (fun t=>(s0≤t.1∧t.1≤t.2∧t.2≤r0)∧(∀c1 x y,s0≤c1→c1<t.1→l[c1-p.length]? = some x→r[mid-1-c1]? = some y→decide (c y x<0)=false)∧(∀c1 x y,t.2≤c1→c1<r0→l[c1-p.length]? = some x→r[mid-1-c1]? = some y→decide (c y x<0)=true)) (fun t=>t.2-t.1) ((s0,r0)) (fun t=>by simp only [go_sem]<;>rfl) JC ?_ (fun t hX=>?_)
    ·exact ⟨⟨Nat.le_refl _,by simp only;omega,Nat.le_refl _⟩,fun c1 x y h1 h2=>absurd h2 (by simp only;omega),fun c1 x y h1 h2=>absurd h2 (by simp only at h1;omega)⟩
    ·skip
     obtain ⟨⟨h01,h12,h2j⟩,hlo,hhi⟩:=hX
     obtain ⟨i,j⟩:=t
     simp only at h01 h12 h2j hlo hhi
     refine JB.assocS (JB.reg ?_)
     iterate 3 (refine JA.o1 JC ?_)
     refine JA.nil ?_
     refine JB.cndS JC (fun hb151=>?_) (fun hb151=>?_)
     ·skip
      have hij:i<j:=by have:=of_decide_eq_true hb151;omega
      have hsum:((i:Nat):Int)+((j:Nat):Int)=((i+j:Nat):Int):=by omega
      have hsh:=JHC (i+j)
      obtain ⟨cc,hh⟩:∃cc,(i+j) / 2=cc:=⟨_,rfl⟩
      have hcc:i≤cc∧cc<j:=by omega
      have hb1:p.length≤cc∧cc<p.length+l.length∧cc<mid∧mid-1-cc<r.length:=by omega
      obtain ⟨x,hx⟩:∃x,l[cc-p.length]? = some x:=⟨_,List.getElem?_eq_getElem (by omega)⟩
      obtain ⟨y,hy⟩:∃y,r[mid-1-cc]? = some y:=⟨_,List.getElem?_eq_getElem (by omega)⟩
      have gx:(p++(l++(r++q)))[cc]? = some x:=by have:=JJB (p:=p) (r:=r) (q:=q) hx;rw [show p.length+(cc-p.length)=cc by omega] at this;exact this
      have gy:=JJC (p:=p) (l:=l) (q:=q) hy
      have t1:((cc:Nat):Int).toNat=cc:=Int.toNat_natCast _
      have t2:((mid:Int)+((p.length+l.length:Nat):Int)-1-(cc:Int)).toNat=p.length+l.length+(mid-1-cc):=by omega
      refine JB.skipS (JB.blk1 (JB.reg ?_))
      have X:=(((((((Fx.mk hsum).a hsh).a hh).a t1).a t2).a gy).a gx).a hdl
      iterate 2 (refine JA.o1 JC ?_)
      iterate 2 (refine JA.o1 Jx ?_)
      refine JA.o1 JC ?_
      refine JA.o1 Jx ?_
      refine JA.o1 JC ?_
      refine JA.nil ?_
      refine JB.opk 16 ?_
      iterate 4 (refine JG.o1 JC ?_)
      refine JG.o1 Jx ?_
      refine JG.o1 QG ?_
      iterate 3 (refine JG.o1 JC ?_)
      refine JG.o1 QG ?_
      refine JG.o1 JC ?_
      refine JG.calw JF (hc y x) (by assumption) JC JC V53 (Yr) JC JF JF ?_
      iterate 2 (refine JG.o1 JC ?_)
      refine JG.nil (QK.fin Qb Qb ?_)
      refine JB.cnd JC (fun hb171=>?_) (fun hb171=>?_)
      ·skip
       have hlt:decide (c y x<0)=false:=by simpa using hb171
       have hsl:=JVQ hw hl hr hb1.1 hb1.2.2.1 hx hy hlt
       refine JB.reg1 ?_
       refine JA.o1 JC ?_
       refine JA.o1 Jx ?_
       refine JA.o1 JC ?_
       refine JA.nil (QA.nrm ?_)
       refine Yl.nxt ((cc+1,j)) ?_ ?_ ?_
       ·simp only;omega
       ·exact ⟨⟨by simp only;omega,by simp only;omega,by simp only;omega⟩,fun c1 x y h1 h2=>hsl c1 x y (by omega) h2,hhi⟩
       ·exact JN.kp [0,1,2,3,4,18,19,20,21,22] [900] V21
      ·skip
       have hlt:decide (c y x<0)=true:=by simpa using hb171
       have hsl:=JVP hw hl hr hb1.1 hb1.2.2.1 hx hy hlt
       refine JB.reg1 ?_
       iterate 2 (refine JA.o1 JC ?_)
       refine JA.nil (QA.nrm ?_)
       refine Yl.nxt ((i,cc)) ?_ ?_ ?_
       ·simp only;omega
       ·exact ⟨⟨by simp only;omega,by simp only;omega,by simp only;omega⟩,hlo,fun c1 x y h1 _=>hsl c1 x y h1⟩
       ·exact JN.kp [0,1,2,3,4,18,19,20,21,22] [900] Yi
     ·skip
      have hij:i=j:=by have:=of_decide_eq_false hb151;omega
      subst hij
      obtain ⟨⟨b1,b2,b3,b4⟩,hmg⟩:=JVO hw hl hr h2l h2r hmid.symm hj ⟨h01,h2j⟩ hlo hhi
      obtain ⟨l1,hl1⟩:∃x,l.take (i-p.length)=x:=⟨_,rfl⟩
      obtain ⟨l2,hl2⟩:∃x,l.drop (i-p.length)=x:=⟨_,rfl⟩
      obtain ⟨r1,hr1⟩:∃x,r.take (mid-i)=x:=⟨_,rfl⟩
      obtain ⟨r2,hr2⟩:∃x,r.drop (mid-i)=x:=⟨_,rfl⟩
      have el:l=l1++l2:=by rw [←hl1,←hl2,List.take_append_drop]
      have er:r=r1++r2:=by rw [←hr1,←hr2,List.take_append_drop]
      have ll1:l1.length=i-p.length:=by rw [←hl1];simp;omega
      have ll2:l2.length=l.length-(i-p.length):=by rw [←hl2];simp
      have lr1:r1.length=mid-i:=by rw [←hr1];simp;omega
      have lr2:r2.length=r.length-(mid-i):=by rw [←hr2];simp
      rw [hl1,hl2,hr1,hr2] at hmg
      have ol:=hl
      rw [el] at ol
      have or0:=hr
      rw [er] at or0
      have ol1:=(List.pairwise_append.1 ol).1
      have ol2:=(List.pairwise_append.1 ol).2.1
      have or1:=(List.pairwise_append.1 or0).1
      have or2:=(List.pairwise_append.1 or0).2.1
      have hmid2:mid<p.length+l.length+r.length∧p.length<mid:=by omega
      have hpl:(p++l1).length=p.length+l1.length:=List.length_append
      have hpm:(p++mg (fun x y=>decide (c x y<0)) l1 r1).length=p.length+(l1.length+r1.length):=by rw [List.length_append,JCh]
      have hd1:p++(l++(r++q))=(p++l1)++(l2++(r1++(r2++q))):=by rw [el,er];simp
      have hd2:p++(mg (fun x y=>decide (c x y<0)) l1 r1++(l2++(r2++q)))=(p++mg (fun x y=>decide (c x y<0)) l1 r1)++(l2++(r2++q)):=by simp
      rw [hd1]
      refine JB.exitS (Yl.ext (JR.hit (JB.reg ?_)))
      iterate 2 (refine JA.o1 JC ?_)
      refine JA.o1 Jx ?_
      refine JA.o1 JC ?_
      refine JA.nil (JB.assocS (JB.reg ?_))
      iterate 4 (refine JA.o1 JC ?_)
      iterate 3 (refine JA.gop JF JC JF ?_)
      refine JA.o1 JC ?_
      refine JA.nil ?_
      refine JB.joinA [0,1,2,3,4,18,20,24] [900] (fun (u1:Unit)=>[.obj 900 (.arr 112 4 ((p++(l1++(r1++(l2++(r2++q))))).map YC))]) (fun (u1:Unit)=>True) (fun u1=>by simp only [go_sem]<;>rfl) ?_ (fun u1 hj=>?_)
      ·skip
       refine JB.cnd JC (fun hb185=>?_) (fun hb185=>?_)
       ·skip
        have hq:i<p.length+l.length∧p.length+l.length<mid+(p.length+l.length)-i:=by simp only [Bool.and_eq_true,decide_eq_true_eq] at hb185;omega
        refine JB.reg1 ?_
        iterate 5 (refine JA.o1 JGB ?_)
        refine JA.lendA 900 900 (JQi (p++l1) l2 r1 (r2++q) n (by omega) (by omega) (by simp only [List.length_append];omega) hn2) (by simp only [List.length_append,List.length_map];omega) Jr JF JGB JGB V8 JGB ?_
        refine JA.nil ?_
        refine JAV.nrm (()) ?_ ?_
        ·trivial
        ·exact JN.kp [0,1,2,3,4,18,20,24] [900] (by simp only [go_sem,X.h,List.append_assoc]<;>first|exact QB|rfl)
       ·skip
        have hq:¬(i<p.length+l.length∧i<mid):=by simp only [Bool.and_eq_false_iff,decide_eq_false_iff_not] at hb185;omega
        have hsame:(p++l1)++(l2++(r1++(r2++q)))=p++(l1++(r1++(l2++(r2++q)))):=by
         rcases Nat.lt_or_ge i (p.length+l.length) with h|h
         ·have:r1=[]:=List.eq_nil_of_length_eq_zero (by omega)
          rw [this];simp
         ·have:l2=[]:=List.eq_nil_of_length_eq_zero (by omega)
          rw [this];simp
        refine JAV.nrm (()) ?_ ?_
        ·trivial
        ·exact JN.kp [0,1,2,3,4,18,20,24] [900] (by simp only [go_sem,hsum,hsh,hmid,hsame]<;>first|exact QB|rfl)
      ·skip
       refine JB.assocS (JB.reg ?_)
       iterate 4 (refine JA.o1 JC ?_)
       iterate 3 (refine JA.gop JF JC JF ?_)
       refine JA.o1 JC ?_
       refine JA.nil ?_
       refine JB.joinA [0,2,3,4,18,24] [900] (fun (u2:Unit)=>[.obj 900 (.arr 112 4 ((p++(mg (fun x y=>decide (c x y<0)) l1 r1++(l2++(r2++q)))).map YC))]) (fun (u2:Unit)=>True) (fun u2=>by simp only [go_sem]<;>rfl) ?_ (fun u2 hj=>?_)
       ·skip
        refine JB.cnd JC (fun hb199=>?_) (fun hb199=>?_)
        ·skip
         have hq:p.length<i∧i<mid:=by simp only [Bool.and_eq_true,decide_eq_true_eq] at hb199;omega
         refine JB.reg1 ?_
         iterate 5 (refine JA.o1 JC ?_)
         refine JA.lendA 900 900 (IH p l1 r1 (l2++(r2++q)) (by omega) (by omega) (by omega) ol1 or1 (by simp only [List.length_append];omega)) (by simp only [List.length_append,List.length_map,JCh];omega) Jr JF JC JC V8 JC ?_
         refine JA.nil ?_
         refine JAV.nrm (()) ?_ ?_
         ·trivial
         ·exact JN.kp [0,2,3,4,18,24] [900] Yi
        ·skip
         have hq:¬(p.length<i∧i<mid):=by simp only [Bool.and_eq_false_iff,decide_eq_false_iff_not] at hb199;omega
         have hsame:p++(l1++(r1++(l2++(r2++q))))=p++(mg (fun x y=>decide (c x y<0)) l1 r1++(l2++(r2++q))):=by
          rcases Nat.lt_or_ge p.length i with h|h
          ·have:r1=[]:=List.eq_nil_of_length_eq_zero (by omega)
           rw [this,JBN];simp
          ·have:l1=[]:=List.eq_nil_of_length_eq_zero (by omega)
           rw [this,JA4];simp
         refine JAV.nrm (()) ?_ ?_
         ·trivial
         ·exact JN.kp [0,2,3,4,18,24] [900] (by simp only [go_sem,hsum,hsh,hmid,hsame]<;>first|exact QB|rfl)
       ·skip
        rw [hd2]
        refine JB.reg ?_
        iterate 4 (refine JA.o1 JC ?_)
        iterate 3 (refine JA.gop JF JC JF ?_)
        refine JA.o1 JC ?_
        refine JA.nil ?_
        refine JB.cnd JC (fun hb213=>?_) (fun hb213=>?_)
        ·skip
         have hq:mid<mid+(p.length+l.length)-i∧mid+(p.length+l.length)-i<p.length+l.length+r.length:=by simp only [Bool.and_eq_true,decide_eq_true_eq] at hb213;omega
         have hfin:(p++mg (fun x y=>decide (c x y<0)) l1 r1)++(mg (fun x y=>decide (c x y<0)) l2 r2++q)=p++(mg (fun x y=>decide (c x y<0)) l r++q):=by rw [hmg];simp
         refine JB.reg1 ?_
         have X:=X.a hfin
         iterate 5 (refine JA.o1 JC ?_)
         refine JA.lendA 900 900 (IH (p++mg (fun x y=>decide (c x y<0)) l1 r1) l2 r2 q (by omega) (by omega) (by omega) ol2 or2 (by simp only [List.length_append,JCh];omega)) (by simp only [List.length_append,List.length_map,JCh];omega) Jr JF JC JC V8 JC ?_
         refine JA.nil ?_
         exact Ends.fin0 [900] (rs:=[]) rfl JC Qk
        ·skip
         have hq:¬(i<p.length+l.length∧mid+(p.length+l.length)-i<p.length+l.length+r.length):=by simp only [Bool.and_eq_false_iff,decide_eq_false_iff_not] at hb213;omega
         have hfin:(p++mg (fun x y=>decide (c x y<0)) l1 r1)++(l2++(r2++q))=p++(mg (fun x y=>decide (c x y<0)) l r++q):=by
          rw [hmg]
          rcases Nat.lt_or_ge i (p.length+l.length) with h|h
          ·have:r2=[]:=List.eq_nil_of_length_eq_zero (by omega)
           rw [this,JBN];simp
          ·have:l2=[]:=List.eq_nil_of_length_eq_zero (by omega)
           rw [this,JA4];simp
         have X:=X.a hfin
         exact Ends.fin0 [900] (rs:=[]) rfl JC Qk
theorem JQk {g:FuncId}{ds:List D}(c:Qo→Qo→Int)(hg:JM Tryz.prog g=true)(hc:∀x y,Jf Tryz.prog g (JAB x::JAB y::ds.map fun x=>.leaf (.d x)) (.int (c x y)) [])(hw:YZ (fun x y=>decide (c x y<0)))(n:Nat)(hn2:n≤1000) :
  ∀p l r q:List Qo,0<l.length→0<r.length→YA (fun x y=>decide (c x y<0)) l→YA (fun x y=>decide (c x y<0)) r→p.length+l.length+r.length+q.length=n→Qg Tryz.prog 185 [.leaf (.own 900 0 n n),.int (p).length,.int (((p).length+(l).length:Nat):Int),.int (((p).length+(l).length+(r).length:Nat):Int),.leaf (.d (.fn g ds))] [(900,.arr 112 4 ((p++(l++(r++q))).map YC))] (.ret (.tup []) [(900,.arr 112 4 ((p++(mg (fun x y=>decide (c x y<0)) l r++q)).map YC))]):=by
 have key:∀N,∀p l r q:List Qo,l.length+r.length=N→0<l.length→0<r.length→YA (fun x y=>decide (c x y<0)) l→YA (fun x y=>decide (c x y<0)) r→p.length+l.length+r.length+q.length=n→Qg Tryz.prog 185 [.leaf (.own 900 0 n n),.int (p).length,.int (((p).length+(l).length:Nat):Int),.int (((p).length+(l).length+(r).length:Nat):Int),.leaf (.d (.fn g ds))] [(900,.arr 112 4 ((p++(l++(r++q))).map YC))] (.ret (.tup []) [(900,.arr 112 4 ((p++(mg (fun x y=>decide (c x y<0)) l r++q)).map YC))]):=by
  intro N
  induction N using Nat.strongRecOn with
  |_ N ih=>
   intro p l r q hN h1 h2 h3 h4 h5
   exact JQl c hg hc hw n N hn2 (fun p l r q hlt=>ih _ hlt p l r q rfl) p l r q hN h1 h2 h3 h4 h5
 exact fun p l r q=>key _ p l r q rfl
end Go.Mw.Cd
namespace Go.Mw.Cd
open Go.Proofs
theorem JFT {α:Type}(lt:α→α→Bool):QH lt ([]:List α)=[]:=rfl
theorem JQj {g:FuncId}{ds:List D}(c:Qo→Qo→Int)(hg:JM Tryz.prog g=true)(hc:∀x y,Jf Tryz.prog g (JAB x::JAB y::ds.map fun x=>.leaf (.d x)) (.int (c x y)) [])(hw:YZ (fun x y=>decide (c x y<0)))(l:List Qo)(hn:l.length≤39):Qg Tryz.prog 152 [.leaf (.own 900 0 l.length l.length),.int l.length,.leaf (.d (.fn g ds))] [(900,.arr 112 4 ((l).map YC))] (.ret (.tup []) [(900,.arr 112 4 ((QH (fun x y=>decide (c x y<0)) l).map YC))]):=by
 rcases (show l.length<20∨l.length=20∨20<l.length by omega) with h20|h20|h20
 ·skip
  skip
  refine Jq Jj Tryz.func152 rfl JHx JL rfl ?_
  refine JB.reg ?_
  refine JA.o1 JAs ?_
  refine JA.nil (JB.reg ?_)
  iterate 3 (refine JA.o1 JAs ?_)
  refine JA.nil (JB.blk ?_)
  refine JB.forA [0,1,2,6,7,8] [900] (1) (fun k=>[.slot 7 (.int (20*(k:Int))),.slot 8 (.int (20+20*(k:Int))),.obj 900 (.arr 112 4 ((if k=0 then l else QH (fun x y=>decide (c x y<0)) l).map YC))]) (fun k=>20*k≤l.length) (fun k=>by simp only [go_sem]<;>rfl) (by simp only [go_sem,if_pos,if_neg,List.nil_append,List.append_nil,if_pos,Int.natCast_zero,Int.mul_zero,Int.add_zero]<;>rfl) ?_ (fun k hk hX=>?_)
  ·omega
  ·skip
   refine JB.assocS (JB.reg ?_)
   iterate 3 (refine JA.o1 JAs ?_)
   refine JA.nil ?_
   refine JB.cndS JAs (fun hb13=>?_) (fun hb13=>?_)
   ·skip
    exact absurd (of_decide_eq_true hb13) (by omega)
   ·skip
    have hk0:k=0:=by omega
    subst hk0
    refine JB.exitS (JU.ext (JR.hit (JB.reg ?_)))
    iterate 4 (refine JA.o1 JAs ?_)
    refine JA.lendA 900 900 (JEs c hg hc ([]) (l) ([]) l.length (by simp [Z8]) (by omega)) V78 Jr JF JAs JAs V9 JAs ?_
    refine JA.nil (JB.blk1 ?_)
    refine JB.forA [0,1,2,6] [900] (0) (fun k=>[]) (fun _=>True) (fun k=>by simp only [go_sem]<;>rfl) JAs ?_ (fun k hk hX=>?_)
    ·trivial
    ·skip
     refine JB.assocS (JB.reg ?_)
     iterate 3 (refine JA.o1 JAs ?_)
     refine JA.nil ?_
     refine JB.cndS JAs (fun hb30=>?_) (fun hb30=>?_)
     ·skip
      exact absurd (of_decide_eq_true hb30) (by omega)
     ·skip
      refine JB.exitS (JU.ext (QA.hit ?_))
      exact Ends.fin0 [900] (rs:=[]) rfl JAs (by simp only [go_sem,if_pos,if_neg,List.nil_append,List.append_nil]<;>first|rfl|exact QB)
 ·skip
  have hli:(QH (fun x y=>decide (c x y<0)) l).length=20:=by rw [Z8];exact h20
  have h10:¬(1:Nat)=0:=by omega
  refine Jq Jj Tryz.func152 rfl JHx JL rfl ?_
  refine JB.reg ?_
  refine JA.o1 ZW ?_
  refine JA.nil (JB.reg ?_)
  iterate 3 (refine JA.o1 ZW ?_)
  refine JA.nil (JB.blk ?_)
  refine JB.forA [0,1,2,6,7,8] [900] (1) (fun k=>[.slot 7 (.int (20*(k:Int))),.slot 8 (.int (20+20*(k:Int))),.obj 900 (.arr 112 4 ((if k=0 then l else QH (fun x y=>decide (c x y<0)) l).map YC))]) (fun k=>20*k≤l.length) (fun k=>by simp only [go_sem]<;>rfl) (by simp only [go_sem,List.nil_append,List.append_nil,JFT,if_neg h10,if_pos,Int.natCast_zero,Int.mul_zero,Int.add_zero]<;>rfl) ?_ (fun k hk hX=>?_)
  ·omega
  ·skip
   refine JB.assocS (JB.reg ?_)
   iterate 3 (refine JA.o1 ZW ?_)
   refine JA.nil ?_
   refine JB.cndS ZW (fun hb13=>?_) (fun hb13=>?_)
   ·skip
    have hk0:k=0:=by have:=of_decide_eq_true hb13;omega
    subst hk0
    refine JB.skipS (JB.blk1 (JB.reg ?_))
    iterate 4 (refine JA.o1 ZW ?_)
    refine JA.lendA 900 900 (JEs c hg hc ([]) (l) ([]) l.length (by simp [Z8]) (by omega)) V78 Jr JF ZW ZW V9 ZW ?_
    refine JA.nil (JB.reg ?_)
    iterate 2 (refine JA.o1 ZW ?_)
    refine JA.nil (JB.reg1 ?_)
    iterate 2 (refine JA.o1 ZW ?_)
    refine JA.o1 (by simp only [go_sem,List.nil_append,List.append_nil,JFT,if_neg h10];(try simp (disch:=omega) only [IntWalk.i64_in,IntWalk.u64_in,IntWalk.i32_in,IntWalk.u8_in,if_neg,if_pos])<;> rfl) ?_
    refine JA.o1 ZW ?_
    refine JA.nil (QA.nrm ?_)
    refine JU.nxt ?_ ?_ ?_
    ·omega
    ·exact JN.kp [0,1,2,6,7,8] [900] (by simp only [go_sem,List.nil_append,List.append_nil,JFT,if_neg h10]<;>first|exact QB|rfl)
    ·omega
   ·skip
    have hk0:k=1:=by have:=of_decide_eq_false hb13;omega
    subst hk0
    refine JB.exitS (JU.ext (JR.hit (JB.reg ?_)))
    iterate 4 (refine JA.o1 ZW ?_)
    refine JA.lendA 900 900 (JEs c hg hc (QH (fun x y=>decide (c x y<0)) l) ([]) ([]) l.length (by simp only [List.length_append,List.length_nil,Z8];omega) (by omega)) V78 Jr JF ZW ZW V9 ZW ?_
    refine JA.nil (JB.blk1 ?_)
    refine JB.forA [0,1,2,6] [900] (0) (fun k=>[]) (fun _=>True) (fun k=>by simp only [go_sem]<;>rfl) ZW ?_ (fun k hk hX=>?_)
    ·trivial
    ·skip
     refine JB.assocS (JB.reg ?_)
     iterate 3 (refine JA.o1 ZW ?_)
     refine JA.nil ?_
     refine JB.cndS ZW (fun hb30=>?_) (fun hb30=>?_)
     ·skip
      exact absurd (of_decide_eq_true hb30) (by omega)
     ·skip
      refine JB.exitS (JU.ext (QA.hit ?_))
      exact Ends.fin0 [900] (rs:=[]) rfl ZW (by simp only [go_sem,List.nil_append,List.append_nil,JFT,if_neg h10]<;>first|rfl|exact QB)
 ·skip
  obtain ⟨A,B,rfl,hA,hB⟩:=JIo (l:=l) (n:=20) (by omega)
  have hAB:(A++B).length=A.length+B.length:=List.length_append
  have lA:(QH (fun x y=>decide (c x y<0)) A).length=20:=by rw [Z8];exact hA
  have lB:(QH (fun x y=>decide (c x y<0)) B).length=B.length:=Z8 _
  have hmg:=JU0 hw A B
  have hnil:([]:List Qo).length=0:=rfl
  obtain ⟨n,hN⟩:∃n,(A++B).length=n:=⟨_,rfl⟩
  rw [hN] at hn h20 hAB ⊢
  have h10:¬(1:Nat)=0:=by omega
  refine Jq Jj Tryz.func152 rfl JHx JL rfl ?_
  refine JB.reg ?_
  refine JA.o1 Zb ?_
  refine JA.nil (JB.reg ?_)
  iterate 3 (refine JA.o1 Zb ?_)
  refine JA.nil (JB.blk ?_)
  refine JB.forA [0,1,2,6,7,8] [900] (1) (fun k=>[.slot 7 (.int (20*(k:Int))),.slot 8 (.int (20+20*(k:Int))),.obj 900 (.arr 112 4 ((if k=0 then A++B else QH (fun x y=>decide (c x y<0)) A++B).map YC))]) (fun _=>True) (fun k=>by simp only [go_sem]<;>rfl) V75 ?_ (fun k hk hX=>?_)
  ·trivial
  ·skip
   refine JB.assocS (JB.reg ?_)
   iterate 3 (refine JA.o1 Zb ?_)
   refine JA.nil ?_
   refine JB.cndS Zb (fun hb13=>?_) (fun hb13=>?_)
   ·skip
    have hk0:k=0:=by have:=of_decide_eq_true hb13;omega
    subst hk0
    refine JB.skipS (JB.blk1 (JB.reg ?_))
    iterate 4 (refine JA.o1 Zb ?_)
    refine JA.lendA 900 900 (JEs c hg hc [] A B n (by rw [List.nil_append];exact hN) (by omega)) JF9 Jr JF Zb Zb V9 Zb ?_
    refine JA.nil (JB.reg ?_)
    iterate 2 (refine JA.o1 Zb ?_)
    refine JA.nil (JB.reg1 ?_)
    iterate 2 (refine JA.o1 Zb ?_)
    refine JA.o1 (by simp only [go_sem,List.nil_append,List.append_nil,if_neg h10];(try simp (disch:=omega) only [IntWalk.i64_in,IntWalk.u64_in,IntWalk.i32_in,IntWalk.u8_in,if_neg,if_pos])<;> rfl) ?_
    refine JA.o1 Zb ?_
    refine JA.nil (QA.nrm ?_)
    refine JU.nxt ?_ ?_ ?_
    ·omega
    ·exact JN.kp [0,1,2,6,7,8] [900] (by simp only [go_sem,List.nil_append,List.append_nil,if_neg h10]<;>first|exact QB|rfl)
    ·trivial
   ·skip
    have hk0:k=1:=by have:=of_decide_eq_false hb13;omega
    subst hk0
    refine JB.exitS (JU.ext (JR.hit (JB.reg ?_)))
    iterate 4 (refine JA.o1 Zb ?_)
    refine JA.lendA 900 900 (JEs c hg hc (QH (fun x y=>decide (c x y<0)) A) B [] n JF9 (by omega)) JF9 Jr JF Zb Zb V9 Zb ?_
    refine JA.nil (JB.blk1 ?_)
    refine JB.forA [0,1,2,6] [900] (1) (fun j=>[.slot 6 (.int (20+20*(j:Int))),.obj 900 (.arr 112 4 ((if j=0 then QH (fun x y=>decide (c x y<0)) A++QH (fun x y=>decide (c x y<0)) B else QH (fun x y=>decide (c x y<0)) (A++B)).map YC))]) (fun _=>True) (fun j=>by simp only [go_sem]<;>rfl) V75 ?_ (fun j hj Xj=>?_)
    ·trivial
    ·skip
     refine JB.assocS (JB.reg ?_)
     iterate 3 (refine JA.o1 Zb ?_)
     refine JA.nil ?_
     refine JB.cndS Zb (fun hb30=>?_) (fun hb30=>?_)
     ·skip
      have hj0:j=0:=by have:=of_decide_eq_true hb30;omega
      subst hj0
      refine JB.skipS (JB.blk1 (JB.reg ?_))
      refine JA.o1 V99 ?_
      refine JA.o1 V44 ?_
      iterate 2 (refine JA.o1 V99 ?_)
      refine JA.nil (JB.blk ?_)
      refine JB.forA [0,1,2,6,7,8] [900] (0) (fun i=>[]) (fun _=>True) (fun i=>by simp only [go_sem]<;>rfl) V99 ?_ (fun i hi Xi=>?_)
      ·trivial
      ·skip
       refine JB.assocS (JB.reg ?_)
       iterate 3 (refine JA.o1 V99 ?_)
       refine JA.nil ?_
       refine JB.cndS V99 (fun hb35=>?_) (fun hb35=>?_)
       ·skip
        exact absurd (of_decide_eq_true hb35) (by omega)
       ·skip
        refine JB.exitS (JU.ext (JR.hit (JB.assocS (JB.reg ?_))))
        iterate 2 (refine JA.o1 V99 ?_)
        refine JA.o1 V44 ?_
        refine JA.o1 V99 ?_
        refine JA.nil (JB.assocS (JB.reg ?_))
        iterate 3 (refine JA.o1 V99 ?_)
        refine JA.nil ?_
        refine JB.cndS V99 (fun hb54=>?_) (fun hb54=>?_)
        ·skip
         refine JB.reg ?_
         iterate 5 (refine JA.o1 V99 ?_)
         refine JA.lendA 900 900 (JQk c hg hc hw n (by omega) [] (QH (fun x y=>decide (c x y<0)) A) (QH (fun x y=>decide (c x y<0)) B) [] (by omega) (by omega) (JHD hw A) (JHD hw B) JF9) (by first|(simp [Z8,JCh];done)|(simp [Z8,JCh];omega)) Jr JF V99 V99 V8 V99 ?_
         refine JA.nil (JB.reg1 ?_)
         refine JA.o1 V99 ?_
         refine JA.o1 V44 ?_
         refine JA.o1 V99 ?_
         refine JA.nil (QA.nrm ?_)
         refine JU.nxt ?_ ?_ ?_
         ·omega
         ·exact JN.kp [0,1,2,6] [900] (by simp only [go_sem,List.nil_append,List.append_nil,if_neg h10,hmg]<;>first|exact QB|rfl)
         ·trivial
        ·skip
         exact absurd (of_decide_eq_false hb54) (by omega)
     ·skip
      have hj0:j=1:=by have:=of_decide_eq_false hb30;omega
      subst hj0
      refine JB.exitS (JU.ext (QA.hit ?_))
      exact Ends.fin0 [900] (rs:=[]) rfl Zb (by simp only [go_sem,List.nil_append,List.append_nil,if_neg h10]<;>first|rfl|exact QB)
end Go.Mw.Cd
namespace Go.Mw.Cd
open Go.Proofs
theorem JP9 {g:FuncId}{ds:List D}(c:Qo→Qo→Int)(hg:JM Tryz.prog g=true)(hc:∀x y,Jf Tryz.prog g (JAB x::JAB y::ds.map fun x=>.leaf (.d x)) (.int (c x y)) [])(hw:YZ (fun x y=>decide (c x y<0)))(l:List Qo)(hn:l.length≤39):Qg Tryz.prog 114 [.leaf (.own 900 0 l.length l.length),.leaf (.d (.fn g ds))] [(900,.arr 112 4 ((l).map YC))] (.ret (.tup []) [(900,.arr 112 4 ((QH (fun x y=>decide (c x y<0)) l).map YC))]):=by
 refine Jq Jj Tryz.func114 rfl (by simp only [List.length_cons,List.length_nil,Tryz.ntmps114];omega) JL rfl ?_
 refine JB.reg1 ?_
 iterate 4 (refine JA.o ?_)
 refine JA.lendA 900 900 (JQj c hg hc hw l hn) (by simp [Z8]) Jr JF JF JF V18 JF ?_
 refine JA.nil ?_
 exact Ends.fin0 [900] (rs:=[]) rfl JF Y3
theorem JVf:YZ (fun (x y:Qo)=>decide (JAg x.1.day y.1.day<0)):=by
 have h:∀x y:Qo,decide (JAg x.1.day y.1.day<0)=decide (x.1.day<y.1.day):=fun x y=>by
  have:=JIp (a:=x) (b:=y)
  unfold JC5 at this
  rw [Bool.eq_iff_iff,this,decide_eq_true_iff]
 refine ⟨fun x=>?_,fun x y z h1 h2=>?_,fun x y z h1 h2=>?_⟩
 ·rw [h];simp
 ·rw [h] at *;simp at *;omega
 ·rw [h] at *;simp at *;omega
def ofV (w:JP)(house:Int):List (List AV):=(Jo w house).mapIdx fun k i=>[.int k,JAB (numOf w i)]
theorem JJu {w:JP}{house:Int}{k:Nat}{v:List AV}(h:(ofV w house)[k]? = some v):∃i,(Jo w house)[k]? = some i∧v=[.int k,JAB (numOf w i)]:=by
 unfold ofV at h
 rw [List.getElem?_mapIdx] at h
 cases hi:(Jo w house)[k]? with
 |none=>simp [hi] at h
 |some i=>exact ⟨i,rfl,by simpa [hi] using h.symm⟩
theorem JSk {w:JP}{house:Int}{k i:Nat}(h:(Jo w house)[k]? = some i):(ofV w house).drop k=[.int k,JAB (numOf w i)]::(ofV w house).drop (k+1):=by
 refine JEw ?_
 unfold ofV
 rw [List.getElem?_mapIdx,h];rfl
theorem JA5 (w:JP)(house:Int):(ofV w house).length=(Jo w house).length:=by unfold ofV;simp
theorem JIi (w:JP)(house:Int)(h1:w.rates.length≤1000)(h2:w.readings.length≤1000)(h20:∀h,(Jo w h).length≤39):Qg Tryz.prog 113 [.leaf (.obj 900),.leaf (.d (.pt (JAp w))),.leaf (.d (.pt [.i house]))] [(900,.yl)] (lB (ofV w house)):=by
 refine Jq Jj Tryz.func113 rfl (by simp only [List.length_cons,List.length_nil,Tryz.ntmps113];omega) JL rfl ?_
 refine JB.reg ?_
 refine JA.o ?_
 refine JA.nil (JB.assocS (JB.reg ?_))
 refine JA.nilo 4 1000 112 4 JF JF (by omega) (by omega) JF ?_
 iterate 4 (refine JA.o ?_)
 refine JA.nil (JB.blk ?_)
 refine JB.forA [0,2,4,10,11,12] [900,1000] (w.readings.length) (fun k=>[.slot 12 (.int k),.slot 4 (.leaf (.own 1000 0 (Zg w house k).length (Zg w house k).length)),.obj 1000 (.arr 112 4 ((Zg w house k).map YC))]) (fun _=>True) (fun k=>by simp only [go_sem]<;>rfl) JF ?_ (fun k hk hX=>?_)
 ·trivial
 ·skip
  refine JB.reg ?_
  refine JA.o ?_
  refine JA.nil ?_
  refine JB.cndS JF (fun hb13=>?_) (fun hb13=>?_)
  ·skip
   have hlt:=Yo hb13
   have hs:=ZU hlt
   have hfl:(Zg w house k).length≤k:=by rw [JJS];exact JHI w house k
   refine JB.skipS (JB.blk (JB.reg ?_))
   have X:=Fx.mk hs
   refine JA.o1 JC ?_
   refine JA.o1 QG ?_
   iterate 4 (refine JA.o1 JC ?_)
   refine JA.nil (JB.reg ?_)
   iterate 4 (refine JA.o1 JC ?_)
   refine JA.nil ?_
   refine JB.cnd JC (fun hb20=>?_) (fun hb20=>?_)
   ·skip
    have e:Zg w house (k+1)=Zg w house k++[numOf w k]:=by rw [Zg,if_pos (by simpa using hb20)]
    refine JB.reg1 ?_
    iterate 5 (refine JA.o1 JC ?_)
    refine JA.o1 V6 ?_
    refine JA.o1 JC ?_
    refine JA.nil (JR.nrm (JB.reg1 ?_))
    refine JA.o1 Jx ?_
    refine JA.o1 JC ?_
    refine JA.nil ?_
    refine JU.nxt ?_ ?_ ?_
    ·omega
    ·exact JN.kp [0,2,4,10,11,12] [900,1000] (by simp only [go_sem,X.h]<;>first|((repeat' (first|with_reducible_and_instances rfl|refine Q6 ?_ ?_ ?_|refine Q4 ?_|refine Q8 ?_|refine Q7 ?_ ?_|refine Qw ?_|refine Qy ?_|refine Q9 ?_|refine Q1 ?_ ?_|refine Q3 ?_ ?_|refine Q5 ?_|refine Qx ?_|(refine Qz ?_;omega)));(all_goals (simp [e,numOf,YC])))|rfl)
    ·trivial
   ·skip
    have e:Zg w house (k+1)=Zg w house k:=by rw [Zg,if_neg (by simpa using hb20)]
    refine JR.nrm (JB.reg1 ?_)
    have X:=Fx.mk e
    refine JA.o1 Jx ?_
    refine JA.o1 JC ?_
    refine JA.nil ?_
    refine JU.nxt ?_ ?_ ?_
    ·omega
    ·exact JN.kp [0,2,4,10,11,12] [900,1000] Yi
    ·trivial
  ·skip
   have hek:k=w.readings.length:=by have:=Ys hb13;omega
   subst hek
   have hsort:QH (fun x y=>decide (JAg x.1.day y.1.day<0)) (Zg w house w.readings.length)=(Jo w house).map (numOf w):=JHg w house w.readings.length
   have hfl2:(Zg w house w.readings.length).length=(Jo w house).length:=JJS w house _
   refine JB.exitS (JU.ext (JR.hit (JB.reg ?_)))
   refine JA.o ?_
   refine JA.lendA 900 1000 (JP9 (fun a b=>JAg a.1.day b.1.day) Jr (ds:=[]) JQa JVf (Zg w house w.readings.length) (by rw [JJS];exact h20 house)) (by simp [Z8]) Jr JF JF JF V27 JF ?_
   refine JA.nil (JB.reg ?_)
   rw [hsort,hfl2]
   iterate 3 (refine JA.o ?_)
   refine JA.nil (JB.blk1 ?_)
   refine JB.forY [0,30,31,32] [900,1000] ((Jo w house).length) (fun k=>[.slot 32 (.int k)]) (fun k=>lB ((ofV w house).drop k)) (fun _=>True) (fun k=>by simp only [go_sem]<;>rfl) (by simp only [go_sem,List.drop_zero,Int.natCast_zero]<;>rfl) ?_ (fun k hk hX=>?_)
   ·trivial
   ·skip
    refine JB.reg ?_
    refine JA.o ?_
    refine JA.nil ?_
    refine JB.cndS JF (fun hb33=>?_) (fun hb33=>?_)
    ·skip
     have hlt:=Yo hb33
     obtain ⟨i,hi⟩:=JAh hb33
     have hdr:=JSk hi
     have hol:=JD8 w house
     refine JB.skipS (JB.blk (JB.reg ?_))
     have X:=Fx.mk hi
     refine JA.o1 JC ?_
     refine JA.o1 QG ?_
     iterate 4 (refine JA.o1 JC ?_)
     refine JA.nil (JB.reg ?_)
     iterate 3 (refine JA.o1 JC ?_)
     refine JA.yld (args:=[.int k,JAB (numOf w i)]) JF JF JC (by exact ⟨Zr.refl rfl,Zr.refl rfl,trivial⟩) (by simp only [hdr,JDI]<;>rfl) (fun t=>?_)
     refine JA.o1 JC ?_
     refine JA.nil ?_
     refine JB.cnd JC (fun hb41=>?_) (fun hb41=>?_)
     ·skip
      have ht:t=false:=by simpa using hb41
      subst ht
      refine JR.ret (JU.ret (QA.ret ?_))
      exact Ends.fin [] (rs:=[]) rfl JC Qk
     ·skip
      have ht:t=true:=by simpa using hb41
      subst ht
      refine JR.nrm (JB.reg1 ?_)
      refine JA.o1 Jx ?_
      refine JA.o1 JC ?_
      refine JA.nil ?_
      refine JU.nxt ?_ ?_ ?_
      ·omega
      ·exact JN.kp [0,30,31,32] [900,1000] Yi
      ·trivial
    ·skip
     have hke:k=(Jo w house).length:=by have:=Ys hb33;omega
     have hdn:(ofV w house).drop k=[]:=by rw [hke,←JA5];exact List.drop_length
     refine JB.exitS (JU.ext (QA.hit ?_))
     have X:=Fx.mk hdn
     exact Ends.fin0 [] (rs:=[]) rfl (by simp only [go_sem,X.h,JM1]<;>rfl) (by simp only [go_sem,X.h,JM1]<;>first|rfl|exact QB)
def JAm (o:Option Nat):AV:=match o with
 |some n=>.tup [(false,[.d (.i n)]),(false,[.d (.raw (.bool true))])]
 |none=>.tup [(false,[.d (.i 0)]),(false,[.d (.raw (.bool false))])]
theorem JM4 {w:JP}{house:Int}{k i:Nat}(h:(Jo w house)[k]? = some i):Z6 w house (k+1)=numOf w i:=by
 unfold Z6;rw [if_neg (by omega),Nat.add_sub_cancel,h];rfl
theorem JGg (w:JP)(house:Nat)(h1:w.rates.length≤1000)(h2:w.readings.length≤1000)(h20:∀h,(Jo w h).length≤39)(hw:QM w=true)(hh:house<w.rates.length):Jf Tryz.prog 61 [JAU w,.int house] (JAm (YP w house)) []:=by
 have hs:=JHY hh
 have hrt:=JHT hw hh
 refine Jq Jj Tryz.func61 rfl (by simp only [List.length_cons,List.length_nil,Tryz.ntmps61];omega) JL rfl ?_
 refine JB.reg ?_
 have X:=Fx.mk hs
 iterate 4 (refine JA.o1 JC ?_)
 refine JA.nil (JB.reg ?_)
 refine JA.o1 JC ?_
 refine JA.nil (JB.assocS (JB.reg ?_))
 iterate 2 (refine JA.o1 JC ?_)
 refine JA.c1 (JIf w house) JC JC ?_
 refine JA.nil (JB.blk ?_)
 refine JB.rangeL 113 [.pt (JAp w),.pt [.i house]] 900 (ofV w house) [2,3,4,5,6,11] [2,3,4,5,6] (fun k=>[.obj 6 (.cells [.d (.i (Z6 w house k).1.house),.d (.i (Z6 w house k).1.day),.d (.i (Z6 w house k).1.shows),.d (.i ((Z6 w house k).2:Int))])]) (fun k=>YP w house=JAF w (rt w house) ((Jo w house).drop (k-1))) (fun k=>by simp only [go_sem]<;>rfl) JC (fun _=>by rfl) (fun _=>by rfl) rfl JF Jr (JIi w house h1 h2 h20) Qb ?_ (fun k v hv hX=>?_) (fun hX=>?_)
 ·rfl
 ·skip
  obtain ⟨i,hi,rfl⟩:=JJu hv
  have hil:=(JAN.1 (List.mem_of_getElem? hi)).1
  have hri:=JAo hw hil
  have e:Z6 w house (k+1)=numOf w i:=JM4 hi
  refine ⟨rfl,?_⟩
  refine JB.reg ?_
  have X:=X.a e
  refine JA.o1 Qi ?_
  refine JA.nil (JB.reg1 ?_)
  iterate 2 (refine JA.o1 Qi ?_)
  refine JA.nil ?_
  refine ⟨rfl,?_⟩
  refine JB.blk1 (JB.assocS ?_)
  by_cases hk0:k=0
  ·skip
   subst hk0
   have hXn:YP w house=JAF w (rt w house) ((Jo w house).drop (0+1-1)):=rfl
   have hg:decide (((0:Nat):Int)>0)=false:=by decide
   refine JB.opk 28 ?_
   have X:=X.a hg
   iterate 3 (refine JG.o1 Qi ?_)
   iterate 22 (refine JG.s ?_)
   refine JG.o1 Qi ?_
   refine JG.nil (QK.finT JL JL JL ?_)
   refine JB.cndS Qi (fun hb39=>?_) (fun hb39=>?_)
   ·exact absurd hb39 (by simp)
   ·skip
    refine JB.skipS (JB.reg1 ?_)
    iterate 2 (refine JA.o1 Qi ?_)
    refine JA.nil (QA.nrm ?_)
    refine ZM.nrm ?_ ?_
    ·exact JN.kl [2,3,4,5,6] JGA
    ·exact hXn
  ·skip
   obtain ⟨p,hp⟩:∃p,(Jo w house)[k-1]? = some p:=⟨_,List.getElem?_eq_getElem JGC⟩
   have hpl:=(JAN.1 (List.mem_of_getElem? hp)).1
   have hrp:=JAo hw hpl
   have hla:Z6 w house k=numOf w p:=by unfold Z6;rw [if_neg hk0,hp];rfl
   have hasc:=JIY w house (k-1) k p i (by omega) hp hi
   have htw:=JVU (s:=rt w house) hasc
   have hstep:=JPU (w:=w) (s:=rt w house) hp (show (Jo w house)[k-1+1]? = some i by rw [show k-1+1=k by omega];exact hi)
   have hg:decide ((k:Int)>0)=true:=by simp;omega
   refine JB.opk 28 ?_
   have X:=((X.a hg).a hla).a htw
   iterate 3 (refine JG.o1 Qi ?_)
   iterate 3 (refine JG.y1 Qi ?_)
   refine JG.y1 V80 ?_
   iterate 7 (refine JG.y1 Qi ?_)
   refine JG.y1 V64 ?_
   refine JG.calw JF (JLu (rt w house) ((rd w i).day-(rd w p).day) hrt (by omega)) Jr Qi Qi Z4 (Yr) Qi JF JF ?_
   iterate 6 (refine JG.y1 Qi ?_)
   refine JG.y1 V64 ?_
   refine JG.calw JF (JQG _ _) Jr Qi Qi Z4 (Yr) Qi JF JF ?_
   refine JG.y1 Qi ?_
   refine JG.o1 Qi ?_
   refine JG.nil (QK.finT JL JL JL ?_)
   refine JB.cndS Qi (fun hb39=>?_) (fun hb39=>?_)
   ·skip
    have hr:YP w house=some i:=by rw [hX,hstep,if_neg (by simpa using hb39)]
    refine JB.assocS (JB.reg ?_)
    have X:=Fx.mk hr
    iterate 4 (refine JA.o1 (by simp only [go_sem,X.h,JAm,numOf]<;>rfl) ?_)
    refine JA.nil (JB.retS (QA.ret ?_))
    refine ZM.ret JF ?_
    refine JR.ret ?_
    exact Ends.fin [] (rs:=[.cell 4 3,.cell 5 4]) rfl (by simp only [go_sem,X.h,JAm,numOf]<;>rfl) (by simp only [go_sem,X.h,JAm,numOf]<;>first|rfl|exact QB)
   ·skip
    have hXn:YP w house=JAF w (rt w house) ((Jo w house).drop (k+1-1)):=by rw [hX,hstep,if_pos (by simpa using hb39)];congr 2;omega
    refine JB.skipS (JB.reg1 ?_)
    iterate 2 (refine JA.o1 Qi ?_)
    refine JA.nil (QA.nrm ?_)
    refine ZM.nrm ?_ ?_
    ·exact JN.kl [2,3,4,5,6] JGA
    ·exact hXn
 ·skip
  have hr:YP w house=none:=by rw [hX,JPV (by rw [JA5];omega)]
  refine JR.nrm (JB.reg ?_)
  have X:=Fx.mk hr
  iterate 2 (refine JA.o1 JBk ?_)
  refine JA.nil ?_
  exact Ends.fin [] (rs:=[.cell 4 3,.cell 5 4]) rfl JBk (by simp only [go_sem,X.h,JAm]<;>first|rfl|exact QB)
end Go.Mw.Cd
namespace Go.Mw.Cd
open Go.Proofs
attribute [local go_sem] decide_false
def JAA (o:Option (Nat × Nat)):AV:=match o with
 |some p=>.tup [(false,[.d (.i p.1)]),(false,[.d (.i p.2)]),(false,[.d (.raw (.bool true))])]
 |none=>.tup [(false,[.d (.i 0)]),(false,[.d (.i 0)]),(false,[.d (.raw (.bool false))])]
theorem JPe {s:YB}{n:Int}(hs:0≤s.lo∧s.lo≤s.hi∧s.hi≤100000)(hn:-200000≤n∧n≤200000):(-1000000000000≤(JAe s n).low∧(JAe s n).low≤1000000000000)∧-1000000000000≤(JAe s n).high∧(JAe s n).high≤1000000000000:=by
 have m1:=JHM (a:=s.lo) (b:=n) (by omega) (by omega)
 have m2:=JHM (a:=s.hi) (b:=n) (by omega) (by omega)
 unfold JAe
 split<;>simp only<;>omega
theorem JVo (w:JP)(s:YB)(day:Int)(i:Nat):JDX w s day i=⟨(rd w i).shows+(JAe s (day-(rd w i).day)).low,(rd w i).shows+(JAe s (day-(rd w i).day)).high⟩:=by
 unfold JDX JAe
 split<;>rfl
theorem JGh (w:JP)(h1:w.rates.length≤1000)(h2:w.readings.length≤1000)(h20:∀h,(Jo w h).length≤39)(hw:QM w=true):Jf Tryz.prog 44 [JAU w] (JAA (Zj w)) []:=by
 refine Jq Jj Tryz.func44 rfl (by simp only [List.length_cons,List.length_nil,Tryz.ntmps44];omega) JL rfl ?_
 refine JB.reg ?_
 iterate 4 (refine JA.o ?_)
 refine JA.nil (JB.assocS (JB.reg ?_))
 iterate 4 (refine JA.o ?_)
 refine JA.nil (JB.blk ?_)
 refine JB.forA [1,10,11] [1] (w.rates.length) (fun k=>[.slot 11 (.int k)]) (fun k=>∀j,j<k→YP w j=none) (fun k=>by simp only [go_sem]<;>rfl) JF ?_ (fun k hk hX=>?_)
 ·exact fun j hj=>absurd hj (by omega)
 ·skip
  refine JB.reg ?_
  refine JA.o ?_
  refine JA.nil ?_
  refine JB.cndS JF (fun hb12=>?_) (fun hb12=>?_)
  ·skip
   have hlt:=Yo hb12
   refine JB.skipS (JB.blk (JB.reg ?_))
   iterate 2 (refine JA.o ?_)
   refine JA.nil ?_
   by_cases hb:YP w k=none
   ·skip
    refine JB.reg ?_
    have X:=Fx.mk hb
    iterate 2 (refine JA.o1 JBk ?_)
    refine JA.c1 (JGg w k h1 h2 h20 hw hlt) JBk JBk ?_
    iterate 5 (refine JA.o1 JBk ?_)
    refine JA.nil (JB.reg ?_)
    refine JA.o1 JBk ?_
    refine JA.nil ?_
    refine JB.cnd JBk (fun hb20=>?_) (fun hb20=>?_)
    ·exact absurd hb20 (by simp)
    ·skip
     refine JR.nrm (JB.reg1 ?_)
     refine JA.o1 (by simp only [go_sem,X.h,JAm];(try simp (disch:=omega) only [IntWalk.i64_in,IntWalk.u64_in,IntWalk.i32_in,IntWalk.u8_in,if_neg,if_pos])<;> rfl) ?_
     refine JA.o1 JBk ?_
     refine JA.nil ?_
     refine JU.nxt ?_ ?_ ?_
     ·omega
     ·exact JN.kp [1,10,11] [1] (by simp only [go_sem,X.h,JAm]<;>first|exact QB|rfl)
     ·exact fun j hj=>if e:j=k then e▸hb else hX j (by omega)
   ·skip
    obtain ⟨n,hn⟩:∃n,YP w k=some n:=by
     cases h:YP w k with
     |none=>exact absurd h hb
     |some n=>exact ⟨n,rfl⟩
    have hr:=JSd hX hlt hn
    refine JB.reg ?_
    have X:=(Fx.mk hn).a hr
    iterate 2 (refine JA.o1 JCE ?_)
    refine JA.c1 (JGg w k h1 h2 h20 hw hlt) JCE JCE ?_
    iterate 5 (refine JA.o1 JCE ?_)
    refine JA.nil (JB.reg ?_)
    refine JA.o1 JCE ?_
    refine JA.nil ?_
    refine JB.cnd JCE (fun hb20=>?_) (fun hb20=>?_)
    ·skip
     refine JB.reg ?_
     iterate 5 (refine JA.o1 JCE ?_)
     refine JA.nil (JR.ret (JU.ret (JR.ret ?_)))
     exact Ends.fin [] (rs:=[.tmp 2,.tmp 3,.tmp 4]) rfl JCE (by simp only [go_sem,X.h,JAm,JAA]<;>first|rfl|exact QB)
    ·exact absurd hb20 (by simp)
  ·skip
   have hr:=JNV (w:=w) (fun j hj=>hX j (by have:=Ys hb12;omega))
   refine JB.exitS (JU.ext (JR.hit (JB.reg ?_)))
   have X:=Fx.mk hr
   iterate 3 (refine JA.o1 Zd ?_)
   refine JA.nil ?_
   exact Ends.fin [] (rs:=[.tmp 2,.tmp 3,.tmp 4]) rfl Zd JH3
theorem JIe (w:JP)(h1:w.rates.length≤1000)(h2:w.readings.length≤1000)(h20:QM w=true→∀h,(Jo w h).length≤39):Jf Tryz.prog 16 [JAU w] (JVS [(ZH w).1,(ZH w).2.1,(ZH w).2.2]) []:=by
 refine Jq Jj Tryz.func16 rfl (by simp only [List.length_cons,List.length_nil,Tryz.ntmps16];omega) JL rfl ?_
 refine JB.reg ?_
 iterate 4 (refine JA.o ?_)
 refine JA.nil (JB.assocS (JB.reg ?_))
 refine JA.o ?_
 refine JA.c1 (JLt w h1 h2) JF JF ?_
 refine JA.o ?_
 refine JA.nil ?_
 refine JB.cndS JF (fun hb8=>?_) (fun hb8=>?_)
 ·skip
  have hw:QM w=false:=by simpa using hb8
  have hr:ZH w=(0,0,1):=by rw [ZH,if_neg (by simp [hw])]
  refine JB.assocS (JB.reg ?_)
  have X:=Fx.mk hr
  iterate 3 (refine JA.o1 JC ?_)
  refine JA.nil (JB.retS ?_)
  exact Ends.fin [] (rs:=[.tmp 2,.tmp 3,.tmp 4]) rfl JC Qk
 ·skip
  have hw:QM w=true:=by simpa using hb8
  refine JB.skipS ?_
  by_cases hm:∃p,Zj w=some p
  ·skip
   obtain ⟨⟨i,n⟩,hm⟩:=hm
   have hr:ZH w=((i:Int),(n:Int),0):=by rw [ZH,if_pos hw,hm]
   refine JB.reg ?_
   have X:=(Fx.mk hm).a hr
   refine JA.o1 Zd ?_
   refine JA.c1 (JGh w h1 h2 (h20 hw) hw) Zd Zd ?_
   iterate 7 (refine JA.o1 Zd ?_)
   refine JA.nil (JB.assocS (JB.reg ?_))
   iterate 2 (refine JA.o1 Zd ?_)
   refine JA.nil ?_
   refine JB.cndS Zd (fun hb16=>?_) (fun hb16=>?_)
   ·exact absurd hb16 (by simp)
   ·skip
    refine JB.skipS (JB.reg ?_)
    iterate 5 (refine JA.o1 Zd ?_)
    refine JA.nil ?_
    exact Ends.fin [] (rs:=[.tmp 2,.tmp 3,.tmp 4]) rfl Zd JH3
  ·skip
   have hm:Zj w=none:=by
    cases h:Zj w with
    |none=>rfl
    |some p=>exact absurd ⟨p,h⟩ hm
   have hr:ZH w=(0,0,4):=by rw [ZH,if_pos hw,hm]
   refine JB.reg ?_
   have X:=(Fx.mk hm).a hr
   refine JA.o1 Zd ?_
   refine JA.c1 (JGh w h1 h2 (h20 hw) hw) Zd Zd ?_
   iterate 7 (refine JA.o1 Zd ?_)
   refine JA.nil (JB.assocS (JB.reg ?_))
   iterate 2 (refine JA.o1 Zd ?_)
   refine JA.nil ?_
   refine JB.cndS Zd (fun hb16=>?_) (fun hb16=>?_)
   ·skip
    refine JB.assocS (JB.reg ?_)
    iterate 3 (refine JA.o1 Zd ?_)
    refine JA.nil (JB.retS ?_)
    exact Ends.fin [] (rs:=[.tmp 2,.tmp 3,.tmp 4]) rfl Zd JH3
   ·exact absurd hb16 (by simp)
theorem JLs (w:JP)(house day:Int)(h1:w.rates.length≤1000)(h2:w.readings.length≤1000)(h20:QM w=true→∀h,(Jo w h).length≤39):Jf Tryz.prog 22 [JAU w,.int house,.int day] (JUJ (JBS w house day)) []:=by
 refine Jq Jj Tryz.func22 rfl (by simp only [List.length_cons,List.length_nil,Tryz.ntmps22];omega) JL rfl ?_
 refine JB.reg ?_
 iterate 5 (refine JA.o ?_)
 refine JA.nil (JB.blk (JB.reg ?_))
 refine JA.o ?_
 refine JA.c1 (JLt w h1 h2) JF JF ?_
 iterate 2 (refine JA.o ?_)
 refine JA.nil ?_
 refine JB.cnd JF (fun hb16=>?_) (fun hb16=>?_)
 ·skip
  have hw:QM w=false:=by simpa using hb16
  have hr:JBS w house day=(⟨0,0⟩,1):=by rw [JBS,if_pos hw]
  refine JB.reg ?_
  have X:=Fx.mk hr
  iterate 3 (refine JA.o1 JC ?_)
  refine JA.nil (JR.ret ?_)
  exact Ends.fin [] (rs:=[.cell 6 48,.tmp 7]) rfl JC Qk
 ·skip
  have hw:QM w=true:=by simpa using hb16
  have hw0:¬QM w=false:=by simp [hw]
  refine JB.reg ?_
  iterate 4 (refine JA.o ?_)
  refine JA.o1 V68 ?_
  refine JA.c1 (JDr _ _ _) JF JF ?_
  iterate 2 (refine JA.o ?_)
  refine JA.gop JF JF JF ?_
  refine JA.gcal JF (JDr _ _ _) Jr JF V23 JF ?_
  refine JA.gop JF JF JF ?_
  iterate 2 (refine JA.o ?_)
  refine JA.nil ?_
  refine JB.cnd JF (fun hb21=>?_) (fun hb21=>?_)
  ·skip
   have hc:Q0 house 0 ((w.rates.length:Int)-1)=false∨Q0 day 0 131072=false:=by simpa using hb21
   have hr:JBS w house day=(⟨0,0⟩,2):=by rw [JBS,if_neg hw0,if_pos hc]
   refine JB.reg ?_
   have X:=Fx.mk hr
   iterate 3 (refine JA.o1 JC ?_)
   refine JA.nil (JR.ret ?_)
   exact Ends.fin [] (rs:=[.cell 6 48,.tmp 7]) rfl JC Qk
  ·skip
   have hc:Q0 house 0 ((w.rates.length:Int)-1)=true∧Q0 day 0 131072=true:=by simpa using hb21
   have hc0:¬(Q0 house 0 ((w.rates.length:Int)-1)=false∨Q0 day 0 131072=false):=by simp [hc.1,hc.2]
   have hc1:=JCa.1 hc.1
   have hc2:=JCa.1 hc.2
   obtain ⟨house,rfl⟩:∃h':Nat,house=h':=⟨house.toNat,by omega⟩
   have hh:house<w.rates.length:=by omega
   have hrt:=JHT hw hh
   have hgt:=JHY hh
   refine JR.nrm (JB.reg ?_)
   have X:=Fx.mk hgt
   iterate 2 (refine JA.o1 JC ?_)
   refine JA.nil (JB.reg ?_)
   refine JA.o1 JC ?_
   refine JA.nil (JB.assocS (JB.reg ?_))
   iterate 2 (refine JA.o1 JC ?_)
   refine JA.c1 (JIf w house) JC JC ?_
   refine JA.nil (JB.blk ?_)
   refine JB.rangeL 113 [.pt (JAp w),.pt [.i house]] 900 (ofV w house) [3,4,5,6,8,9,37] [3,4,5,6,8,9] (fun k=>[.obj 8 (.cells [.d (.raw (.bool (decide (k=0))))]),.obj 9 (.cells [.d (.i (shF w (rt w house) day (Jo w house) k).lo),.d (.i (shF w (rt w house) day (Jo w house) k).hi)])]) (fun _=>True) (fun k=>by simp only [go_sem]<;>rfl) (by simp only [go_sem,X.h,JUI,decide_true]<;>rfl) (fun _=>by rfl) (fun _=>by rfl) rfl JF Jr (JIi w house h1 h2 (h20 hw)) Qb ?_ (fun k v hv hX=>?_) (fun hX=>?_)
   ·trivial
   ·skip
    obtain ⟨i,hi,rfl⟩:=JJu hv
    have hil:=(JAN.1 (List.mem_of_getElem? hi)).1
    have hri:=JAo hw hil
    have hbt:=JPe hrt (n:=day-(rd w i).day) (by omega)
    have hx:=JVo w (rt w house) day i
    have hd1:decide (k+1=0)=false:=by simp
    refine ⟨rfl,?_⟩
    refine JB.reg1 ?_
    iterate 2 (refine JA.o1 Qi ?_)
    refine JA.nil ?_
    refine ⟨rfl,?_⟩
    refine JB.blk1 ?_
    refine JB.opk 15 ?_
    iterate 3 (refine JG.o1 Qi ?_)
    refine JG.o1 V80 ?_
    iterate 5 (refine JG.o1 Qi ?_)
    refine JG.o1 V64 ?_
    refine JG.cal (JLu (rt w house) (day-(rd w i).day) hrt (by omega)) Jr Qi Z4 (Yr) Qi JF JF ?_
    iterate 2 (refine JG.o1 Qi ?_)
    refine JG.nil (QK.fin Qb Qb ?_)
    refine JB.reg ?_
    iterate 5 (refine JA.o1 Qi ?_)
    refine JA.o1 V64 ?_
    iterate 5 (refine JA.o1 Qi ?_)
    refine JA.o1 V64 ?_
    iterate 3 (refine JA.o1 Qi ?_)
    refine JA.nil (JB.assocS (JB.reg ?_))
    refine JA.o1 Qi ?_
    refine JA.nil ?_
    refine JB.cndS Qi (fun hb64=>?_) (fun hb64=>?_)
    ·skip
     have hk0:k=0:=of_decide_eq_true hb64
     have e:=JOa (w:=w) (s:=rt w house) (day:=day) hi
     rw [if_pos hk0,hx] at e
     refine JB.reg ?_
     have X:=(X.a e).a hd1
     iterate 3 (refine JA.o1 Qi ?_)
     refine JA.nil (JB.reg1 ?_)
     iterate 2 (refine JA.o1 Qi ?_)
     refine JA.c1 (JLr ⟨_,_⟩ ⟨_,_⟩) Qi Qi ?_
     refine JA.o1 Qi ?_
     refine JA.nil (QA.nrm ?_)
     refine ZM.nrm ?_ ?_
     ·exact JN.kl [3,4,5,6,8,9] JGA
     ·trivial
    ·skip
     have hk0:¬k=0:=of_decide_eq_false hb64
     have e:=JOa (w:=w) (s:=rt w house) (day:=day) hi
     rw [if_neg hk0,hx] at e
     refine JB.skipS (JB.reg1 ?_)
     have X:=((X.a hb64).a e).a hd1
     iterate 2 (refine JA.o1 Qi ?_)
     refine JA.c1 (JLr ⟨_,_⟩ ⟨_,_⟩) Qi Qi ?_
     refine JA.o1 Qi ?_
     refine JA.nil (QA.nrm ?_)
     refine ZM.nrm ?_ ?_
     ·exact JN.kl [3,4,5,6,8,9] JGA
     ·trivial
   ·skip
    rw [JA5] at *
    refine JR.nrm (JB.assocS (JB.reg ?_))
    refine JA.o1 (by simp only [go_sem,JA5]<;>rfl) ?_
    refine JA.nil ?_
    refine JB.cndS (by simp only [go_sem,JA5]<;>rfl) (fun hb69=>?_) (fun hb69=>?_)
    ·skip
     have h0:Jo w house=[]:=List.eq_nil_of_length_eq_zero (by simpa using hb69)
     have hr:JBS w house day=(⟨0,0⟩,4):=by rw [JBS,if_neg hw0,if_neg hc0,if_pos h0]
     refine JB.assocS (JB.reg ?_)
     have X:=Fx.mk hr
     iterate 3 (refine JA.o1 (by simp only [go_sem,X.h,JA5]<;>rfl) ?_)
     refine JA.nil (JB.retS ?_)
     exact Ends.fin [] (rs:=[.cell 6 48,.tmp 7]) rfl (by simp only [go_sem,X.h,JA5]<;>rfl) (by simp only [go_sem,X.h,JA5]<;>first|rfl|exact QB)
    ·skip
     have h0:¬Jo w house=[]:=fun h=>by rw [h] at hb69;simp at hb69
     refine JB.skipS (JB.assocS ?_)
     by_cases hm:∃n,YP w house=some n
     ·skip
      obtain ⟨n,hm⟩:=hm
      have hr:JBS w house day=(⟨0,0⟩,6):=by rw [JBS,if_neg hw0,if_neg hc0,if_neg h0,if_pos (by simp [hm])]
      refine JB.reg ?_
      have X:=(Fx.mk hm).a hr
      iterate 2 (refine JA.o1 Z1 ?_)
      refine JA.c1 (JGg w house h1 h2 (h20 hw) hw hh) Z1 Z1 ?_
      iterate 5 (refine JA.o1 Z1 ?_)
      refine JA.nil (JB.assocS (JB.reg ?_))
      refine JA.o1 Z1 ?_
      refine JA.nil ?_
      refine JB.cndS Z1 (fun hb77=>?_) (fun hb77=>?_)
      ·skip
       refine JB.assocS (JB.reg ?_)
       iterate 3 (refine JA.o1 Z1 ?_)
       refine JA.nil (JB.retS ?_)
       exact Ends.fin [] (rs:=[.cell 6 48,.tmp 7]) rfl Z1 (by simp only [go_sem,X.h,JA5,JAm]<;>first|rfl|exact QB)
      ·exact absurd hb77 (by simp)
     ·skip
      have hm:YP w house=none:=by
       cases h:YP w house with
       |none=>rfl
       |some n=>exact absurd ⟨n,h⟩ hm
      have hr:JBS w house day=(shF w (rt w house) day (Jo w house) (Jo w house).length,0):=by rw [JBS,if_neg hw0,if_neg hc0,if_neg h0,if_neg (by simp [hm])];rfl
      refine JB.reg ?_
      have X:=(Fx.mk hm).a hr
      iterate 2 (refine JA.o1 Z1 ?_)
      refine JA.c1 (JGg w house h1 h2 (h20 hw) hw hh) Z1 Z1 ?_
      iterate 5 (refine JA.o1 Z1 ?_)
      refine JA.nil (JB.assocS (JB.reg ?_))
      refine JA.o1 Z1 ?_
      refine JA.nil ?_
      refine JB.cndS Z1 (fun hb77=>?_) (fun hb77=>?_)
      ·exact absurd hb77 (by simp)
      ·skip
       refine JB.skipS (JB.reg ?_)
       iterate 7 (refine JA.o1 Z1 ?_)
       refine JA.nil ?_
       exact Ends.fin [] (rs:=[.cell 6 48,.tmp 7]) rfl Z1 (by simp only [go_sem,X.h,JA5,JAm]<;>first|rfl|exact QB)
end Go.Mw.Cd
namespace Go.Mw.Cd
open Go.Proofs
theorem JQY (l:List Reading)(hl:l.length≤1000)(a b:Nat)(ra rb:Reading)(ha:l[a]? = some ra)(hb:l[b]? = some rb)(hab:a≠b):Qg Tryz.prog 239 [.val true [.d (.i a),.d (.i b)],.leaf (.own 900 0 l.length l.length)] [(900,.arr 34 3 ((l).map Qr))] (.ret (.leaf (.own 900 0 l.length l.length)) [(900,.arr 34 3 (((l.set a { ra with shows:=rb.shows }).set b { rb with shows:=ra.shows }).map Qr))]):=by
 have hal:=(List.getElem?_eq_some_iff.1 ha).1
 have hbl:=(List.getElem?_eq_some_iff.1 hb).1
 refine Jq Jj Tryz.func239 rfl (by simp only [List.length_cons,List.length_nil,Tryz.ntmps239];omega) JL rfl ?_
 refine JB.reg ?_
 iterate 2 (refine JA.o1 JCw ?_)
 refine JA.nil ?_
 refine JB.opk 26 ?_
 iterate 9 (refine JG.o1 JCw ?_)
 refine JG.o1 V58 ?_
 iterate 5 (refine JG.o1 JCw ?_)
 refine JG.o1 V58 ?_
 iterate 2 (refine JG.o1 JCw ?_)
 refine JG.o1 V58 ?_
 iterate 2 (refine JG.o1 JCw ?_)
 refine JG.o1 V58 ?_
 iterate 2 (refine JG.o1 JCw ?_)
 refine JG.nil (QK.finT JL JL JL ?_)
 refine JB.reg ?_
 iterate 2 (refine JA.o1 JCw ?_)
 refine JA.nil ?_
 exact Ends.fin [900] (rs:=[.tmp 4]) rfl JF (by simp only [go_sem,List.map_set]<;>rfl)
theorem JQX (l:List Reading)(hl:l.length≤1000)(a d:Nat)(ra:Reading)(ha:l[a]? = some ra)(hr:0≤ra.day∧ra.day≤131072)(hd:d≤1000):Qg Tryz.prog 242 [.val true [.d (.i a),.d (.i d)],.leaf (.own 900 0 l.length l.length)] [(900,.arr 34 3 ((l).map Qr))] (.ret (.leaf (.own 900 0 l.length l.length)) [(900,.arr 34 3 ((l.set a { ra with day:=ra.day-d }).map Qr))]):=by
 have hal:=(List.getElem?_eq_some_iff.1 ha).1
 refine Jq Jj Tryz.func242 rfl (by simp only [List.length_cons,List.length_nil,Tryz.ntmps242];omega) JL rfl ?_
 refine JB.reg ?_
 have X:=Fx.mk ha
 iterate 2 (refine JA.o1 JC ?_)
 refine JA.nil ?_
 refine JB.opk 14 ?_
 iterate 3 (refine JG.o1 JC ?_)
 refine JG.o1 QG ?_
 iterate 4 (refine JG.o1 JC ?_)
 refine JG.o1 Jx ?_
 refine JG.o1 QG ?_
 iterate 2 (refine JG.o1 JC ?_)
 refine JG.nil (QK.fin Qb Qb ?_)
 refine JB.reg ?_
 iterate 2 (refine JA.o1 JC ?_)
 refine JA.nil ?_
 exact Ends.fin [900] (rs:=[.tmp 4]) rfl JF (by simp only [go_sem,List.map_set]<;>rfl)
theorem JPx (l:List Reading)(hl:l.length≤1000)(a:Nat)(ha:a<l.length):Qg Tryz.prog 241 [.leaf (.own 900 0 l.length l.length),.int a,.int ((a:Int)+1)] [(900,.arr 34 3 ((l).map Qr))] (.ret (.leaf (.own 900 0 (l.length-1) l.length)) [(900,.arr 34 3 ((l.take a++l.drop (a+1)).map Qr++[[.i 0,.i 0,.i 0]]))]):=by
 have t1:((a:Int)+1).toNat=a+1:=by omega
 have t2:a+(l.length-(a+1))=l.length-1:=by omega
 have t3:((a:Int)==(a:Int)+1)=false:=by simp;omega
 have t4:(a=l.length)=False:=by simp;omega
 have t5:l.length-(l.length-1)=1:=by omega
 have t6:((l.length-1:Nat):Int).toNat=l.length-1:=by omega
 refine Jq Jj Tryz.func241 rfl (by simp only [List.length_cons,List.length_nil,Tryz.ntmps241];omega) JL rfl ?_
 refine JB.reg ?_
 have X:=(((((Fx.mk t1).a t2).a t3).a t4).a t5).a t6
 refine JA.o1 JCC ?_
 refine JA.nil (JB.reg ?_)
 iterate 5 (refine JA.o1 JCC ?_)
 refine JA.o1 V48 ?_
 refine JA.nil (JB.assocS (JB.reg ?_))
 iterate 3 (refine JA.o1 JCC ?_)
 refine JA.nil ?_
 refine JB.cndS JCC (fun hb16=>?_) (fun hb16=>?_)
 ·exact absurd hb16 (by simp)
 ·skip
  refine JB.skipS (JB.reg ?_)
  iterate 3 (refine JA.o1 JCC ?_)
  refine JA.nil ?_
  refine JB.opk 10 ?_
  iterate 2 (refine JG.o1 JCC ?_)
  refine JG.o1 V48 ?_
  iterate 2 (refine JG.o1 JCC ?_)
  refine JG.o1 V48 ?_
  refine JG.o1 (by simp only [go_sem,X.h,and_false,Int.toNat_zero,Nat.sub_zero];(try simp (disch:=omega) only [if_pos]);(try simp only [go_sem,X.h,and_false,Int.toNat_zero,Nat.sub_zero])<;>first|(refine ZQ ⟨by (try simp only [List.length_append,List.length_drop,List.length_take,List.length_map,List.length_cons,List.length_nil,List.length_replicate,List.length_set,List.length_range,Nat.zero_add]);omega,by (try simp only [List.length_append,List.length_drop,List.length_take,List.length_map,List.length_cons,List.length_nil,List.length_replicate,List.length_set,List.length_range,Nat.zero_add]);omega,by repeat (first|exact ZB|assumption|refine Y6 ?_ ?_|refine Y8 ?_|refine ZD ?_|exact ZA (fun _=>rfl)|exact ZC rfl|refine Y7 rfl ?_)⟩ ?_;simp only [go_sem,X.h,and_false,Int.toNat_zero,Nat.sub_zero]<;>rfl)|(refine ZQ ⟨by (try simp only [List.length_append,List.length_drop,List.length_take,List.length_map,List.length_cons,List.length_nil,List.length_replicate,List.length_set,List.length_range,Nat.zero_add]);omega,by repeat (first|exact ZB|assumption|refine Y6 ?_ ?_|refine Y8 ?_|refine ZD ?_|exact ZA (fun _=>rfl)|exact ZC rfl|refine Y7 rfl ?_)⟩ ?_;simp only [go_sem,X.h,and_false,Int.toNat_zero,Nat.sub_zero]<;>rfl)|rfl) ?_
  refine JG.o1 JCC ?_
  refine JG.nil (QK.fin Qb Qb ?_)
  refine JB.reg ?_
  have q1:a+(List.take (l.length-(a+1)) (List.drop (a+1) (List.map Qr l))).length=l.length-1:=by simp;omega
  obtain ⟨Y9,q2⟩:∃Y9,List.take a (List.map Qr l)++List.take (l.length-(a+1)) (List.drop (a+1) (List.map Qr l))++List.drop (l.length-1) (List.map Qr l)=Y9:=⟨_,rfl⟩
  have hXl:Y9.length=l.length:=by rw [←q2];simp;omega
  have hXt:Y9.take (l.length-1)=(l.take a++l.drop (a+1)).map Qr:=by
   have hb:(List.take a (List.map Qr l)++List.take (l.length-(a+1)) (List.drop (a+1) (List.map Qr l))).length=l.length-1:=by simp;omega
   have h9:List.take (l.length-(a+1)) (List.drop (a+1) (List.map Qr l))=List.drop (a+1) (List.map Qr l):=List.take_of_length_le (by simp)
   rw [←q2,←hb,List.take_left,h9];simp
  have hXd:Y9.drop l.length=[]:=List.drop_eq_nil_of_le (by omega)
  rw [q1,q2]
  have t7:l.length-1+1=l.length:=by omega
  have X:=(((X.a hXl).a hXt).a hXd).a t7
  iterate 4 (refine JA.o1 V94 ?_)
  iterate 2 (refine JA.o1 (by simp only [go_sem,X.h,and_false,Int.toNat_zero,Nat.sub_zero,List.tail_cons];(try simp (disch:=omega) only [if_pos]);(try simp only [go_sem,X.h,and_false,Int.toNat_zero,Nat.sub_zero,List.tail_cons])<;> rfl) ?_)
  refine JA.nil (JB.reg ?_)
  iterate 2 (refine JA.o1 V94 ?_)
  refine JA.nil ?_
  exact Ends.fin [900] (rs:=[.tmp 6]) rfl V94 (by simp only [go_sem,X.h,and_false,Int.toNat_zero,Nat.sub_zero,List.tail_cons]<;>first|rfl|exact QB)
theorem JQW (l:List Reading)(hl:l.length≤1000)(a:Nat)(ha:a<l.length):Qg Tryz.prog 240 [.val true [.d (.i a)],.leaf (.own 900 0 l.length l.length)] [(900,.arr 34 3 ((l).map Qr))] (.ret (.leaf (.own 900 0 (l.length-1) l.length)) [(900,.arr 34 3 ((l.take a++l.drop (a+1)).map Qr++[[.i 0,.i 0,.i 0]]))]):=by
 refine Jq Jj Tryz.func240 rfl (by simp only [List.length_cons,List.length_nil,Tryz.ntmps240];omega) JL rfl ?_
 refine JB.reg ?_
 iterate 2 (refine JA.o ?_)
 refine JA.nil (JB.reg ?_)
 iterate 5 (refine JA.o ?_)
 refine JA.o1 V68 ?_
 refine JA.lendA 900 900 (JPx l hl a ha) YF Jr JF JF JF V18 JF ?_
 refine JA.o ?_
 refine JA.nil ?_
 exact Ends.fin [900] (rs:=[.tmp 4]) rfl JF Y3
end Go.Mw.Cd
namespace Go.Mw.Cd
open Go.Proofs
def repD:YL→D
 |.sw a b=>.ifc 185 true [.i a,.i b]
 |.cp a=>.ifc 187 true [.i a]
 |.lt a d=>.ifc 189 true [.i a,.i d]
theorem JLv (w:JP)(r:YL)(h1:w.rates.length≤1000)(h2:w.readings.length≤1000)(hw:QM w=true)(hr:JKE w r):Jf Tryz.prog 112 [JAU w,.leaf (.d (repD r))] (JAU (YK w r)) []:=by
 have hcp:List.take w.readings.length (List.map Qr w.readings)++List.drop (List.take w.readings.length (List.map Qr w.readings)).length (List.replicate w.readings.length [D.raw (Value.int IntKind.i64 0),D.raw (Value.int IntKind.i64 0),D.raw (Value.int IntKind.i64 0)])=List.map Qr w.readings:=by
  rw [List.take_of_length_le (by simp),List.drop_eq_nil_of_le (by simp),List.append_nil]
 have hcq:∀a,a<w.readings.length→List.take (w.readings.length-1) ((List.take a w.readings++List.drop (a+1) w.readings).map Qr++[[D.i 0,D.i 0,D.i 0]])=(List.take a w.readings++List.drop (a+1) w.readings).map Qr:=fun a ha=>by
  have hq:(List.map Qr (List.take a w.readings++List.drop (a+1) w.readings)).length=w.readings.length-1:=by simp;omega
  rw [←hq];exact List.take_left
 have hL9:∀a,a<w.readings.length→(List.take a w.readings).length+(List.drop (a+1) w.readings).length+1=w.readings.length:=fun a ha=>by simp;omega
 rcases r with ⟨a,b⟩|⟨a⟩|⟨a,d⟩
 ·skip
  obtain ⟨hr1,hr2⟩:=hr
  have h9:=hcp
  have hal:=ZU (w:=w) (i:=a) (by omega)
  have hbl:=ZU hr2
  refine Jq Jj Tryz.func112 rfl JHy JL rfl ?_
  refine JB.reg ?_
  iterate 2 (refine JA.o1 Yk ?_)
  refine JA.nil (JB.reg ?_)
  iterate 3 (refine JA.o1 Yk ?_)
  refine JA.o1 V81 ?_
  refine JA.o1 Yk ?_
  refine JA.nil (JB.reg ?_)
  iterate 3 (refine JA.o1 Yk ?_)
  refine JA.o1 V24 ?_
  refine JA.nil (JB.reg ?_)
  rw [hcp]
  iterate 2 (refine JA.o1 Yk ?_)
  refine JA.invA 900 9 (JQY w.readings h2 a b _ _ hal hbl (by omega)) (by simp;(try omega)) (by simp only [go_sem,repD]<;>rfl) JF JL JF JF (by exact ⟨JV.pure rfl,JV.of rfl rfl,trivial⟩) JF ?_
  iterate 2 (refine JA.o1 Yk ?_)
  refine JA.nil (JB.reg ?_)
  have X:=Fx.mk h9
  refine JA.frz 9 JC ?_
  iterate 2 (refine JA.o1 Yk ?_)
  refine JA.nil ?_
  exact Ends.fin [] (rs:=[.cell 4 25]) rfl Yk V13
 ·skip
  have hr1:a<w.readings.length:=hr
  have h9:=hL9 a hr1
  refine Jq Jj Tryz.func112 rfl JHy JL rfl ?_
  refine JB.reg ?_
  iterate 2 (refine JA.o1 Yk ?_)
  refine JA.nil (JB.reg ?_)
  iterate 3 (refine JA.o1 Yk ?_)
  refine JA.o1 V81 ?_
  refine JA.o1 Yk ?_
  refine JA.nil (JB.reg ?_)
  iterate 3 (refine JA.o1 Yk ?_)
  refine JA.o1 V24 ?_
  refine JA.nil (JB.reg ?_)
  rw [hcp]
  iterate 2 (refine JA.o1 Yk ?_)
  refine JA.invA 900 9 (JQW w.readings h2 a hr1) (by simp;(try omega)) (by simp only [go_sem,repD]<;>rfl) JF JL JF JF (by exact ⟨JV.pure rfl,JV.of rfl rfl,trivial⟩) JF ?_
  iterate 2 (refine JA.o1 Yk ?_)
  refine JA.nil (JB.reg ?_)
  have X:=Fx.mk h9
  refine JA.frz 9 JC ?_
  iterate 2 (refine JA.o1 Yk ?_)
  refine JA.nil ?_
  exact Ends.fin [] (rs:=[.cell 4 25]) rfl Yk (by simp only [go_sem,YK]<;>first|rfl|((repeat' (first|with_reducible_and_instances rfl|refine Q6 ?_ ?_ ?_|refine Q4 ?_|refine Q8 ?_|refine Q7 ?_ ?_|refine Qw ?_|refine Qy ?_|refine Q9 ?_|refine Q1 ?_ ?_|refine Q3 ?_ ?_|refine Q5 ?_|refine Qx ?_|(refine Qz ?_;omega)));(first|rfl|exact (hcq a hr1).symm)))
 ·skip
  obtain ⟨hr1,hr2⟩:=hr
  have h9:=hcp
  have hal:=ZU hr1
  have hra:=JAo hw hr1
  refine Jq Jj Tryz.func112 rfl JHy JL rfl ?_
  refine JB.reg ?_
  iterate 2 (refine JA.o1 Yk ?_)
  refine JA.nil (JB.reg ?_)
  iterate 3 (refine JA.o1 Yk ?_)
  refine JA.o1 V81 ?_
  refine JA.o1 Yk ?_
  refine JA.nil (JB.reg ?_)
  iterate 3 (refine JA.o1 Yk ?_)
  refine JA.o1 V24 ?_
  refine JA.nil (JB.reg ?_)
  rw [hcp]
  iterate 2 (refine JA.o1 Yk ?_)
  refine JA.invA 900 9 (JQX w.readings h2 a d _ hal ⟨hra.2.2.1,hra.2.2.2.1⟩ hr2) (by simp;(try omega)) (by simp only [go_sem,repD]<;>rfl) JF JL JF JF (by exact ⟨JV.pure rfl,JV.of rfl rfl,trivial⟩) JF ?_
  iterate 2 (refine JA.o1 Yk ?_)
  refine JA.nil (JB.reg ?_)
  have X:=Fx.mk h9
  refine JA.frz 9 JC ?_
  iterate 2 (refine JA.o1 Yk ?_)
  refine JA.nil ?_
  exact Ends.fin [] (rs:=[.cell 4 25]) rfl Yk V13
end Go.Mw.Cd

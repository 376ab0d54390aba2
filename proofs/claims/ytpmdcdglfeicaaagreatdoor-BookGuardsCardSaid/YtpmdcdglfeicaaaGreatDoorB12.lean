/- Contracts of the functions that the book reaches: pages, by the document. -/
import Derived.Test.YtpmdcdglfeicaaaGreatDoorD1
import Derived.Test.YtpmdcdglfeicaaaGreatDoorB4
import Derived.Test.YtpmdcdglfeicaaaGreatDoorB11
import Derived.Test.YtpmdcdglfeicaaaGreatDoorB9
import Derived.Test.YtpmdcdglfeicaaaGreatDoorB10
set_option linter.unusedSimpArgs false
set_option linter.unusedVariables false
set_option linter.unusedSectionVars false
set_option linter.deprecated false
namespace Go.Mw
open Go.Proofs
open Go.Bk
attribute [local go_sem] decide_true beq_self_eq_true bne_self_eq_false
end Go.Mw
namespace Go.Mw
open Go.Proofs
open Go.Bk
attribute [local go_sem] decide_true beq_self_eq_true bne_self_eq_false
end Go.Mw
namespace Go.Mw
open Go.Proofs
open Go.Bk
attribute [local go_sem] decide_true beq_self_eq_true bne_self_eq_false
theorem JWV (l:List Sh):(Qq l).length≤3000:=by
 unfold Qq
 split
 ·next h=>
  obtain ⟨h1,h2,_⟩:=JCR h
  have:=JKI l h2;omega
 ·simp
theorem JWU (l:List Pg):(ZL l).length≤1000000:=by
 unfold ZL
 split
 ·next h=>
  obtain ⟨h1,h2,_⟩:=JCR h
  have:=JJr l h2;omega
 ·simp
end Go.Mw
namespace Go.Bk
theorem JNs (p:List Pl):JAm p≠[]:=fun e=>by
 have:=congrArg List.length (JDk p)
 rw [e,List.length_append,Qk] at this
 simp [QY] at this
 omega
theorem JO7 {p q:List Pl}{t:Bits}(hp:Yo p=0)(hq:Yo q=0)(h:QY (JAm p)=QY (JAm q)++t):t.length<8:=by
 obtain ⟨cp,lp⟩:=JCO hp
 obtain ⟨cq,lq⟩:=JCO hq
 rw [JDk,JDk] at h
 simp only [List.append_assoc] at h
 obtain ⟨e1,e2⟩:=List.append_inj h (by rw [Qk,Qk])
 have hn:p.length=q.length:=by
  have:=congrArg QG e1
  rwa [JAb 8 _ (by omega),JAb 8 _ (by omega)] at this
 have a:=JHm p 0 (List.replicate ((8-(QX p).length%8)%8) false) cp
 have b:=JHm q 0 (List.replicate ((8-(QX q).length%8)%8) false++t) cq
 rw [e2,hn,b] at a
 simp only [Option.some.injEq,Prod.mk.injEq] at a
 have:=congrArg List.length a.2
 rw [List.length_append,List.length_replicate,List.length_replicate] at this
 omega
theorem JFu {α:Type}{o:Option α}(h:∀x,o≠some x):o=none:=by
 cases o with
 |none=>rfl
 |some x=>exact absurd rfl (h x)
theorem JT4 {p:List Pl}(hp:Yo p=0):Zg (JAm p).dropLast=none:=JFu fun q h=>by
 obtain ⟨hq,e⟩:=JNf.1 h
 have:=JO7 hp hq (t:=QY [(JAm p).getLast (JNs p)]) (by rw [e,←JPE,List.dropLast_concat_getLast])
 rw [JCh] at this
 simp at this
theorem JT7 {p:List Pl}(hp:Yo p=0)(c:UInt8):Zg (JAm p++[c])=none:=JFu fun q h=>by
 obtain ⟨hq,e⟩:=JNf.1 h
 have:=JO7 hq hp (t:=QY [c]) (by rw [e,JPE])
 rw [JCh] at this
 simp at this
def JAI:Nat→Bits→Bits
 |_,[]=>[]
 |0,b::s=>(!b)::s
 |k+1,b::s=>b::JAI k s
theorem JFh:∀(a s:Bits) (k:Nat),JAI (a.length+k) (a++s)=a++JAI k s
 |[],s,k=>by simp
 |b::a,s,k=>by
  rw [List.length_cons,show a.length+1+k=(a.length+k)+1 by omega,List.cons_append,JAI,JFh a s k];rfl
theorem JIw:∀(a s:Bits) (k:Nat),k<a.length→JAI k (a++s)=JAI k a++s
 |[],_,_,h=>by simp at h
 |b::a,s,0,_=>rfl
 |b::a,s,k+1,h=>by
  rw [List.cons_append,JAI,JIw a s k JAM];rfl
theorem JMf:∀(s:Bits) (k:Nat),(JAI k s).length=s.length
 |[],_=>by cases ‹Nat›<;>rfl
 |_::_,0=>rfl
 |b::s,k+1=>by rw [JAI,List.length_cons,JMf s k,List.length_cons]
theorem Z1 (b:Bool)(s:Bits):JS (b::s)=b.toNat+JS s:=by rw [show b::s=[b]++s from rfl,Y3,JBw]
theorem JNP:∀(s:Bits) (k:Nat),k<s.length→(JS (JAI k s)+JS s)%2=1
 |[],_,h=>by simp at h
 |b::s,0,_=>by
  rw [JAI,Z1,Z1]
  cases b<;>simp<;>omega
 |b::s,k+1,h=>by
  have:=JNP s k JAM
  rw [JAI,Z1,Z1];omega
theorem JT2 {x:Pl}{last:Int}(h:fits x last)(r cd:Bits)(hl:cd.length=21)(ho:(JS cd+JS (JW 3 x.cls.toNat++JW 18 x.day.toNat))%2=1) :
  JAW last (Qb (x.num-last).toNat++(cd++(YS (QJ x last)::r)))=none:=by
 obtain ⟨h1,h2,h3⟩:=h
 have hn:1≤(x.num-last).toNat:=by omega
 have bk:=JAi (n:=(x.num-last).toNat) (k:=16) (by omega) (by omega)
 have ho2:=JJh (QJ x last)
 rw [show JS (QJ x last++[YS (QJ x last)])=JS (Qb (x.num-last).toNat)+JS (JW 3 x.cls.toNat++JW 18 x.day.toNat)+JS [YS (QJ x last)] by rw [Y3];unfold QJ;rw [Y3]] at ho2
 generalize YS (QJ x last)=e at ho2 ⊢
 generalize JS (JW 3 x.cls.toNat++JW 18 x.day.toNat)=o at ho ho2
 have hs:∀q,Qb (x.num-last).toNat++q=List.replicate (bl (x.num-last).toNat-1) false++true::(JW (bl (x.num-last).toNat-1) (x.num-last).toNat++q):=fun q=>by rw [JFj hn];simp
 unfold JAW
 rw [hs,JI8 _ _ _ (by omega)]
 simp only [Option.bind_some]
 rw [JB3 (Qk _ _)]
 simp only [Option.bind_some]
 have hcd:cd++(e::r)=cd.take 3++(cd.drop 3++([e]++r)):=by rw [←List.append_assoc,List.take_append_drop];rfl
 rw [←hs,hcd,JB3 JBH]
 simp only [Option.bind_some]
 rw [JB3 (by rw [List.length_drop];omega)]
 simp only [Option.bind_some]
 rw [JB3 (k:=1) (a:=[e]) rfl]
 simp only [Option.bind_some]
 rw [←hcd,show (Qb (x.num-last).toNat++(cd++e::r)).take ((Qb (x.num-last).toNat++(cd++e::r)).length-r.length)=Qb (x.num-last).toNat++(cd++[e]) by
  rw [show Qb (x.num-last).toNat++(cd++e::r)=(Qb (x.num-last).toNat++(cd++[e]))++r by simp,List.length_append,Nat.add_sub_cancel,List.take_left]]
 rw [Y3,Y3,if_neg (by omega)]
theorem JNp:∀(l:List Pl) (last:Int) (j:Nat) (x:Pl) (r:Bits),chain last l→l[j]? = some x→JAW (J1 last (l.take j)) r=none→JAX l.length last (J8 last (l.take j)++r)=none
 |[],_,_,_,_,_,h,_=>by simp at h
 |y::l,last,0,x,r,_,_,h=>by
  rw [List.take_zero,J1] at h
  rw [List.length_cons,JAX,List.take_zero,J8,List.nil_append,h];rfl
 |y::l,last,j+1,x,r,hc,hx,h=>by
  rw [List.take_succ_cons,J1] at h
  rw [List.length_cons,JAX,List.take_succ_cons,J8,List.append_assoc,JNn hc.1]
  simp only [Option.bind_some]
  rw [JNp l y.num j x r hc.2 (by simpa using hx) h];rfl
theorem JHV:∀(l:List Pl) (last:Int) (j:Nat) (x:Pl),chain last l→l[j]? = some x→fits x (J1 last (l.take j))∧J8 last l=J8 last (l.take j)++(Qc x (J1 last (l.take j))++J8 x.num (l.drop (j+1)))
 |[],_,_,_,_,h=>by simp at h
 |y::l,last,0,x,hc,h=>by
  simp at h;subst h
  exact ⟨hc.1,rfl⟩
 |y::l,last,j+1,x,hc,h=>by
  obtain ⟨a,b⟩:=JHV l y.num j x hc.2 JAM
  exact ⟨a,by rw [List.take_succ_cons,J8,J8,b,J1,List.append_assoc];rfl⟩
def JBy (p:List Pl)(j:Nat)(x:Pl):Nat:=8+(J8 0 (p.take j)).length+(Qb (x.num-J1 0 (p.take j)).toNat).length
theorem JT5 {p:List Pl}(hp:Yo p=0){j i:Nat}{x:Pl}(hx:p[j]? = some x)(hi:i<21){b:Bs}(hb:QY b=JAI (JBy p j x+i) (QY (JAm p))):Zg b=none:=by
 obtain ⟨cp,lp⟩:=JCO hp
 obtain ⟨hf,hg⟩:=JHV p 0 j x cp hx
 rw [JDk,hg] at hb
 unfold Qc at hb
 have hcl:(JW 3 x.cls.toNat++JW 18 x.day.toNat).length=21:=by rw [List.length_append,Qk,Qk]
 rw [show JW 8 p.length++(J8 0 (p.take j)++(QJ x (J1 0 (p.take j))++[YS (QJ x (J1 0 (p.take j)))]++J8 x.num (p.drop (j+1)))++List.replicate ((8-(QX p).length%8)%8) false) =
  JW 8 p.length++(J8 0 (p.take j)++(Qb (x.num-J1 0 (p.take j)).toNat++((JW 3 x.cls.toNat++JW 18 x.day.toNat)++(YS (QJ x (J1 0 (p.take j)))::(J8 x.num (p.drop (j+1))++List.replicate ((8-(QX p).length%8)%8) false))))) by
   generalize YS (QJ x (J1 0 (p.take j)))=e
   unfold QJ;simp] at hb
 unfold JBy at hb
 rw [show 8+(J8 0 (p.take j)).length+(Qb (x.num-J1 0 (p.take j)).toNat).length+i=(JW 8 p.length).length+((J8 0 (p.take j)).length+((Qb (x.num-J1 0 (p.take j)).toNat).length+i)) by rw [Qk];omega,
  JFh,JFh,JFh,JIw _ _ _ (by omega)] at hb
 have hbad:=JNp p 0 j x _ cp hx (JT2 hf (J8 x.num (p.drop (j+1))++List.replicate ((8-(QX p).length%8)%8) false) (JAI i (JW 3 x.cls.toNat++JW 18 x.day.toNat)) (by rw [JMf,hcl]) (JNP _ _ (by omega)))
 unfold Zg
 rw [hb,JB3 (Qk _ _)]
 simp only [Option.bind_some]
 rw [JAb 8 _ (by omega),hbad];rfl
theorem JR8:∀c:Fin 256,∀k:Fin 8,JW 8 (c.val ^^^ (128 >>> k.val))=JAI k.val (JW 8 c.val):=by decide +kernel
theorem JH5 (c:UInt8)(b:Bs):QY (c::b)=JW 8 c.toNat++QY b:=rfl
theorem JPF:∀(b:Bs) (k:Nat) (c:UInt8),b[k / 8]? = some c→QY (b.set (k / 8) (c ^^^ UInt8.ofNat (128 >>> (k%8))))=JAI k (QY b)
 |[],_,_,h=>by simp at h
 |y::b,k,c,h=>by
  by_cases hk:k<8
  ·rw [show k / 8=0 by omega,show k%8=k by omega] at *
   simp at h;subst h
   rw [List.set_cons_zero,JH5,JH5,JIw _ _ _ (by rw [Qk];exact hk)]
   congr 1
   have:=JR8 ⟨y.toNat,y.toNat_lt⟩ ⟨k,hk⟩
   simp only at this
   rw [←this]
   congr 1
   rw [UInt8.toNat_xor]
   congr 1
   have hle:128 >>> k≤128:=by rw [Nat.shiftRight_eq_div_pow];exact Nat.div_le_self _ _
   exact JC2 (by omega)
  ·obtain ⟨m,rfl⟩:∃m,k=8+m:=⟨k-8,by omega⟩
   rw [show (8+m) / 8=m / 8+1 by omega,show (8+m)%8=m%8 by omega] at *
   rw [List.set_cons_succ,JH5,JH5,JPF b m c JAM]
   have:=JFh (JW 8 y.toNat) (QY b) m
   rw [Qk] at this
   exact this.symm
theorem JL9 {c d:UInt8}(hd:d≠c):∀(a:Bs) (k:Nat) (x:UInt8),a[k]? = some x→x≠c→∃i j L,(QC c a)[i]? = some L∧L[j]? = some x∧QC c (a.set k d)=(QC c a).set i (L.set j d)
 |[],_,_,h,_=>by simp at h
 |y::a,0,x,h,hx=>by
  simp at h;subst h
  obtain ⟨A,r,e⟩:=List.exists_cons_of_ne_nil (JCs c a)
  refine ⟨0,0,y::A,?_,rfl,?_⟩
  ·rw [QC,if_neg hx,e];rfl
  ·rw [List.set_cons_zero,QC,if_neg hd,QC,if_neg hx,e];rfl
 |y::a,k+1,x,h,hx=>by
  obtain ⟨i,j,L,h1,h2,h3⟩:=JL9 hd a k x JAM hx
  by_cases hy:y=c
  ·refine ⟨i+1,j,L,?_,h2,?_⟩
   ·rw [QC,if_pos hy];simpa using h1
   ·rw [List.set_cons_succ,QC,if_pos hy,QC,if_pos hy,h3];rfl
  ·obtain ⟨A,r,e⟩:=List.exists_cons_of_ne_nil (JCs c a)
   rw [e] at h1 h3
   cases i with
   |zero=>
    simp at h1;subst h1
    refine ⟨0,j+1,y::A,?_,by simpa using h2,?_⟩
    ·rw [QC,if_neg hy,e];rfl
    ·rw [List.set_cons_succ,QC,if_neg hy,h3,QC,if_neg hy,e];rfl
   |succ i=>
    refine ⟨i+1,j,L,?_,h2,?_⟩
    ·rw [QC,if_neg hy,e];simpa using h1
    ·rw [List.set_cons_succ,QC,if_neg hy,h3,QC,if_neg hy,e];rfl
theorem JMM:∀(a:Bs) (k:Nat) (x d:UInt8),a[k]? = some x→YX (a.set k d)+dig x=YX a+dig d
 |[],_,_,_,h=>by simp at h
 |y::a,0,x,d,h=>by
  simp at h;subst h
  rw [List.set_cons_zero,YX,YX];omega
 |y::a,k+1,x,d,h=>by
  have:=JMM a k x d JAM
  rw [List.set_cons_succ,YX,YX];omega
theorem JSO {y z:Bs}{j:Nat}{x d:UInt8}(h:full z=(full y).set j d)(hx:(full y)[j]? = some x)(hdx:Qw x=true)(hdd:Qw d=true)(hne:d≠x):False:=by
 have hl:=congrArg List.length h
 rw [List.length_set,JCV,JCV] at hl
 unfold full at h hx
 rw [List.set_append] at h
 split at h
 ·next hj=>
  rw [List.getElem?_append_left hj] at hx
  obtain ⟨e1,e2⟩:=List.append_inj h (by rw [List.length_set];omega)
  simp only [List.cons.injEq,true_and] at e2
  unfold chk at e2
  have e3:=JWE e2
  have hs:=JMM y j x d hx
  rw [e1] at e3
  have n1:=JA8.1 hdx
  have n2:=JA8.1 hdd
  have d1:dig x=x.toNat-48:=if_pos hdx
  have d2:dig d=d.toNat-48:=if_pos hdd
  exact hne (UInt8.toNat_inj.1 (by omega))
 ·next hj=>
  rw [List.getElem?_append_right (by omega)] at hx
  obtain ⟨m,hm⟩:∃m,j=y.length+m:=⟨j-y.length,by omega⟩
  rw [hm,Nat.add_sub_cancel_left] at h hx
  obtain ⟨e1,e2⟩:=List.append_inj h (by omega)
  subst e1
  rw [JL3] at e2 hx
  match m,e2,hx with
  |0,_,hx=>simp at hx;subst hx;exact absurd hdx (by decide)
  |1,e2,hx=>
   simp at e2 hx
   exact hne (e2.symm.trans hx)
  |n+2,_,hx=>simp at hx
theorem JU8 {l:List Sh}{k:Nat}{x d:UInt8}(hx:(Qp l)[k]? = some x)(hdx:Qw x=true)(hdd:Qw d=true)(hne:d≠x):JAl ((Qp l).set k d)=none:=JFu fun q h=>by
 obtain ⟨_,e⟩:=JNg.1 h
 have h10:∀c,Qw c=true→c≠(10:UInt8):=fun c hc e=>by subst e;exact absurd hc (by decide)
 obtain ⟨i,j,L,h1,h2,h3⟩:=JL9 (h10 d hdd) (Qp l) k x hx (h10 x hdx)
 rw [←e,JIj,JIj] at h3
 rw [JIj] at h1
 have hin:∀(s:List Sh) (A:Bs),A∈Yl s++[[]]→A≠[]→∃y,A=full y:=fun s A hA h0=>by
  rcases List.mem_append.1 hA with hA|hA
  ·obtain ⟨y,hy,_⟩:=JJO hA
   exact ⟨y,hy⟩
  ·exact absurd (List.mem_singleton.1 hA) h0
 have hj:j<L.length:=(List.getElem?_eq_some_iff.1 h2).1
 obtain ⟨y,rfl⟩:=hin l L (List.mem_of_getElem? h1) (fun e=>by rw [e] at hj;simp at hj)
 obtain ⟨z,hz⟩:=hin q ((full y).set j d) (by rw [h3];exact List.mem_of_getElem? (i:=i) (by rw [List.getElem?_set_self (List.getElem?_eq_some_iff.1 h1).1])) (fun e=>by
  have:=congrArg List.length e
  rw [List.length_set] at this
  simp at this
  rw [this] at hj;simp at hj)
 exact JSO hz.symm h2 hdx hdd hne
def Y9 (b:Bs):Nat→List Nat
 |0=>[]
 |k+1=>match b[k]? with
  |some c=>if Qw c=true then Y9 b k++[k] else Y9 b k
  |none=>Y9 b k
theorem JMJ {b:Bs}{k:Nat}{c:UInt8}(h:b[k]? = some c)(hc:Qw c=true):Y9 b (k+1)=Y9 b k++[k]:=by rw [Y9,h];exact if_pos hc
theorem JRi {b:Bs}{k:Nat}{c:UInt8}(h:b[k]? = some c)(hc:Qw c=false):Y9 b (k+1)=Y9 b k:=by rw [Y9,h];exact if_neg (by rw [hc];simp)
theorem JIm (b:Bs):∀k,(Y9 b k).length≤k
 |0=>Nat.le_refl _
 |k+1=>by
  have ih:=JIm b k
  rw [Y9]
  split
  ·split
   ·rw [List.length_append,List.length_singleton];omega
   ·omega
  ·omega
theorem JHD (b:Bs):∀k,∀n∈Y9 b k,∃c,b[n]? = some c∧Qw c=true
 |0,n,h=>by simp [Y9] at h
 |k+1,n,h=>by
  rw [Y9] at h
  split at h
  ·next c hc=>
   split at h
   ·next hd=>
    rcases List.mem_append.1 h with h|h
    ·exact JHD b k n h
    ·rw [List.mem_singleton.1 h];exact ⟨c,hc,hd⟩
   ·exact JHD b k n h
  ·exact JHD b k n h
theorem JMK {b:Bs}{n:Nat}{c:UInt8}(h:b[n]? = some c)(hc:Qw c=true):∀k,n<k→Y9 b k≠[]
 |0,h0=>by omega
 |k+1,h0=>by
  by_cases hk:n=k
  ·subst hk;rw [JMJ h hc];simp
  ·have ih:=JMK h hc k (by omega)
   rw [Y9]
   split
   ·split
    ·simp
    ·exact ih
   ·exact ih
theorem JU7 {s:List Sh}(h:s≠[]):Y9 (Qp s) (Qp s).length≠[]:=by
 cases s with
 |nil=>exact absurd rfl h
 |cons x l=>
  have hm:UInt8.ofNat (48+YX (Yy x.meter)%10)∈Qp (x::l):=by simp [Qp,Yl,JBA,Zd,full,JL3]
  obtain ⟨n,hn⟩:=List.getElem?_of_mem hm
  exact JMK hn (JHX (Nat.mod_lt _ (by omega))) _ (List.getElem?_eq_some_iff.1 hn).1
def JCZ (x:UInt8)(r:Nat):UInt8:=UInt8.ofNat (48+(x.toNat-48+1+r%9)%10)
theorem JS4 {x:UInt8}{r:Nat}(h:Qw x=true):Qw (JCZ x r)=true∧JCZ x r≠x∧(JCZ x r).toNat=48+(x.toNat-48+1+r%9)%10:=by
 have hx:=JA8.1 h
 have ht:(JCZ x r).toNat=48+(x.toNat-48+1+r%9)%10:=JFF (Nat.mod_lt _ (by omega))
 refine ⟨JHX (Nat.mod_lt _ (by omega)),fun e=>?_,ht⟩
 rw [e] at ht;omega
theorem JIn:∀(ls:List Bs),(∀x∈ls,(10:UInt8) ∉ x∧x≠[])→ls≠[]→∃s c,ends 10 ls=s++[c,10]∧c≠10
 |[],_,h=>absurd rfl h
 |[x],h,_=>by
  obtain ⟨h1,h2⟩:=h x (by simp)
  refine ⟨x.dropLast,x.getLast h2,?_,fun e=>h1 (e▸List.getLast_mem h2)⟩
  rw [Zd,JHF]
  conv=>lhs;rw [←List.dropLast_concat_getLast h2]
  simp
 |x::y::ls,h,_=>by
  obtain ⟨s,c,e,hc⟩:=JIn (y::ls) (fun z hz=>h z (by simp [hz])) (by simp)
  exact ⟨x++10::s,c,by rw [Zd,e];simp,hc⟩
theorem JMQ {a b:List Bs}(ha:∀x∈a,(10:UInt8) ∉ x∧x≠[])(hb:∀x∈b,(10:UInt8) ∉ x∧x≠[])(h:ends 10 b=(ends 10 a).dropLast):a=[]:=by
 cases a with
 |nil=>rfl
 |cons x a=>
  obtain ⟨s,c,e,hc⟩:=JIn (x::a) ha (by simp)
  rw [e,show s++[c,10]=(s++[c])++[10] by simp,List.dropLast_concat] at h
  cases b with
  |nil=>simp [JHF] at h
  |cons y b=>
   obtain ⟨s',c',e',hc'⟩:=JIn (y::b) hb (by simp)
   rw [e',show s'++[c',10]=(s'++[c'])++[10] by simp] at h
   have:=(List.append_inj' h rfl).2
   simp at this
   exact absurd this.symm hc
theorem JSQ (y:Bs):full y≠[]:=fun e=>by have:=congrArg List.length e;rw [JCV] at this;simp at this
theorem JOZ (l:List Sh):∀x∈Yl l,(10:UInt8) ∉ x∧x≠[]:=fun x h=>⟨JI0 x h,by obtain ⟨y,rfl,_⟩:=JJO h;exact JSQ y⟩
theorem JOa {l:List Sh}(h:Qp l=[]):l=[]:=by
 cases l with
 |nil=>rfl
 |cons x l=>simp [Qp,Yl,JBA,Zd] at h
theorem JVA {l:List Sh}(h:l≠[]):JAl (Qp l).dropLast=none:=JFu fun q hq=>by
 obtain ⟨_,e⟩:=JNg.1 hq
 have:=JMQ (JOZ l) (JOZ q) e
 exact h (JOa (by unfold Qp;rw [this];rfl))
theorem JNd (l:List Pg):∀x∈l.map Zf,(10:UInt8) ∉ x∧x≠[]:=fun x h=>⟨JNc x h,by
 obtain ⟨y,_,rfl⟩:=List.mem_map.1 h
 intro e
 have h1:=JMB y
 rw [e] at h1
 unfold Yh at h1
 simp [QC] at h1
 exact JGK _ h1.1⟩
theorem JNe {l:List Pg}(h:YZ l=[]):l=[]:=by
 cases l with
 |nil=>rfl
 |cons x l=>simp [YZ,Zd] at h
theorem JTs {l:List Pg}(h:l≠[]):JAv (YZ l).dropLast=none:=JFu fun q hq=>by
 obtain ⟨_,e⟩:=JTt.1 hq
 have:=JMQ (JNd l) (JNd q) e
 exact h (JNe (by unfold YZ;rw [this];rfl))
end Go.Bk

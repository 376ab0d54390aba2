/- The card's data as Lean's own, and what the document's functions compute; plain definitions and small laws of lists, no program in sight. -/
import Derived.Test.YtpmdcdglfeicaaaGreatDoorD1
import Derived.Test.YtpmdcdglfeicaaaGreatDoorB7
import Derived.Test.YtpmdcdglfeicaaaGreatDoorB4
import Derived.Test.YtpmdcdglfeicaaaGreatDoorB5
import Derived.Test.YtpmdcdglfeicaaaGreatDoorB11
set_option maxRecDepth 20000
set_option maxHeartbeats 4000000
set_option linter.unusedSimpArgs false
set_option linter.unusedVariables false
set_option linter.unusedSectionVars false
set_option linter.deprecated false
namespace Go.Mw.Cd
structure YB where
 lo:Int
 hi:Int
deriving DecidableEq,Inhabited
structure Reading where
 house:Int
 day:Int
 shows:Int
deriving DecidableEq,Inhabited
structure YM where
 kind:Int
 a:Int
 b:Int
 c:Int
deriving DecidableEq,Inhabited
structure JP where
 rates:List YB
 readings:List Reading
deriving DecidableEq,Inhabited
def Q0 (n l h:Int):Bool:=decide (l≤n)&&decide (n≤h)
def JA8 (s:YB):Bool:= !(decide (s.lo<0) || decide (s.lo>s.hi) || decide (s.hi>100000))
def Zl (n:Nat)(r:Reading):Bool:=Q0 r.house 0 (n-1)&&Q0 r.day 0 131072&&Q0 r.shows 0 1073741824
def QM (w:JP):Bool:=w.rates.all JA8&&w.readings.all (Zl w.rates.length)&&(Q0 w.rates.length 1 8&&decide ((w.readings.length:Int)≤24))
def rd (w:JP)(i:Nat):Reading:=w.readings[i]?.getD ⟨0,0,0⟩
def rt (w:JP)(i:Nat):YB:=w.rates[i]?.getD ⟨0,0⟩
theorem ZU {w:JP}{i:Nat}(h:i<w.readings.length):w.readings[i]? = some (rd w i):=by
 unfold rd;rw [List.getElem?_eq_getElem h];rfl
theorem JHY {w:JP}{i:Nat}(h:i<w.rates.length):w.rates[i]? = some (rt w i):=by
 unfold rt;rw [List.getElem?_eq_getElem h];rfl
theorem JHT {w:JP}(hw:QM w=true){i:Nat}(h:i<w.rates.length):0≤(rt w i).lo∧(rt w i).lo≤(rt w i).hi∧(rt w i).hi≤100000:=by
 simp only [QM,Bool.and_eq_true,List.all_eq_true] at hw
 have:=hw.1.1 _ (List.mem_of_getElem? (JHY h))
 simp only [JA8,Bool.not_eq_true',Bool.or_eq_false_iff,decide_eq_false_iff_not] at this
 omega
theorem JAo {w:JP}(hw:QM w=true){i:Nat}(h:i<w.readings.length) :
  0≤(rd w i).house∧(rd w i).house<w.rates.length∧0≤(rd w i).day∧(rd w i).day≤131072∧0≤(rd w i).shows∧(rd w i).shows≤1073741824:=by
 simp only [QM,Bool.and_eq_true,List.all_eq_true] at hw
 have:=hw.1.2 _ (List.mem_of_getElem? (ZU h))
 simp only [Zl,Q0,Bool.and_eq_true,decide_eq_true_eq] at this
 omega
theorem JDW {w:JP}(hw:QM w=true):1≤w.rates.length∧w.rates.length≤8∧w.readings.length≤24:=by
 simp only [QM,Q0,Bool.and_eq_true,decide_eq_true_eq] at hw
 omega
def Qt (w:JP)(i:Nat)(out:List Nat):Nat→Nat
 |0=>0
 |n+1=>if (rd w i).day<(rd w (out[n]?.getD 0)).day then Qt w i out n else n+1
def Zi (w:JP)(i:Nat)(out:List Nat):List Nat:=out.take (Qt w i out out.length)++[i]++out.drop (Qt w i out out.length)
def J5 (w:JP)(house:Int):Nat→List Nat
 |0=>[]
 |n+1=>if (rd w n).house=house then Zi w n (J5 w house n) else J5 w house n
def Jo (w:JP)(house:Int):List Nat:=J5 w house w.readings.length
theorem JDn (w:JP)(i:Nat)(out:List Nat):∀n,Qt w i out n≤n
 |0=>Nat.le_refl 0
 |n+1=>by
  unfold Qt
  split
  ·exact Nat.le_succ_of_le (JDn w i out n)
  ·exact Nat.le_refl _
theorem JSX {w:JP}{i:Nat}{out:List Nat}{x:Nat}:x∈Zi w i out↔x=i∨x∈out:=by
 unfold Zi
 conv=>rhs;rw [←List.take_append_drop (Qt w i out out.length) out]
 simp only [List.mem_append,List.mem_singleton]
 constructor
 ·rintro ((h|h)|h)
  ·exact .inr (.inl h)
  ·exact .inl h
  ·exact .inr (.inr h)
 ·rintro (h|h|h)
  ·exact .inl (.inr h)
  ·exact .inl (.inl h)
  ·exact .inr h
theorem JEE {w:JP}{house:Int}:∀ {n x:Nat},x∈J5 w house n↔x<n∧(rd w x).house=house
 |0,x=>by simp [J5]
 |n+1,x=>by
  unfold J5
  split
  ·rename_i h
   rw [JSX,JEE]
   constructor
   ·rintro (rfl|⟨h1,h2⟩)
    ·exact ⟨Nat.lt_succ_self _,h⟩
    ·exact ⟨by omega,h2⟩
   ·rintro ⟨h1,h2⟩
    by_cases e:x=n
    ·exact .inl e
    ·exact .inr ⟨by omega,h2⟩
  ·rename_i h
   rw [JEE]
   constructor
   ·rintro ⟨h1,h2⟩;exact ⟨by omega,h2⟩
   ·rintro ⟨h1,h2⟩
    refine ⟨?_,h2⟩
    by_cases e:x=n
    ·subst e;exact absurd h2 h
    ·omega
theorem JND (w:JP)(i:Nat)(out:List Nat):(Zi w i out).length=out.length+1:=by
 have:=JDn w i out out.length
 unfold Zi;simp;omega
theorem JHI (w:JP)(house:Int):∀n,(J5 w house n).length≤n
 |0=>Nat.le_refl 0
 |n+1=>by
  have:=JHI w house n
  unfold J5
  split
  ·rw [JND];omega
  ·omega
theorem JAN {w:JP}{house:Int}{x:Nat}:x∈Jo w house↔x<w.readings.length∧(rd w x).house=house:=JEE
theorem JD8 (w:JP)(house:Int):(Jo w house).length≤w.readings.length:=JHI w house _
def JBA (s:YB)(a b:Reading):Bool:=decide (b.shows-a.shows≥s.lo*(b.day-a.day))&&decide (b.shows-a.shows≤s.hi*(b.day-a.day))
def JAF (w:JP)(s:YB):List Nat→Option Nat
 |[]=>none
 |[_]=>none
 |a::b::r=>if JBA s (rd w a) (rd w b) then JAF w s (b::r) else some b
def YP (w:JP)(house:Nat):Option Nat:=JAF w (rt w house) (Jo w house)
def ZP (w:JP):Bool:=(List.range w.rates.length).all fun i=>(YP w i).isNone
def JCi (w:JP):List Nat→Option (Nat × Nat)
 |[]=>none
 |i::r=>match YP w i with
  |some n=>some (i,n)
  |none=>JCi w r
def Zj (w:JP):Option (Nat × Nat):=JCi w (List.range w.rates.length)
def JAH (a:Nat):List Nat→Option Nat
 |[]=>none
 |[_]=>none
 |x::y::r=>if y=a then some x else JAH a (y::r)
def YR (w:JP)(a:Nat):Option Nat:=JAH a (Jo w (rd w a).house)
theorem JLd {a x:Nat}:∀ {l:List Nat},JAH a l=some x→x∈l
 |[],h=>by simp [JAH] at h
 |[_],h=>by simp [JAH] at h
 |y::z::r,h=>by
  unfold JAH at h
  split at h
  ·cases h;simp
  ·exact List.mem_cons_of_mem _ (JLd h)
theorem JLe {w:JP}{a p:Nat}(h:YR w a=some p):p<w.readings.length:=(JAN.1 (JLd h)).1
theorem JEw {α:Type}{l:List α}{k:Nat}{a:α}(h:l[k]? = some a):l.drop k=a::l.drop (k+1):=by
 obtain ⟨hk,rfl⟩:=List.getElem?_eq_some_iff.1 h
 exact (List.getElem_cons_drop hk).symm
theorem JPU {w:JP}{s:YB}{l:List Nat}{k a b:Nat}(ha:l[k]? = some a)(hb:l[k+1]? = some b):JAF w s (l.drop k)=if JBA s (rd w a) (rd w b) then JAF w s (l.drop (k+1)) else some b:=by
 rw [JEw ha,JEw hb,JAF]
theorem JPV {w:JP}{s:YB}{l:List Nat}{k:Nat}(h:l.length≤k+1):JAF w s (l.drop k)=none:=by
 have hl:(l.drop k).length≤1:=by rw [List.length_drop];omega
 match l.drop k,hl with
 |[],_=>rfl
 |[_],_=>rfl
 |_::_::_,h=>simp at h
theorem JSa {w:JP}{n i:Nat}:∀ {k m:Nat},(∀j,m≤j→j<k→YP w j=none)→m≤k→YP w k=some n→k<m+i→JCi w (List.range' m i)=some (k,n):=by
 induction i with
 |zero=>intro k m _ h1 _ h2;omega
 |succ i ih=>
  intro k m h h1 h2 h3
  rw [List.range'_succ]
  unfold JCi
  by_cases e:m=k
  ·subst e;simp [h2]
  ·rw [h m (Nat.le_refl _) (by omega)]
   exact ih (fun j a b=>h j (by omega) b) (by omega) h2 (by omega)
theorem JSb {w:JP}{i:Nat}:∀ {m:Nat},(∀j,m≤j→j<m+i→YP w j=none)→JCi w (List.range' m i)=none:=by
 induction i with
 |zero=>intro m _;rfl
 |succ i ih=>
  intro m h
  rw [List.range'_succ]
  unfold JCi
  rw [h m (Nat.le_refl _) (by omega)]
  exact ih fun j a b=>h j (by omega) (by omega)
theorem JSd {w:JP}{k n:Nat}(h:∀j,j<k→YP w j=none)(hk:k<w.rates.length)(hb:YP w k=some n):Zj w=some (k,n):=by
 unfold Zj
 rw [List.range_eq_range']
 exact JSa (fun j _ hj=>h j hj) (Nat.zero_le _) hb (by omega)
theorem JNV {w:JP}(h:∀j,j<w.rates.length→YP w j=none):Zj w=none:=by
 unfold Zj
 rw [List.range_eq_range']
 exact JSb fun j _ hj=>h j (by omega)
theorem JRQ {w:JP}(h:∀j,j<w.rates.length→YP w j=none):ZP w=true:=by
 unfold ZP
 rw [List.all_eq_true]
 exact fun i hi=>by rw [h i (by simpa using hi)];rfl
def ZH (w:JP):Int × Int × Int:=if QM w=true then (match Zj w with
 |some (i,n)=>((i:Int),(n:Int),0)
 |none=>(0,0,4)) else (0,0,1)
def JHL (w : JP) (x : YM) : Option JP :=
  if Q0 x.a 0 ((w.readings.length:Int)-1)=false then none else
  if x.kind = 0 then
    (if Q0 x.b (x.a + 1) ((w.readings.length : Int) - 1) = false then none else
     if (rd w x.a.toNat).day≠(rd w x.b.toNat).day∨((rd w x.a.toNat).house-(rd w x.b.toNat).house≠1∧(rd w x.b.toNat).house-(rd w x.a.toNat).house≠1) then none else
     some ⟨w.rates,(w.readings.set x.a.toNat { rd w x.a.toNat with shows:=(rd w x.b.toNat).shows }).set x.b.toNat { rd w x.b.toNat with shows:=(rd w x.a.toNat).shows }⟩)
  else if x.kind = 1 then
    (match YR w x.a.toNat with
     |none=>none
     |some p=>if (rd w p).shows=(rd w x.a.toNat).shows then some ⟨w.rates,w.readings.take x.a.toNat++w.readings.drop (x.a.toNat+1)⟩ else none)
  else if x.kind = 2 then
    (if Q0 x.b 1 30 = true ∧ 0 ≤ (rd w x.a.toNat).day - x.b ∧ (∀ p, YR w x.a.toNat = some p → (rd w p).day < (rd w x.a.toNat).day - x.b) then
      some ⟨w.rates,w.readings.set x.a.toNat { rd w x.a.toNat with day:=(rd w x.a.toNat).day-x.b }⟩ else none)
  else none
def ZV (w:JP)(x:YM):Bool:=match JHL w x with
 |some m=>ZP m
 |none=>false
theorem JKp {w:JP}{l:List Reading}(hw:QM w=true)(hl:l.length≤24)(h:∀r∈l,Zl w.rates.length r=true):QM ⟨w.rates,l⟩=true:=by
 have h1:=hw
 simp only [QM,Bool.and_eq_true,List.all_eq_true] at h1 ⊢
 refine ⟨⟨h1.1.1,h⟩,?_,by simp only [decide_eq_true_eq];omega⟩
 exact h1.2.1
theorem JFi {w:JP}(hw:QM w=true){r:Reading}(h:r∈w.readings):Zl w.rates.length r=true:=by
 simp only [QM,Bool.and_eq_true,List.all_eq_true] at hw
 exact hw.1.2 r h
theorem JJ9 {w:JP}(hw:QM w=true){i:Nat}(h:i<w.readings.length):Zl w.rates.length (rd w i)=true:=JFi hw (List.mem_of_getElem? (ZU h))
theorem JCa {n l h:Int}:Q0 n l h=true↔l≤n∧n≤h:=by simp [Q0]
theorem JEP {n:Nat}{r:Reading}:Zl n r=true↔(0≤r.house∧r.house≤(n:Int)-1)∧(0≤r.day∧r.day≤131072)∧(0≤r.shows∧r.shows≤1073741824):=by
 simp only [Zl,Bool.and_eq_true,JCa]
 constructor
 ·rintro ⟨⟨h1,h2⟩,h3⟩;exact ⟨h1,h2,h3⟩
 ·rintro ⟨h1,h2,h3⟩;exact ⟨⟨h1,h2⟩,h3⟩
def swB (w:JP)(a j:Nat):List YM:=((List.range' (a+1) j).filter fun (b:Nat)=>ZV w ⟨0,(a:Int),(b:Int),0⟩).map fun (b:Nat)=>⟨0,(a:Int),(b:Int),0⟩
def swA (w:JP)(a:Nat):List YM:=swB w a (w.readings.length-(a+1))
def swN (w:JP)(k:Nat):List YM:=(List.range k).flatMap (swA w)
def cpN (w:JP)(k:Nat):List YM:=((List.range k).filter fun (a:Nat)=>ZV w ⟨1,(a:Int),0,0⟩).map fun (a:Nat)=>⟨1,(a:Int),0,0⟩
def ltD (w:JP)(a j:Nat):List Nat:=(List.range' 1 j).filter fun (d:Nat)=>ZV w ⟨2,(a:Int),(d:Int),0⟩
def JFV (l:List Nat):Int:=match l.getLast? with
 |none=>0
 |some d=>d
def ltA (w:JP)(a:Nat):List YM:=match ltD w a 30 with
 |[]=>[]
 |d::r=>[⟨2,a,d,JFV (d::r)⟩]
def ltN (w:JP)(k:Nat):List YM:=(List.range k).flatMap (ltA w)
def JBo (w:JP):List YM:=swN w w.readings.length++cpN w w.readings.length++ltN w w.readings.length
theorem JVC (w:JP)(k:Nat):swN w (k+1)=swN w k++swA w k:=by
 unfold swN
 rw [List.range_succ,List.flatMap_append];simp
theorem JJh (w:JP)(a j:Nat):ltD w a (j+1)=ltD w a j++(if ZV w ⟨2,a,((1+j:Nat):Int),0⟩ then [1+j] else []):=by
 unfold ltD
 rw [List.range'_1_concat,List.filter_append]
 congr 1
 simp only [List.filter_cons,List.filter_nil]
theorem JSW (w:JP)(k:Nat):ltN w (k+1)=ltN w k++ltA w k:=by
 unfold ltN
 rw [List.range_succ,List.flatMap_append];simp
theorem JM3 (l:List Nat)(d:Nat):JFV (l++[d])=d:=by unfold JFV;simp
theorem JSV {w:JP}{a j d:Nat}(h:d∈ltD w a j):1≤d∧d<1+j:=by
 unfold ltD at h
 rw [List.mem_filter,List.mem_range'_1] at h
 exact h.1
def JBJ (w:JP):List YM × Int:=if QM w=true then (if ZP w=true then ([],4) else if JBo w=[] then ([],6) else (JBo w,0)) else ([],1)
def JDX (w:JP)(s:YB)(day:Int)(i:Nat):YB:=
 if day-(rd w i).day<0 then ⟨(rd w i).shows+s.hi*(day-(rd w i).day),(rd w i).shows+s.lo*(day-(rd w i).day)⟩
 else ⟨(rd w i).shows+s.lo*(day-(rd w i).day),(rd w i).shows+s.hi*(day-(rd w i).day)⟩
def shF (w:JP)(s:YB)(day:Int)(l:List Nat):Nat→YB
 |0=>⟨0,0⟩
 |k+1=>
  let x:=JDX w s day (l[k]?.getD 0)
  let o:=if k=0 then x else shF w s day l k
  ⟨max o.lo x.lo,min o.hi x.hi⟩
def JBS (w:JP)(house day:Int):YB × Int:=
 if QM w=false then (⟨0,0⟩,1)
 else if Q0 house 0 ((w.rates.length:Int)-1)=false∨Q0 day 0 131072=false then (⟨0,0⟩,2)
 else if Jo w house=[] then (⟨0,0⟩,4)
 else if (YP w house.toNat).isSome=true then (⟨0,0⟩,6)
 else (shF w (rt w house.toNat) day (Jo w house) (Jo w house).length,0)
theorem JSI (w:JP)(a j:Nat):(swB w a j).length≤j:=by
 unfold swB
 rw [List.length_map]
 exact Nat.le_trans (List.length_filter_le _ _) (by simp)
theorem JSJ {w:JP}(hn:w.readings.length≤24)(k:Nat):(swN w k).length≤k*24:=by
 induction k with
 |zero=>simp [swN]
 |succ k ih=>
  have:=JSI w k (w.readings.length-(k+1))
  rw [JVC,List.length_append,swA];omega
theorem JSD (w:JP)(k:Nat):(cpN w k).length≤k:=by
 unfold cpN
 rw [List.length_map]
 exact Nat.le_trans (List.length_filter_le _ _) (by simp)
theorem JSF (w:JP)(k:Nat):(ltN w k).length≤k:=by
 induction k with
 |zero=>simp [ltN]
 |succ k ih=>
  have:(ltA w k).length≤1:=by unfold ltA;split<;>simp
  rw [JSW,List.length_append];omega
theorem JHM {a b:Int}(ha:-1000000≤a∧a≤1000000)(hb:-1000000≤b∧b≤1000000):-1000000000000≤a*b∧a*b≤1000000000000:=by
 have h:(a*b).natAbs≤1000000*1000000:=by rw [Int.natAbs_mul];exact Nat.mul_le_mul (by omega) (by omega)
 omega
theorem JOa {w:JP}{s:YB}{day:Int}{l:List Nat}{k i:Nat}(h:l[k]? = some i):shF w s day l (k+1)=⟨max (if k=0 then JDX w s day i else shF w s day l k).lo (JDX w s day i).lo,min (if k=0 then JDX w s day i else shF w s day l k).hi (JDX w s day i).hi⟩:=by
 simp only [shF,h,Option.getD_some]
theorem JUI (w:JP)(s:YB)(day:Int)(l:List Nat):shF w s day l 0=⟨0,0⟩:=rfl
structure Bds where
 low:Int
 high:Int
deriving DecidableEq,Inhabited
abbrev Qo:=Reading × Nat
def JAg (a b:Int):Int:=if a<b then -1 else if a>b then 1 else 0
def JAe (s:YB)(n:Int):Bds:=if n<0 then ⟨s.hi*n,s.lo*n⟩ else ⟨s.lo*n,s.hi*n⟩
end Go.Mw.Cd
namespace Go.Mw.Cd
open Go.Proofs
@[go_sem] def JEx (s:YB):List D:=[.i s.lo,.i s.hi]
@[go_sem] def Qr (r:Reading):List D:=[.i r.house,.i r.day,.i r.shows]
@[go_sem] def JGv (r:YM):List D:=[.i r.kind,.i r.a,.i r.b,.i r.c]
@[go_sem] def JAK (n:Int):List D:=[.i n]
def JY (ds:List D):List AL:=ds.map .d
abbrev JHh (s:YB):AV:=.val true [.d (.i s.lo),.d (.i s.hi)]
abbrev JKA (r:Reading):AV:=.val true [.d (.i r.house),.d (.i r.day),.d (.i r.shows)]
abbrev JAU (w:JP):AV:=.val true [.d (.sl 2 (w.rates.map JEx)),.d (.sl 3 (w.readings.map Qr))]
@[go_sem] def JAy (n:Nat):List D:=[.i n]
abbrev JNW (l:List Nat):D:=.sl 1 (l.map JAy)
theorem i64_mul {a b:Int}(ha:-1000000≤a∧a≤1000000)(hb:-1000000≤b∧b≤1000000):IntKind.i64.wrap (a*b)=a*b:=by
 have h:(a*b).natAbs≤1000000*1000000:=by rw [Int.natAbs_mul];exact Nat.mul_le_mul (by omega) (by omega)
 exact IntWalk.i64_in _ (by omega)
abbrev JVS (l:List Int):AV:=.tup (l.map fun n=>(false,[.d (.i n)]))
abbrev JHW (l:List YM):D:=.sl 4 (l.map JGv)
abbrev JRK (p:List YM × Int):AV:=.tup [(false,[.d (JHW p.1)]),(false,[.d (.i p.2)])]
abbrev JUJ (p:YB × Int):AV:=.tup [(true,[.d (.i p.1.lo),.d (.i p.1.hi)]),(false,[.d (.i p.2)])]
theorem JHS (a b:Int):JAn false a b=max a b:=by simp only [JAn,cond_false];split<;>omega
theorem JBR (a b:Int):JAn true a b=min a b:=by simp only [JAn,cond_true];split<;>omega
abbrev JAp (w:JP):List D:=[.sl 2 (w.rates.map JEx),.sl 3 (w.readings.map Qr)]
abbrev JEp (b:Bds):AV:=.val true [.d (.i b.low),.d (.i b.high)]
@[go_sem] def YC (x:Qo):List D:=[.i x.1.house,.i x.1.day,.i x.1.shows,.i (x.2:Int)]
abbrev JAB (x:Qo):AV:=.val true [.d (.i x.1.house),.d (.i x.1.day),.d (.i x.1.shows),.d (.i (x.2:Int))]
end Go.Mw.Cd
namespace Go.Mw.Cd
section
variable {α:Type} (lt:α→α→Bool)
def Yp (x:α)(l:List α):Nat→Nat
 |0=>0
 |n+1=>match l[n]? with
  |some y=>if lt x y=true then Yp x l n else n+1
  |none=>n+1
def JAX (x:α)(l:List α):List α:=l.take (Yp lt x l l.length)++[x]++l.drop (Yp lt x l l.length)
def QH (l:List α):List α:=l.foldl (fun acc x=>JAX lt x acc) []
def Lt (p t r:List α)(x:α)(c:Nat):List α:=p++(t.take c++[x]++t.drop c)++r
variable {lt}
theorem JKS (x:α)(l:List α):∀n,Yp lt x l n≤n
 |0=>Nat.le_refl 0
 |n+1=>by
  unfold Yp
  split
  ·split
   ·exact Nat.le_succ_of_le (JKS x l n)
   ·exact Nat.le_refl _
  ·exact Nat.le_refl _
theorem JHb {x y:α}{l:List α}{n:Nat}(h:l[n]? = some y)(hl:lt x y=true):Yp lt x l (n+1)=Yp lt x l n:=by
 rw [Yp,h];simp [hl]
theorem JHa {x y:α}{l:List α}{n:Nat}(h:l[n]? = some y)(hl:lt x y=false):Yp lt x l (n+1)=n+1:=by
 rw [Yp,h];simp [hl]
theorem JSE (x:α)(l:List α):(JAX lt x l).length=l.length+1:=by
 have:=JKS (lt:=lt) x l l.length
 unfold JAX;simp;omega
theorem JDD (l:List α)(x:α):QH lt (l++[x])=JAX lt x (QH lt l):=by
 unfold QH;simp [List.foldl_append]
theorem Z8 (l:List α):(QH lt l).length=l.length:=by
 suffices h:∀(n:Nat) (l:List α),l.length=n→(QH lt l).length=n from h _ l rfl
 intro n
 induction n with
 |zero=>intro l h;rw [List.eq_nil_of_length_eq_zero h];rfl
 |succ n ih=>
  intro l h
  obtain ⟨m,x,rfl⟩:∃m x,l=m++[x]:=by
   refine ⟨l.dropLast,l.getLast (by intro e;simp [e] at h),?_⟩
   exact (List.dropLast_concat_getLast _).symm
  rw [JDD,JSE,ih m (by simpa using h)]
theorem JRz (l:List α):QH lt (l.take 1)++l.drop 1=l:=by
 cases l with
 |nil=>rfl
 |cons x l=>simp [QH,JAX,Yp]
theorem JHt {p t r:List α}{x:α}{c:Nat}(h:c≤t.length):(Lt p t r x c).length=p.length+(t.length+1)+r.length:=by
 unfold Lt;simp;omega
theorem JHu {p t r:List α}{x:α}{c:Nat}(h:c≤t.length):(Lt p t r x c)[p.length+c]? = some x:=by
 unfold Lt
 have h1:(t.take c).length=c:=by simp;omega
 rw [List.append_assoc,List.append_assoc,List.append_assoc,List.getElem?_append_right (by omega),Nat.add_sub_cancel_left,List.getElem?_append_right (by omega),h1,Nat.sub_self]
 simp
theorem JKy {p t r:List α}{x y:α}{c:Nat}(h:t[c]? = some y):(Lt p t r x (c+1))[p.length+c]? = some y:=by
 have hc:c<t.length:=(List.getElem?_eq_some_iff.1 h).1
 unfold Lt
 rw [List.append_assoc,List.append_assoc,List.append_assoc,List.getElem?_append_right (by omega),Nat.add_sub_cancel_left,List.getElem?_append_left YF,List.getElem?_take,if_pos (by omega),h]
theorem JKx {p t r:List α}{x y:α}{c:Nat}(h:t[c]? = some y):((Lt p t r x (c+1)).set (p.length+(c+1)) y).set (p.length+c) x=Lt p t r x c:=by
 have hc:c<t.length:=(List.getElem?_eq_some_iff.1 h).1
 have hd:t.drop c=y::t.drop (c+1):=by
  obtain ⟨hk,rfl⟩:=List.getElem?_eq_some_iff.1 h
  exact (List.getElem_cons_drop hk).symm
 have ht:t.take (c+1)=t.take c++[y]:=by rw [List.take_succ,h];rfl
 unfold Lt
 rw [hd,ht]
 have h1:(t.take c).length=c:=by simp;omega
 simp only [List.append_assoc]
 rw [List.set_append_right _ _ (by omega),List.set_append_right _ _ (by omega)]
 simp only [Nat.add_sub_cancel_left]
 rw [List.set_append_right _ _ (by omega),h1,List.set_append_right _ _ (by omega),h1]
 simp
theorem JPF {p t r:List α}{x:α}:Lt p t r x t.length=p++(t++[x])++r:=by unfold Lt;simp
theorem JKw {p t r:List α}{x:α}:Lt p t r x (Yp lt x t t.length)=p++JAX lt x t++r:=rfl
end
end Go.Mw.Cd
namespace Go.Mw.Cd
def JC5 (a b:Qo):Bool:=decide (JAg a.1.day b.1.day<0)
theorem JIp {a b:Qo}:JC5 a b=true↔a.1.day<b.1.day:=by
 unfold JC5 JAg
 rw [decide_eq_true_iff]
 split
 ·simp;omega
 ·split<;>simp<;>omega
def numOf (w:JP)(i:Nat):Qo:=(rd w i,i)
def Zg (w:JP)(house:Int):Nat→List Qo
 |0=>[]
 |k+1=>if (rd w k).house=house then Zg w house k++[numOf w k] else Zg w house k
theorem JOO (w:JP)(i:Nat)(out:List Nat):∀n,n≤out.length→Yp JC5 (numOf w i) (out.map (numOf w)) n=Qt w i out n
 |0,_=>rfl
 |n+1,h=>by
  have hx:out[n]? = some out[n]:=List.getElem?_eq_getElem (by omega)
  have hm:(out.map (numOf w))[n]? = some (numOf w out[n]):=by rw [List.getElem?_map,hx];rfl
  unfold Qt
  rw [hx]
  simp only [Option.getD_some]
  by_cases hl:(rd w i).day<(rd w out[n]).day
  ·rw [if_pos hl,JHb hm (JIp.2 hl)]
   exact JOO w i out n (by omega)
  ·rw [if_neg hl,JHa hm]
   rw [←Bool.not_eq_true,JIp];exact hl
theorem JRw (w:JP)(i:Nat)(out:List Nat):JAX JC5 (numOf w i) (out.map (numOf w))=(Zi w i out).map (numOf w):=by
 unfold JAX Zi
 rw [List.length_map,JOO w i out out.length (Nat.le_refl _)]
 simp
theorem JHg (w:JP)(house:Int):∀n,QH JC5 (Zg w house n)=(J5 w house n).map (numOf w)
 |0=>rfl
 |n+1=>by
  unfold Zg J5
  split
  ·rw [JDD,JHg w house n,JRw]
  ·exact JHg w house n
theorem JJS (w:JP)(house:Int)(n:Nat):(Zg w house n).length=(J5 w house n).length:=by
 rw [←Z8 (lt:=JC5),JHg,List.length_map]
def Asc (w:JP)(l:List Nat):Prop:=∀(i j a b:Nat),i<j→l[i]? = some a→l[j]? = some b→(rd w a).day≤(rd w b).day
theorem JIZ {w:JP}{i:Nat}{out:List Nat}(h:Asc w out):∀n,n≤out.length→(∀k a,k<Qt w i out n→out[k]? = some a→(rd w a).day≤(rd w i).day)∧(∀k a,Qt w i out n≤k→k<n→out[k]? = some a→(rd w i).day<(rd w a).day)
 |0,_=>⟨fun k a hk=>absurd hk (by simp [Qt]),fun k a _ hk=>absurd hk (by omega)⟩
 |n+1,hn=>by
  have hx:out[n]? = some out[n]:=List.getElem?_eq_getElem (by omega)
  unfold Qt
  rw [hx]
  simp only [Option.getD_some]
  have ih:=JIZ (i:=i) h n (by omega)
  by_cases hl:(rd w i).day<(rd w out[n]).day
  ·rw [if_pos hl]
   refine ⟨ih.1,fun k a h1 h2 h3=>?_⟩
   by_cases e:k=n
   ·subst e;rw [hx] at h3;cases h3;exact hl
   ·exact ih.2 k a h1 (by omega) h3
  ·rw [if_neg hl]
   refine ⟨fun k a hk hka=>?_,fun k a h1 h2=>absurd h2 (by omega)⟩
   by_cases e:k=n
   ·subst e;rw [hx] at hka;cases hka;omega
   ·have:=h k n a out[n] (by omega) hka hx
    omega
theorem JPO {w:JP}{i:Nat}{out:List Nat}(h:Asc w out):Asc w (Zi w i out):=by
 have hle:=JDn w i out out.length
 obtain ⟨h1,h2⟩:=JIZ (i:=i) h out.length (Nat.le_refl _)
 have get:∀k,(Zi w i out)[k]? = if k<Qt w i out out.length then out[k]? else if k=Qt w i out out.length then some i else out[k-1]? :=by
  intro k
  unfold Zi
  have hl:(out.take (Qt w i out out.length)).length=Qt w i out out.length:=by simp;omega
  by_cases c1:k<Qt w i out out.length
  ·rw [if_pos c1,List.append_assoc,List.getElem?_append_left (by omega),List.getElem?_take,if_pos c1]
  ·rw [if_neg c1,List.append_assoc,List.getElem?_append_right (by omega),hl]
   by_cases c2:k=Qt w i out out.length
   ·rw [if_pos c2,c2,Nat.sub_self];rfl
   ·rw [if_neg c2,List.getElem?_append_right YF,List.getElem?_drop]
    congr 1
    simp;omega
 intro p q a b hpq hp hq
 rw [get] at hp hq
 split at hp
 ·split at hq
  ·exact h p q a b hpq hp hq
  ·split at hq
   ·cases hq;exact h1 p a (by assumption) hp
   ·rename_i c1 c2 c3
    have:=(List.getElem?_eq_some_iff.1 hq).1
    exact h p (q-1) a b (by omega) hp hq
 ·split at hp
  ·cases hp
   split at hq
   ·omega
   ·split at hq
    ·omega
    ·have:=(List.getElem?_eq_some_iff.1 hq).1
     exact Int.le_of_lt (h2 (q-1) b (by omega) (by omega) hq)
  ·split at hq
   ·omega
   ·split at hq
    ·omega
    ·exact h (p-1) (q-1) a b (by omega) hp hq
theorem JIX (w:JP)(house:Int):∀n,Asc w (J5 w house n)
 |0=>fun i j a b _ h=>by simp [J5] at h
 |n+1=>by
  unfold J5
  split
  ·exact JPO (JIX w house n)
  ·exact JIX w house n
theorem JIY (w:JP)(house:Int):Asc w (Jo w house):=JIX w house _
theorem JVU {s:YB}{a b:Reading}(h:a.day≤b.day):Q0 (b.shows-a.shows) (JAe s (b.day-a.day)).low (JAe s (b.day-a.day)).high=JBA s a b:=by
 unfold JAe JBA Q0
 rw [if_neg (by omega)]
def Z6 (w:JP)(house:Int)(k:Nat):Qo:=if k=0 then (⟨0,0,0⟩,0) else numOf w ((Jo w house)[k-1]?.getD 0)
end Go.Mw.Cd
namespace Go.Mw.Cd
inductive YL where
 |sw (a b:Nat)
 |cp (a:Nat)
 |lt (a d:Nat)
def JKE (w:JP):YL→Prop
 |.sw a b=>a<b∧b<w.readings.length
 |.cp a=>a<w.readings.length
 |.lt a d=>a<w.readings.length∧d≤1000
def YK (w:JP):YL→JP
 |.sw a b=>⟨w.rates,(w.readings.set a { rd w a with shows:=(rd w b).shows }).set b { rd w b with shows:=(rd w a).shows }⟩
 |.cp a=>⟨w.rates,w.readings.take a++w.readings.drop (a+1)⟩
 |.lt a d=>⟨w.rates,w.readings.set a { rd w a with day:=(rd w a).day-d }⟩
def Yy (d:Int)(x:Nat):List (Int × List Nat)→List (Int × List Nat)
 |[]=>[(d,[x])]
 |g::r=>if g.1=d then (g.1,g.2++[x])::r else g::Yy d x r
def Qh (d:Int):List (Int × List Nat)→Option (Nat × List Nat)
 |[]=>none
 |g::r=>if g.1=d then some (0,g.2) else (Qh d r).map fun p=>(p.1+1,p.2)
def Yn (w:JP):Nat→List (Int × List Nat)
 |0=>[]
 |k+1=>Yy (rd w k).day k (Yn w k)
def Yu (w:JP)(d:Int)(k:Nat):List Nat:=(List.range k).filter fun b=>decide ((rd w b).day=d)
theorem JIw {d d':Int}{x:Nat}:∀ {G:List (Int × List Nat)},Qh d' (Yy d x G)=if d=d' then some (match Qh d G with
  |some p=>(p.1,p.2++[x])
  |none=>(G.length,[x])) else Qh d' G
 |[]=>by
  simp only [Yy,Qh]
  split<;>simp_all
 |g::r=>by
  unfold Yy
  by_cases h:g.1=d
  ·rw [if_pos h]
   by_cases h2:d=d'
   ·simp [Qh,h,h2]
   ·have h3:¬g.1=d':=fun e=>h2 (h.symm.trans e)
    simp [Qh,h3,h2]
  ·rw [if_neg h]
   by_cases h2:d=d'
   ·subst h2
    have ih:=JIw (d:=d) (d':=d) (x:=x) (G:=r)
    rw [if_pos rfl] at ih
    simp only [Qh,if_neg h,ih,if_true]
    cases Qh d r<;>simp
   ·have ih:=JIw (d:=d) (d':=d') (x:=x) (G:=r)
    rw [if_neg h2] at ih
    simp only [Qh,ih,if_neg h2]
theorem JUD (w:JP)(d:Int)(k:Nat):Yu w d (k+1)=Yu w d k++if (rd w k).day=d then [k] else []:=by
 unfold Yu
 rw [List.range_succ,List.filter_append]
 congr 1
 simp only [List.filter_cons,List.filter_nil,decide_eq_true_eq]
theorem JIy {d:Int}{i:Nat}{l:List Nat}:∀ {G:List (Int × List Nat)},Qh d G=some (i,l)→G[i]? = some (d,l)
 |[],h=>by simp [Qh] at h
 |g::r,h=>by
  unfold Qh at h
  split at h
  ·rename_i e;cases h;subst e;rfl
  ·cases hr:Qh d r with
   |none=>simp [hr] at h
   |some p=>
    obtain ⟨i',l'⟩:=p
    simp [hr] at h
    obtain ⟨rfl,rfl⟩:=h
    simpa using JIy hr
theorem JIx (w:JP)(d:Int):∀k,((Qh d (Yn w k)).map Prod.snd).getD []=Yu w d k
 |0=>rfl
 |k+1=>by
  have ih:=JIx w d k
  rw [JUD,Yn,JIw]
  by_cases h:(rd w k).day=d
  ·rw [if_pos h,if_pos h,←ih,h]
   cases Qh d (Yn w k)<;>simp
  ·rw [if_neg h,if_neg h,ih,List.append_nil]
theorem JSB {d:Int}{x:Nat}{G:List (Int × List Nat)}(h:Qh d G=none):Yy d x G=G++[(d,[x])]:=by
 induction G with
 |nil=>rfl
 |cons g r ih=>
  unfold Qh at h
  split at h
  ·cases h
  ·rename_i hg
   have:Qh d r=none:=by cases hr:Qh d r<;>simp_all
   rw [Yy,if_neg hg,ih this];rfl
theorem JJA {d:Int}{x i:Nat}{l:List Nat}:∀ {G:List (Int × List Nat)},Qh d G=some (i,l)→∀j,(Yy d x G)[j]? = if j=i then some (d,l++[x]) else G[j]?
 |[],h,_=>by simp [Qh] at h
 |g::r,h,j=>by
  unfold Qh at h
  split at h
  ·rename_i e
   cases h
   rw [Yy,if_pos e]
   cases j with
   |zero=>simp [e]
   |succ j=>simp
  ·rename_i e
   cases hr:Qh d r with
   |none=>simp [hr] at h
   |some p=>
    obtain ⟨i',l'⟩:=p
    simp [hr] at h
    obtain ⟨rfl,rfl⟩:=h
    rw [Yy,if_neg e]
    cases j with
    |zero=>simp
    |succ j=>simpa using JJA hr j
def Zo (w:JP)(a:Nat)(l:List Nat):List YL:=(l.filter fun b=>decide (a<b)&&decide (((rd w a).house-(rd w b).house)*((rd w a).house-(rd w b).house)=1)).map (YL.sw a)
def JBG (w:JP)(a:Nat):List YL:=match YR w a with
 |some p=>if (rd w p).shows=(rd w a).shows then [.cp a] else []
 |none=>[]
def YT (w:JP)(a d:Nat):Bool:=decide ((d:Int)≤min 30 (rd w a).day)&&(match YR w a with
 |some p=>decide ((rd w a).day-d>(rd w p).day)
 |none=>true)
def Z7 (w:JP)(a:Nat):Nat→Nat→List YL
 |0,_=>[]
 |f+1,d=>if YT w a d=true then .lt a d::Z7 w a f (d+1) else []
def JAS (w:JP)(k m:Nat):List YL:=(List.range' k m).flatMap fun a=>Zo w a (Yu w (rd w a).day w.readings.length)
def Yz (w:JP)(k m:Nat):List YL:=(List.range' k m).flatMap (JBG w)
def ZS (w:JP)(k m:Nat):List YL:=(List.range' k m).flatMap fun a=>Z7 w a 31 1
def Zw (w:JP):List YL:=JAS w 0 w.readings.length++(Yz w 0 w.readings.length++ZS w 0 w.readings.length)
def ZK:List Nat→List (Nat × Nat)
 |[]=>[]
 |[_]=>[]
 |a::b::r=>(b,a)::ZK (b::r)
def JAG (w:JP)(h:Nat):List (Nat × Nat):=(List.range h).flatMap fun (i:Nat)=>ZK (Jo w i)
def Z9 (x:Nat):List (Nat × Nat)→Option Nat
 |[]=>none
 |p::r=>if p.1=x then some p.2 else Z9 x r
theorem JNM (x:Nat):∀l:List Nat,Z9 x (ZK l)=JAH x l
 |[]=>rfl
 |[_]=>rfl
 |a::b::r=>by
  unfold ZK JAH
  simp only [Z9]
  split
  ·rfl
  ·exact JNM x (b::r)
theorem JSP (x:Nat)(l m:List (Nat × Nat)):Z9 x (l++m)=match Z9 x l with
 |some p=>some p
 |none=>Z9 x m:=by
 induction l with
 |nil=>rfl
 |cons q l ih=>
  simp only [List.cons_append,Z9]
  split
  ·rfl
  ·exact ih
theorem JHQ {q:Nat × Nat}:∀ {l:List Nat},q∈ZK l→q.1∈l
 |[],h=>by simp [ZK] at h
 |[_],h=>by simp [ZK] at h
 |a::b::r,h=>by
  unfold ZK at h
  rcases List.mem_cons.1 h with rfl|h
  ·simp
  ·exact List.mem_cons_of_mem _ (JHQ h)
theorem JHK {x:Nat}:∀ {l:List (Nat × Nat)},(∀q∈l,q.1≠x)→Z9 x l=none
 |[],_=>rfl
 |q::l,h=>by
  rw [Z9,if_neg (h q (by simp))]
  exact JHK fun q hq=>h q (by simp [hq])
theorem JHJ {w:JP}(hw:QM w=true){x:Nat}(hx:x<w.readings.length):Z9 x (JAG w w.rates.length)=YR w x:=by
 have hr:=JAo hw hx
 obtain ⟨h,hh⟩:∃h:Nat,(rd w x).house=h:=⟨(rd w x).house.toNat,by omega⟩
 have key:∀m,m≤w.rates.length→Z9 x (JAG w m)=if h<m then YR w x else none:=by
  intro m
  induction m with
  |zero=>intro _;rfl
  |succ m ih=>
   intro hm
   have e:JAG w (m+1)=JAG w m++ZK (Jo w (m:Int)):=by
    unfold JAG
    rw [List.range_succ,List.flatMap_append];simp
   rw [e,JSP,ih (by omega)]
   by_cases c1:h<m
   ·rw [if_pos c1,if_pos (by omega)]
    by_cases c2:YR w x=none
    ·rw [c2]
     refine JHK fun q hq hqx=>?_
     have:=(JAN.1 (JHQ hq)).2
     rw [hqx,hh] at this
     omega
    ·cases hb:YR w x with
     |none=>exact absurd hb c2
     |some p=>rfl
   ·rw [if_neg c1]
    by_cases c2:h=m
    ·subst c2
     rw [if_pos (by omega)]
     simp only
     rw [JNM,YR,hh]
    ·rw [if_neg (by omega)]
     simp only
     refine JHK fun q hq hqx=>?_
     have:=(JAN.1 (JHQ hq)).2
     rw [hqx,hh] at this
     omega
 rw [key _ (Nat.le_refl _),if_pos (by omega)]
theorem range_split (k n:Nat)(h:k<n):List.range' k (n-k)=k::List.range' (k+1) (n-(k+1)):=by
 obtain ⟨m,hm⟩:∃m,n-k=m+1:=⟨n-k-1,by omega⟩
 rw [hm,List.range'_succ,show n-(k+1)=m by omega]
theorem JVK {w:JP}{k:Nat}(h:k<w.readings.length):JAS w k (w.readings.length-k)=Zo w k (Yu w (rd w k).day w.readings.length)++JAS w (k+1) (w.readings.length-(k+1)):=by
 unfold JAS;rw [range_split _ _ h];simp
theorem JIn {w:JP}{k:Nat}(h:k<w.readings.length):Yz w k (w.readings.length-k)=JBG w k++Yz w (k+1) (w.readings.length-(k+1)):=by
 unfold Yz;rw [range_split _ _ h];simp
theorem JSA {w:JP}{k:Nat}(h:k<w.readings.length):ZS w k (w.readings.length-k)=Z7 w k 31 1++ZS w (k+1) (w.readings.length-(k+1)):=by
 unfold ZS;rw [range_split _ _ h];simp
theorem JVJ {w:JP}{k:Nat}(h:w.readings.length≤k):JAS w k (w.readings.length-k)=[]:=by
 unfold JAS;rw [show w.readings.length-k=0 by omega];rfl
theorem JQw {w:JP}{k:Nat}(h:w.readings.length≤k):Yz w k (w.readings.length-k)=[]:=by
 unfold Yz;rw [show w.readings.length-k=0 by omega];rfl
theorem JR9 {w:JP}{k:Nat}(h:w.readings.length≤k):ZS w k (w.readings.length-k)=[]:=by
 unfold ZS;rw [show w.readings.length-k=0 by omega];rfl
theorem JJm {w:JP}{d:Int}{k b:Nat}:b∈Yu w d k↔b<k∧(rd w b).day=d:=by
 unfold Yu;simp
theorem JRO {w:JP}{k:Nat}(h:k<w.readings.length):∃i,Qh (rd w k).day (Yn w w.readings.length)=some (i,Yu w (rd w k).day w.readings.length):=by
 have h1:=JIx w (rd w k).day w.readings.length
 cases hf:Qh (rd w k).day (Yn w w.readings.length) with
 |none=>
  rw [hf] at h1
  have h2:k∈Yu w (rd w k).day w.readings.length:=JJm.2 ⟨h,rfl⟩
  rw [←h1] at h2
  simp at h2
 |some p=>
  rw [hf] at h1
  obtain ⟨i,l⟩:=p
  simp at h1
  exact ⟨i,by rw [h1]⟩
theorem JVI {w:JP}{a b:Nat}{l:List Nat}(h:a<b∧((rd w a).house-(rd w b).house)*((rd w a).house-(rd w b).house)=1):Zo w a (b::l)=.sw a b::Zo w a l:=by
 unfold Zo;rw [List.filter_cons,if_pos (by simp [h.1,h.2])];rfl
theorem JVH {w:JP}{a b:Nat}{l:List Nat}(h:¬(a<b∧((rd w a).house-(rd w b).house)*((rd w a).house-(rd w b).house)=1)):Zo w a (b::l)=Zo w a l:=by
 unfold Zo;rw [List.filter_cons,if_neg]
 intro hc
 simp at hc
 exact h hc
theorem JJz:∀ {l:List Nat} {k p i:Nat},l[k]? = some p→l[k+1]? = some i→(ZK l)[k]? = some (i,p)
 |[],_,_,_,h,_=>by simp at h
 |[_],k,_,_,h,h'=>by simp at h'
 |a::b::r,0,p,i,h,h'=>by
  simp at h h'
  subst h h'
  rfl
 |a::b::r,k+1,p,i,h,h'=>by
  rw [ZK]
  simpa using JJz (l:=b::r) (k:=k) (p:=p) (i:=i) (by simpa using h) (by simpa using h')
theorem JJT:∀l:List Nat,(ZK l).length=l.length-1
 |[]=>rfl
 |[_]=>rfl
 |a::b::r=>by
  rw [ZK,List.length_cons,JJT (b::r)]
  simp
theorem JSh {w:JP}{i:Nat}{out:List Nat}(h:out.Nodup)(hi:i ∉ out):(Zi w i out).Nodup:=by
 have hp:(Zi w i out).Perm (i::out):=by
  unfold Zi
  refine List.Perm.trans ?_ (List.perm_middle (l₁:=out.take (Qt w i out out.length)) (l₂:=out.drop (Qt w i out out.length)) (a:=i) |>.trans ?_)
  ·rw [List.append_assoc];rfl
  ·rw [List.take_append_drop]
 exact hp.nodup_iff.2 (List.nodup_cons.2 ⟨hi,h⟩)
theorem JHN (w:JP)(house:Int):∀n,(J5 w house n).Nodup
 |0=>List.nodup_nil
 |n+1=>by
  unfold J5
  split
  ·exact JSh (JHN w house n) fun h=>by have:=(JEE.1 h).1;omega
  ·exact JHN w house n
theorem JSQ {w:JP}{h k i:Nat}(hi:(Jo w (h:Int))[k]? = some i):Z9 i (JAG w h++(ZK (Jo w (h:Int))).take (k-1))=none:=by
 refine JHK fun q hq e=>?_
 have him:=JAN.1 (List.mem_of_getElem? hi)
 rcases List.mem_append.1 hq with hq|hq
 ·unfold JAG at hq
  obtain ⟨m,hm,hq⟩:=List.mem_flatMap.1 hq
  have h1:=(JAN.1 (JHQ hq)).2
  rw [e,him.2] at h1
  have:=List.mem_range.1 hm
  omega
 ·obtain ⟨j,hj,hqj⟩:=List.mem_take_iff_getElem.1 hq
  have hlen:=JJT (Jo w (h:Int))
  have hj2:j+1<(Jo w (h:Int)).length:=by omega
  have ha:(Jo w (h:Int))[j]? = some (Jo w (h:Int))[j]:=List.getElem?_eq_getElem (by omega)
  have hb:(Jo w (h:Int))[j+1]? = some (Jo w (h:Int))[j+1]:=List.getElem?_eq_getElem hj2
  have hp:=JJz ha hb
  have hq2:(ZK (Jo w (h:Int)))[j]? = some q:=by rw [List.getElem?_eq_getElem (by omega),hqj]
  rw [hq2] at hp
  have hp':=Option.some.inj hp
  rw [hp'] at e
  simp only at e
  have hnd:=JHN w (h:Int) w.readings.length
  have hk:=(List.getElem?_eq_some_iff.1 hi)
  obtain ⟨hk1,hk2⟩:=hk
  have hjk:j+1<k:=by omega
  exact absurd (e.trans hk2.symm) (List.pairwise_iff_getElem.1 hnd (j+1) k hj2 hk1 hjk)
end Go.Mw.Cd
namespace Go.Mw.Cd
def YG (j:Nat):List (Int × List Nat)→List (Value × Bool × List AL)
 |[]=>[]
 |g::r=>(.int .i64 g.1,false,[.own (j+2000) 0 g.2.length g.2.length])::YG (j+1) r
def Q2 (e:Nat)(j:Nat):List (Int × List Nat)→List (Nat × AO)
 |[]=>[]
 |g::r=>(j+2000,.arr e 1 (g.2.map JAy))::Q2 e (j+1) r
theorem Ym {d:Int}:∀ {G:List (Int × List Nat)} {j:Nat},JAM 0 (.int .i64 d) (YG j G)=some ((Qh d G).map fun p=>(false,[.own (p.1+j+2000) 0 p.2.length p.2.length]))
 |[],_=>rfl
 |g::r,j=>by
  simp only [YG,JAM,Zu,if_true]
  unfold Qh
  by_cases h:g.1=d
  ·have:(d==g.1)=true:=by simp [h]
   rw [this,if_pos h];simp
  ·have:(d==g.1)=false:=by simp;exact fun e=>h e.symm
   rw [this,if_neg h]
   simp only [Ym (G:=r)]
   cases Qh d r with
   |none=>rfl
   |some p=>simp;omega
theorem JOW {d:Int}{x:Bool × List AL}:∀ {G:List (Int × List Nat)} {j:Nat},Qh d G=none→ZT 0 (.int .i64 d) x (YG j G)=some (YG j G++[(.int .i64 d,x)])
 |[],_,_=>rfl
 |g::r,j,h=>by
  unfold Qh at h
  by_cases hg:g.1=d
  ·simp [hg] at h
  ·have:(d==g.1)=false:=by simp;exact fun e=>hg e.symm
   have hr:Qh d r=none:=by cases hr:Qh d r<;>simp_all
   simp only [YG,ZT,Zu,if_true,this,JOW (G:=r) hr]
   rfl
theorem JOZ {d:Int}{x i:Nat}{l:List Nat}:∀ {G:List (Int × List Nat)} {j:Nat},Qh d G=some (i,l)→ZT 0 (.int .i64 d) (false,[.own (i+j+2000) 0 (l.length+1) (l.length+1)]) (YG j G)=some (YG j (Yy d x G))
 |[],_,h=>by simp [Qh] at h
 |g::r,j,h=>by
  unfold Qh at h
  by_cases hg:g.1=d
  ·have:(d==g.1)=true:=by simp [hg]
   simp [hg] at h
   obtain ⟨rfl,rfl⟩:=h
   simp only [YG,ZT,Zu,if_true,this,Yy,if_pos hg,List.length_append,List.length_singleton]
   simp [hg]
  ·have:(d==g.1)=false:=by simp;exact fun e=>hg e.symm
   cases hr:Qh d r with
   |none=>simp [hr,hg] at h
   |some p=>
    obtain ⟨i',l'⟩:=p
    simp [hr,hg] at h
    obtain ⟨rfl,rfl⟩:=h
    have ih:=JOZ (x:=x) (G:=r) (j:=j+1) hr
    have e:i'+1+j+2000=i'+(j+1)+2000:=by omega
    simp only [YG,ZT,Zu,if_true,this,Yy,if_neg hg,e,ih]
theorem JMK {d:Int}{x:Nat}:∀ {G:List (Int × List Nat)} {j:Nat},YG j (G++[(d,[x])])=YG j G++[(.int .i64 d,false,[.own (G.length+j+2000) 0 1 1])]
 |[],j=>by simp [YG]
 |g::r,j=>by
  simp only [List.cons_append,YG,JMK (G:=r),List.length_cons]
  have e:r.length+(j+1)+2000=r.length+1+j+2000:=by omega
  rw [e]
theorem JNa {e:Nat}{d:Int}{x:Nat}:∀ {G:List (Int × List Nat)} {j:Nat},Q2 e j (G++[(d,[x])])=Q2 e j G++[(G.length+j+2000,.arr e 1 [JAy x])]
 |[],j=>by simp [Q2]
 |g::r,j=>by
  simp only [List.cons_append,Q2,JNa (G:=r),List.length_cons]
  have e':r.length+(j+1)+2000=r.length+1+j+2000:=by omega
  rw [e']
theorem JEA {e q:Nat}:∀ {G:List (Int × List Nat)} {j:Nat},look (Q2 e j G) q=if j+2000≤q then (G[q-(j+2000)]?).map (fun g=>.arr e 1 (g.2.map JAy)) else none
 |[],j=>by simp [Q2,look]
 |g::r,j=>by
  simp only [Q2,look,JEA (G:=r)]
  by_cases h:q=j+2000
  ·subst h;simp
  ·rw [if_neg h]
   by_cases h2:j+2000≤q
   ·have e2:q-(j+2000)-1=q-(j+1+2000):=by omega
    have e3:¬q-(j+2000)=0:=by omega
    have e4:j+1+2000≤q:=by omega
    rw [if_pos e4,if_pos h2,List.getElem?_cons,if_neg e3,e2]
   ·rw [if_neg (by omega),if_neg h2]
theorem JD9 {e q:Nat}{G:List (Int × List Nat)}(h:q<2000):look (Q2 e 0 G) q=none:=by
 rw [JEA,if_neg (by omega)]
theorem JJa {e i:Nat}{d:Int}{l:List Nat}{G:List (Int × List Nat)}(h:G[i]? = some (d,l)):look (Q2 e 0 G) (i+2000)=some (.arr e 1 (l.map JAy)):=by
 have e1:i+2000-(0+2000)=i:=by omega
 rw [JEA,e1,h]
 simp
theorem JNK {e:Nat}{G:List (Int × List Nat)}:look (Q2 e 0 G) (G.length+2000)=none:=by
 rw [JEA]
 have h:G[G.length+2000-(0+2000)]? = none:=List.getElem?_eq_none (by omega)
 rw [h];simp
def JAY (o:Nat):Bool:=o==900 || (o==25 || (o==43 || decide (2000≤o)))
theorem JD5 {p:Nat→Bool}(hp:∀i,p (i+2000)=true){e:Nat}:∀ {G:List (Int × List Nat)} {j:Nat},JBZ p (Q2 e j G)=Q2 e j G
 |[],_=>rfl
 |g::r,j=>by
  simp only [Q2,JBZ,hp j,if_true,AO.kp,JD5 hp (G:=r)]
theorem JD4 {p:Nat→Bool}(hp:∀i,p (i+2000)=true):∀ {G:List (Int × List Nat)} {j:Nat},(YG j G).map (fun q=>(q.1,q.2.1,q.2.2.map (·.kp p)))=YG j G
 |[],_=>rfl
 |g::r,j=>by
  have ih:=JD4 hp (G:=r) (j:=j+1)
  have:=hp j
  simp only [YG,List.map_cons]
  rw [ih]
  simp only [List.map_nil,AL.kp,this,if_true]
theorem JNz {o n:Nat}(ho:o<2000):∀ {G:List (Int × List Nat)} {j:Nat},(YG j G).map (fun q=>(q.1,q.2.1,q.2.2.map (·.ren (r1 o n))))=YG j G
 |[],_=>rfl
 |g::r,j=>by
  have:r1 o n (j+2000)=j+2000:=by unfold r1;rw [if_neg (by omega)]
  have ih:=JNz (n:=n) ho (G:=r) (j:=j+1)
  simp only [YG,List.map_cons]
  rw [ih]
  simp only [List.map_nil,AL.ren,this]
theorem JN1 {e o n:Nat}(ho:o<2000):∀ {G:List (Int × List Nat)} {j:Nat},(Q2 e j G).map (fun p=>(r1 o n p.1,p.2.ren (r1 o n)))=Q2 e j G
 |[],_=>rfl
 |g::r,j=>by
  have:r1 o n (j+2000)=j+2000:=by unfold r1;rw [if_neg (by omega)]
  have ih:=JN1 (e:=e) (n:=n) ho (G:=r) (j:=j+1)
  simp only [Q2,List.map_cons]
  rw [ih]
  simp only [AO.ren,this]
def ZO (w:JP):List (Nat × Nat)→List (Value × Bool × List AL)
 |[]=>[]
 |p::r=>(.int .i64 (p.1:Int),true,[.d (.i (rd w p.2).house),.d (.i (rd w p.2).day),.d (.i (rd w p.2).shows)])::ZO w r
theorem ZG {w:JP}{x:Nat}:∀ {l:List (Nat × Nat)},JAM 0 (.int .i64 (x:Int)) (ZO w l)=some ((Z9 x l).map fun p=>(true,[.d (.i (rd w p).house),.d (.i (rd w p).day),.d (.i (rd w p).shows)]))
 |[]=>rfl
 |p::r=>by
  simp only [ZO,JAM,Zu,if_true,Z9]
  by_cases h:p.1=x
  ·have:((x:Int)==(p.1:Int))=true:=by simp [h]
   rw [this,if_pos h];rfl
  ·have:((x:Int)==(p.1:Int))=false:=by simp;omega
   rw [this,if_neg h]
   exact ZG
theorem JOV {w:JP}{x:Nat}{v:Bool × List AL}:∀ {l:List (Nat × Nat)},Z9 x l=none→ZT 0 (.int .i64 (x:Int)) v (ZO w l)=some (ZO w l++[(.int .i64 (x:Int),v)])
 |[],_=>rfl
 |p::r,h=>by
  rw [Z9] at h
  by_cases hp:p.1=x
  ·simp [hp] at h
  ·rw [if_neg hp] at h
   have:((x:Int)==(p.1:Int))=false:=by simp;omega
   simp only [ZO,ZT,Zu,if_true,this,JOV (l:=r) h]
   rfl
theorem JQ9 (w:JP)(l m:List (Nat × Nat)):ZO w (l++m)=ZO w l++ZO w m:=by
 induction l with
 |nil=>rfl
 |cons p l ih=>simp only [List.cons_append,ZO,ih]
theorem JDG (i:Nat):JAY (i+2000)=true:=by unfold JAY;simp
theorem JRm {tm:List (Nat × AV)}{bh:Jc}{d:Int}{x i e:Nat}{l:List Nat}{G:List (Int × List Nat)}{M0:AO}(hf:Qh d G=some (i,l)) :
  JN ⟨tm,(25,.map (YG 0 (Yy d x G)))::(i+2000,.arr e 1 (l.map JAy++[JAy x]))::(900,.yl)::(25,M0)::Q2 e 0 G,bh⟩ ⟨tm,(900,.yl)::(25,.map (YG 0 (Yy d x G)))::Q2 e 0 (Yy d x G),bh⟩:=by
 refine JN.ob fun o=>?_
 simp only [look]
 by_cases h1:o=900
 ·subst h1;simp
 by_cases h2:o=25
 ·subst h2;simp
 rw [if_neg h1,if_neg h2,if_neg h2,if_neg h1,if_neg h2]
 by_cases h3:o=i+2000
 ·subst h3
  rw [if_pos rfl]
  have hg:=JJA (x:=x) hf i
  rw [if_pos rfl] at hg
  rw [JJa hg];simp
 ·rw [if_neg h3,JEA,JEA]
  by_cases h4:0+2000≤o
  ·rw [if_pos h4,if_pos h4,JJA (x:=x) hf]
   have h5:¬o-(0+2000)=i:=by omega
   rw [if_neg h5]
  ·rw [if_neg h4,if_neg h4]
theorem JRl {tm:List (Nat × AV)}{bh:Jc}{d:Int}{x e:Nat}{G:List (Int × List Nat)}{M0:AO}(hf:Qh d G=none)(htm:tm.map (fun p=>(p.1,p.2.ren (r1 43 (G.length+2000))))=tm)(hM:∃es,M0=.map es)(hG:G.length<900) :
  JN ⟨tm,(25,.map (YG 0 G++[(.int .i64 d,false,[.own 43 0 1 1])]))::(43,.arr e 1 [JAy x])::(900,.yl)::(25,M0)::Q2 e 0 G,bh⟩ ⟨tm,(900,.yl)::(25,.map (YG 0 (Yy d x G)))::Q2 e 0 (Yy d x G),bh⟩:=by
 obtain ⟨es,rfl⟩:=hM
 have h0:(⟨tm,(25,.map (YG 0 G++[(.int .i64 d,false,[.own 43 0 1 1])]))::(43,.arr e 1 [JAy x])::(900,.yl)::(25,.map es)::Q2 e 0 G,bh⟩:JD).obj (G.length+2000)=none:=by
  show look _ (G.length+2000)=none
  have a1:¬G.length+2000=25:=by omega
  have a2:¬G.length+2000=43:=by omega
  have a3:¬G.length+2000=900:=by omega
  simp only [look,if_neg a1,if_neg a2,if_neg a3]
  exact JNK
 refine JN.trans (JN.ren1 _ 43 (G.length+2000) h0 (by omega) (by omega) (by rw [show (G.length+2000)%1000=G.length by omega,JKi (by omega),JKi (by omega)])) ?_
 have e1:(⟨tm,(25,.map (YG 0 G++[(.int .i64 d,false,[.own 43 0 1 1])]))::(43,.arr e 1 [JAy x])::(900,.yl)::(25,.map es)::Q2 e 0 G,bh⟩:JD).ren1 43 (G.length+2000) =
   ⟨tm,(25,.map (YG 0 G++[(.int .i64 d,false,[.own (G.length+2000) 0 1 1])]))::(G.length+2000,.arr e 1 [JAy x])::(900,.yl)::(25,(AO.map es).ren (r1 43 (G.length+2000)))::Q2 e 0 G,bh⟩:=by
  unfold JD.ren1
  simp only [List.map_cons,htm]
  rw [JN1 (by omega)]
  have hent:=JNz (o:=43) (n:=G.length+2000) (by omega) (G:=G) (j:=0)
  simp only [AO.ren,List.map_append,List.map_cons,List.map_nil,hent]
  rfl
 rw [e1]
 refine JN.ob fun o=>?_
 rw [JSB hf,JMK,JNa]
 simp only [look,Nat.add_zero,Nat.zero_add]
 by_cases h1:o=900
 ·subst h1
  have a3:¬ 900=G.length+2000:=by omega
  simp [a3]
 by_cases h2:o=25
 ·subst h2;simp
 rw [if_neg h1,if_neg h2,if_neg h2,if_neg h1,if_neg h2,JSR]
 by_cases h3:o=G.length+2000
 ·subst h3
  rw [if_pos rfl,JNK]
  simp [look]
 ·rw [if_neg h3]
  cases look (Q2 e 0 G) o with
  |none=>simp [look,h3]
  |some y=>rfl
theorem JST {α:Type}{a b o:Nat}{x y:α}{l:List (Nat × α)}(h:a≠b):look ((a,x)::(b,y)::l) o=look ((b,y)::(a,x)::l) o:=by
 simp only [look]
 by_cases h1:o=a
 ·subst h1;simp [h]
 ·simp [h1]
def JCc (o:Nat):Bool:=JAY o || o==7
theorem JBu (i:Nat):JCc (i+2000)=true:=by unfold JCc;rw [JDG];rfl
theorem JSS {α:Type}{a o:Nat}{x y:α}{l:List (Nat × α)}:look ((a,x)::l) o=look ((a,x)::(a,y)::l) o:=by
 simp only [look]
 split
 ·rfl
 ·rfl
theorem JVG (w:JP)(k:Nat):Zo w k []=[]:=rfl
end Go.Mw.Cd
namespace Go.Mw.Cd
def lexB (w:JP)(x y:Nat):Prop:=(rd w x).day<(rd w y).day∨((rd w x).day=(rd w y).day∧x<y)
theorem JNv {R:Nat→Nat→Prop}(hR:∀x y,R x y→¬R y x):∀ {l m:List Nat},l.Pairwise R→m.Pairwise R→(∀x,x∈l↔x∈m)→l=m
 |[],[],_,_,_=>rfl
 |[],y::m,_,_,h=>by have:=(h y).2 (by simp);simp at this
 |x::l,[],_,_,h=>by have:=(h x).1 (by simp);simp at this
 |x::l,y::m,hl,hm,h=>by
  have hxx:∀z,¬R z z:=fun z hz=>hR z z hz hz
  rw [List.pairwise_cons] at hl hm
  have e:x=y:=by
   rcases List.mem_cons.1 ((h x).1 (by simp)) with e|hx
   ·exact e
   ·rcases List.mem_cons.1 ((h y).2 (by simp)) with e|hy
    ·exact e.symm
    ·exact absurd (hl.1 y hy) (hR _ _ (hm.1 x hx))
  subst e
  have ih:=JNv hR hl.2 hm.2 fun z=>by
   constructor
   ·intro hz
    rcases List.mem_cons.1 ((h z).1 (by simp [hz])) with e|h2
    ·exact absurd (e▸hl.1 z hz) (hxx x)
    ·exact h2
   ·intro hz
    rcases List.mem_cons.1 ((h z).2 (by simp [hz])) with e|h2
    ·exact absurd (e▸hm.1 z hz) (hxx x)
    ·exact h2
  rw [ih]
theorem JSK {w:JP}(x y:Nat)(h:lexB w x y):¬lexB w y x:=by
 unfold lexB at *
 omega
theorem JRg {w:JP}{i:Nat}{out:List Nat}(k:Nat):(Zi w i out)[k]? = if k<Qt w i out out.length then out[k]? else if k=Qt w i out out.length then some i else out[k-1]? :=by
 have hle:=JDn w i out out.length
 unfold Zi
 have hl:(out.take (Qt w i out out.length)).length=Qt w i out out.length:=by simp;omega
 by_cases c1:k<Qt w i out out.length
 ·rw [if_pos c1,List.append_assoc,List.getElem?_append_left (by omega),List.getElem?_take,if_pos c1]
 ·rw [if_neg c1,List.append_assoc,List.getElem?_append_right (by omega),hl]
  by_cases c2:k=Qt w i out out.length
  ·rw [if_pos c2,c2,Nat.sub_self];rfl
  ·rw [if_neg c2,List.getElem?_append_right YF,List.getElem?_drop]
   congr 1
   simp;omega
def JEa (w:JP)(l:List Nat):Prop:=∀(i j a b:Nat),i<j→l[i]? = some a→l[j]? = some b→lexB w a b
theorem JSL {w:JP}{l:List Nat}(h:JEa w l):Asc w l:=fun i j a b hij ha hb=>by
 have:=h i j a b hij ha hb
 unfold lexB at this;omega
theorem JSM {w:JP}{i:Nat}{out:List Nat}(h:JEa w out)(hi:∀x∈out,x<i):JEa w (Zi w i out):=by
 obtain ⟨h1,h2⟩:=JIZ (i:=i) (JSL h) out.length (Nat.le_refl _)
 intro p q a b hpq hp hq
 rw [JRg] at hp hq
 split at hp
 ·split at hq
  ·exact h p q a b hpq hp hq
  ·split at hq
   ·cases hq
    have e1:=h1 p a (by assumption) hp
    have e2:=hi a (List.mem_of_getElem? hp)
    unfold lexB;omega
   ·have:=(List.getElem?_eq_some_iff.1 hq).1
    exact h p (q-1) a b (by omega) hp hq
 ·split at hp
  ·cases hp
   split at hq
   ·omega
   ·split at hq
    ·omega
    ·have:=(List.getElem?_eq_some_iff.1 hq).1
     exact .inl (h2 (q-1) b (by omega) (by omega) hq)
  ·split at hq
   ·omega
   ·split at hq
    ·omega
    ·exact h (p-1) (q-1) a b (by omega) hp hq
theorem JJV (w:JP)(house:Int):∀n,JEa w (J5 w house n)
 |0=>fun i j a b _ h=>by simp [J5] at h
 |n+1=>by
  unfold J5
  split
  ·exact JSM (JJV w house n) fun x hx=>(JEE.1 hx).1
  ·exact JJV w house n
theorem JJU {w:JP}{l:List Nat}:JEa w l↔l.Pairwise (lexB w):=by
 constructor
 ·intro h
  rw [List.pairwise_iff_getElem]
  exact fun i j hi hj hij=>h i j _ _ hij (List.getElem?_eq_getElem hi) (List.getElem?_eq_getElem hj)
 ·intro h i j a b hij ha hb
  rw [List.pairwise_iff_getElem] at h
  obtain ⟨hi,rfl⟩:=List.getElem?_eq_some_iff.1 ha
  obtain ⟨hj,rfl⟩:=List.getElem?_eq_some_iff.1 hb
  exact h i j hi hj hij
theorem JNu (w:JP)(house:Int):(Jo w house).Pairwise (lexB w):=JJU.1 (JJV w house _)
theorem JSj {w:JP}{house:Int}{l:List Nat}(h1:l.Pairwise (lexB w))(h2:∀x,x∈l↔x<w.readings.length∧(rd w x).house=house):Jo w house=l:=
 JNv JSK (JNu w house) h1 fun x=>by rw [JAN,h2]
theorem JLf {a:Nat}:∀ {l:List Nat} {j:Nat},l.Nodup→l[j]? = some a→JAH a l=if j=0 then none else l[j-1]?
 |[],j,_,h=>by simp at h
 |[x],j,_,h=>by
  cases j with
  |zero=>rfl
  |succ j=>simp at h
 |x::y::r,j,hn,h=>by
  unfold JAH
  cases j with
  |zero=>
   simp at h
   subst h
   have hxy:¬y=x:=fun e=>by subst e;simp at hn
   rw [if_neg hxy,if_pos rfl]
   have hn2:x ∉ y::r:=(List.nodup_cons.1 hn).1
   cases hb:JAH x (y::r) with
   |none=>rfl
   |some q=>
    exfalso
    have key:∀ {l:List Nat} {q},JAH x l=some q→x∈l:=fun {l}=>by
     induction l with
     |nil=>intro q h;simp [JAH] at h
     |cons u l ih=>
      cases l with
      |nil=>intro q h;simp [JAH] at h
      |cons v l=>
       intro q h
       unfold JAH at h
       split at h
       ·rename_i e;simp [e]
       ·exact List.mem_cons_of_mem _ (ih h)
    exact hn2 (key hb)
  |succ j=>
   by_cases e:y=a
   ·subst e
    rw [if_pos rfl,if_neg (by omega)]
    have:j=0:=by
     rcases Nat.eq_zero_or_pos j with h0|h0
     ·exact h0
     ·exfalso
      have hn2:=(List.nodup_cons.1 (List.nodup_cons.1 hn).2).1
      obtain ⟨j',rfl⟩:∃j',j=j'+1:=⟨j-1,by omega⟩
      simp at h
      exact hn2 (List.mem_of_getElem? h)
    subst this
    rfl
   ·rw [if_neg e]
    have h':(y::r)[j]? = some a:=by simpa using h
    have hj:j≠0:=fun e0=>by subst e0;simp at h';exact e h'
    rw [JLf (List.nodup_cons.1 hn).2 h',if_neg hj,if_neg (by omega)]
    obtain ⟨j',rfl⟩:∃j',j=j'+1:=⟨j-1,by omega⟩
    simp
theorem JSi (w:JP)(house:Int):(Jo w house).Nodup:=JHN w house _
theorem JPY {w:JP}{a i j x:Nat}(hj:(Jo w (rd w a).house)[j]? = some a)(hi:(Jo w (rd w a).house)[i]? = some x)(hij:i<j):∃p,YR w a=some p∧(rd w x).day≤(rd w p).day:=by
 have hb:YR w a=_:=JLf (JSi w _) hj
 rw [if_neg (by omega)] at hb
 have hjl:=(List.getElem?_eq_some_iff.1 hj).1
 refine ⟨_,hb.trans (List.getElem?_eq_getElem (by omega)),?_⟩
 rcases Nat.lt_or_ge i (j-1) with h|h
 ·exact JIY w _ i (j-1) x _ h hi (List.getElem?_eq_getElem (by omega))
 ·have:i=j-1:=by omega
  subst this
  rw [List.getElem?_eq_getElem (by omega)] at hi
  cases hi
  exact Int.le_refl _
abbrev JD7 (w:JP)(a:Nat)(d:Int):JP:=⟨w.rates,w.readings.set a { rd w a with day:=(rd w a).day-d }⟩
theorem JTZ {w:JP}{l:List YB}{a:Nat}{r:Reading}(ha:a<w.readings.length)(x:Nat):rd ⟨l,w.readings.set a r⟩ x=if x=a then r else rd w x:=by
 unfold rd
 simp only [List.getElem?_set]
 by_cases h:a=x
 ·subst h;simp [ha]
 ·rw [if_neg h,if_neg (fun e=>h e.symm)]
theorem JEO {w:JP}{a:Nat}{d:Int}(ha:a<w.readings.length)(x:Nat):rd (JD7 w a d) x=if x=a then { rd w a with day:=(rd w a).day-d } else rd w x:=JTZ ha x
theorem JJv {w:JP}{a:Nat}{d:Int}(ha:a<w.readings.length)(hd:0≤d)(hb:∀p,YR w a=some p→(rd w p).day<(rd w a).day-d)(house:Int):Jo (JD7 w a d) house=Jo w house:=by
 refine JSj ?_ fun x=>?_
 ·rw [←JJU]
  intro i j x y hij hx hy
  have h:=JJU.2 (JNu w house) i j x y hij hx hy
  unfold lexB at *
  rw [JEO ha,JEO ha]
  by_cases e1:x=a
  ·subst e1
   have e2:¬y=x:=fun e=>by subst e;omega
   rw [if_pos rfl,if_neg e2]
   simp only
   omega
  ·rw [if_neg e1]
   by_cases e2:y=a
   ·subst e2
    rw [if_pos rfl]
    have hh:(rd w y).house=house:=(JAN.1 (List.mem_of_getElem? hy)).2
    subst hh
    obtain ⟨p,hp1,hp2⟩:=JPY hy hx hij
    have:=hb p hp1
    simp only
    omega
   ·rw [if_neg e2];exact h
 ·rw [JAN,JEO ha]
  simp only [List.length_set]
  by_cases e:x=a
  ·subst e;simp
  ·rw [if_neg e]
theorem JVT {s:YB}{a1 b1 a2 b2 a3 b3:Reading}(h0:0≤s.lo)(h0':0≤s.hi)(ha:a1.shows=a2.shows∧a2.shows=a3.shows)(hb:b1.shows=b2.shows∧b2.shows=b3.shows)
  (hm:(b1.day-a1.day≤b2.day-a2.day∧b2.day-a2.day≤b3.day-a3.day)∨(b3.day-a3.day≤b2.day-a2.day∧b2.day-a2.day≤b1.day-a1.day)) (h1:JBA s a1 b1=true) (h3:JBA s a3 b3=true):JBA s a2 b2=true:=by
 simp only [JBA,Bool.and_eq_true,decide_eq_true_eq] at *
 rcases hm with ⟨m1,m2⟩|⟨m1,m2⟩
 ·have e1:=Int.mul_le_mul_of_nonneg_left m2 h0
  have e2:=Int.mul_le_mul_of_nonneg_left m1 h0'
  omega
 ·have e1:=Int.mul_le_mul_of_nonneg_left m2 h0
  have e2:=Int.mul_le_mul_of_nonneg_left m1 h0'
  omega
theorem JLc {w1 w2 w3:JP}{s:YB}(h:∀x y,JBA s (rd w1 x) (rd w1 y)=true→JBA s (rd w3 x) (rd w3 y)=true→JBA s (rd w2 x) (rd w2 y)=true):∀ {l:List Nat},JAF w1 s l=none→JAF w3 s l=none→JAF w2 s l=none
 |[],_,_=>rfl
 |[_],_,_=>rfl
 |a::b::r,h1,h3=>by
  unfold JAF at h1 h3 ⊢
  split at h1
  case isFalse=>cases h1
  split at h3
  case isFalse=>cases h3
  rename_i e1 e3
  rw [if_pos (h a b e1 e3)]
  exact JLc h h1 h3
theorem JI0 {w:JP}:ZP w=true↔∀j,j<w.rates.length→YP w j=none:=by
 constructor
 ·intro h j hj
  unfold ZP at h
  rw [List.all_eq_true] at h
  have:=h j (by simpa using hj)
  cases hb:YP w j<;>simp_all
 ·exact JRQ
theorem JRP {w:JP}{a:Nat}{d1 d2 d3:Int}(hw:QM w=true)(ha:a<w.readings.length)(h0:0≤d1)(h12:d1≤d2)(h23:d2≤d3)(hb:∀p,YR w a=some p→(rd w p).day<(rd w a).day-d3)
  (h1:ZP (JD7 w a d1)=true) (h3:ZP (JD7 w a d3)=true):ZP (JD7 w a d2)=true:=by
 rw [JI0] at *
 intro j hj
 have hr:=JHT hw (i:=j) hj
 have e1:=h1 j hj
 have e3:=h3 j hj
 unfold YP at *
 have g1:=JJv ha h0 (fun p hp=>by have:=hb p hp;omega) (house:=(j:Int)) (w:=w)
 have g2:=JJv ha (d:=d2) (by omega) (fun p hp=>by have:=hb p hp;omega) (house:=(j:Int)) (w:=w)
 have g3:=JJv ha (d:=d3) (by omega) hb (house:=(j:Int)) (w:=w)
 rw [g1] at e1
 rw [g3] at e3
 rw [g2]
 refine JLc (fun x y=>?_) e1 e3
 have hrt:∀d:Int,rt (JD7 w a d) j=rt w j:=fun _=>rfl
 simp only [hrt]
 refine JVT hr.1 (by omega) ?_ ?_ ?_
 ·simp only [JEO ha];by_cases e:x=a<;>simp [e]
 ·simp only [JEO ha];by_cases e:y=a<;>simp [e]
 ·simp only [JEO ha]
  by_cases e:x=a<;>by_cases e':y=a<;>simp only [e,e',if_true,if_false]<;>omega
def JL7 (w:JP)(h:Int):Nat:=(w.readings.filter fun r=>decide (r.house=h)).length
theorem JOy {α:Type}{l:List α}{k:Nat}{a:α}(h:l[k]? = some a):l.take (k+1)=l.take k++[a]:=by
 rw [List.take_add_one,h];rfl
theorem JNF (w:JP)(h:Int):(Jo w h).length=JL7 w h:=by
 have key:∀n,n≤w.readings.length→(J5 w h n).length=((w.readings.take n).filter fun r=>decide (r.house=h)).length:=by
  intro n
  induction n with
  |zero=>intro _;rfl
  |succ n ih=>
   intro hn
   have hg:=ZU (w:=w) (i:=n) (by omega)
   rw [JOy hg,List.filter_append,List.length_append,←ih (by omega)]
   have eo:J5 w h (n+1)=if (rd w n).house=h then Zi w n (J5 w h n) else J5 w h n:=rfl
   rw [eo]
   by_cases e:(rd w n).house=h
   ·rw [if_pos e,JND];simp [e]
   ·rw [if_neg e];simp [e]
 rw [Jo,key _ (Nat.le_refl _),List.take_length];rfl
theorem JG3 {α:Type}(p:α→Bool):∀(l:List α) (a:Nat) (x y:α),l[a]? = some y→p x=p y→((l.set a x).filter p).length=(l.filter p).length
 |[],a,x,y,h,_=>by simp at h
 |z::l,0,x,y,h,e=>by
  simp at h;subst h
  simp only [List.set_cons_zero,List.filter_cons,e]
  split<;>simp
 |z::l,a+1,x,y,h,e=>by
  have ih:=JG3 p l a x y (by simpa using h) e
  simp only [List.set_cons_succ,List.filter_cons]
  split<;>simp [ih]
theorem JNG {w:JP}{r:YL}(hr:JKE w r)(h:Int):(Jo (YK w r) h).length≤(Jo w h).length:=by
 rw [JNF,JNF]
 unfold JL7
 cases r with
 |sw a b=>
  obtain ⟨h1,h2⟩:=hr
  refine Nat.le_of_eq ?_
  show (((w.readings.set a _).set b _).filter _).length=_
  refine (JG3 _ _ b _ (rd w b) ?_ (by rfl)).trans (JG3 _ _ a _ (rd w a) (ZU (by omega)) (by rfl))
  rw [List.getElem?_set_ne (by omega)];exact ZU h2
 |cp a=>
  show ((w.readings.take a++w.readings.drop (a+1)).filter _).length≤_
  have hs:List.Sublist (w.readings.take a++w.readings.drop (a+1)) w.readings:=by
   conv=>rhs;rw [←List.take_append_drop a w.readings]
   exact List.Sublist.append (List.Sublist.refl _) (List.drop_sublist_drop_left _ (Nat.le_succ a))
  exact (hs.filter _).length_le
 |lt a d=>
  obtain ⟨h1,_⟩:=hr
  refine Nat.le_of_eq ?_
  show ((w.readings.set a _).filter _).length=_
  exact JG3 _ _ a _ (rd w a) (ZU h1) (by rfl)
end Go.Mw.Cd
namespace Go.Mw.Cd
def JBK (w:JP)(r:YL):Bool:=(Zj (YK w r)).isNone
def JEH:YL→YM
 |.sw a b=>⟨0,a,b,0⟩
 |.cp a=>⟨1,a,0,0⟩
 |.lt a d=>⟨2,a,d,d⟩
def JCJ (l:List YM)(a d:Nat):List YM:=match l.getLast? with
 |some y=>if y=⟨2,a,y.b,(d:Int)-1⟩ then l.dropLast++[⟨y.kind,y.a,y.b,d⟩] else l++[⟨2,a,d,d⟩]
 |none=>l++[⟨2,a,d,d⟩]
def JAQ (w:JP)(l:List YM)(r:YL):List YM:=if JBK w r=true then (match r with
 |.lt a d=>JCJ l a d
 |r=>l++[JEH r]) else l
def JDv (w:JP):List YM:=(Zw w).foldl (JAQ w) []
theorem JJn {w:JP}:∀ {l:List Nat},JCi w l=none→∀i∈l,YP w i=none
 |[],_,i,hi=>by simp at hi
 |j::l,h,i,hi=>by
  unfold JCi at h
  split at h
  ·cases h
  ·rename_i hb
   rcases List.mem_cons.1 hi with rfl|hi
   ·exact hb
   ·exact JJn h i hi
theorem JJo (w:JP):(Zj w).isNone=ZP w:=by
 cases hf:ZP w with
 |true=>rw [JNV (JI0.1 hf)];rfl
 |false=>
  cases hm:Zj w with
  |some p=>rfl
  |none=>
   exfalso
   have:ZP w=true:=JI0.2 fun j hj=>JJn hm j (by simpa using hj)
   rw [this] at hf;cases hf
theorem JIz (w:JP)(r:YL):JBK w r=ZP (YK w r):=JJo _
def JMp:YL→Bool
 |.lt _ _=>true
 |_=>false
theorem JMf (w:JP):∀(L:List YL) (l:List YM),(∀r∈L,JMp r=false)→L.foldl (JAQ w) l=l++(L.filter (JBK w)).map JEH
 |[],l,_=>by simp
 |r::L,l,h=>by
  rw [List.foldl_cons,JMf w L _ fun x hx=>h x (by simp [hx]),List.filter_cons]
  unfold JAQ
  have hr:=h r (by simp)
  split
  ·cases r with
   |sw a b=>simp
   |cp a=>simp
   |lt a d=>simp [JMp] at hr
  ·rfl
theorem JI4 {α β γ:Type}(f:α→List β)(p:β→Bool)(g:β→γ):∀l:List α,((l.flatMap f).filter p).map g=l.flatMap fun a=>((f a).filter p).map g
 |[]=>rfl
 |a::l=>by simp only [List.flatMap_cons,List.filter_append,List.map_append,JI4 f p g l]
theorem JI3 {α β:Type}{f g:α→List β}:∀ {l:List α},(∀a∈l,f a=g a)→l.flatMap f=l.flatMap g
 |[],_=>rfl
 |a::l,h=>by rw [List.flatMap_cons,List.flatMap_cons,h a (by simp),JI3 fun x hx=>h x (by simp [hx])]
theorem JOs {d:Int}:d*d=1↔d=1∨d=-1:=by
 constructor
 ·intro h
  have h2:(d-1)*(d+1)=0:=by
   have:(d-1)*(d+1)=d*d-1:=by rw [Int.sub_mul,Int.mul_add];omega
   omega
  rcases Int.mul_eq_zero.1 h2 with h|h
  ·exact .inl (by omega)
  ·exact .inr (by omega)
 ·rintro (rfl|rfl)<;>rfl
theorem JJq {a n:Nat}(h:a<n):Q0 (a:Int) 0 ((n:Int)-1)=true:=JCa.2 ⟨by omega,by omega⟩
theorem JVk {w:JP}{a b:Nat}(hab:a<b)(hb:b<w.readings.length) :
  ZV w ⟨0,a,b,0⟩=(decide ((rd w b).day=(rd w a).day)&&(decide (((rd w a).house-(rd w b).house)*((rd w a).house-(rd w b).house)=1)&&ZP (YK w (.sw a b)))):=by
 have h1:=JJq (Nat.lt_trans hab hb)
 have h2:Q0 (b:Int) ((a:Int)+1) ((w.readings.length:Int)-1)=true:=JCa.2 ⟨by omega,by omega⟩
 unfold ZV JHL
 simp only [h1,h2,Int.toNat_natCast,Bool.true_eq_false,if_false,if_true]
 by_cases hd:(rd w b).day=(rd w a).day
 ·by_cases hh:((rd w a).house-(rd w b).house)*((rd w a).house-(rd w b).house)=1
  ·have hh':=JOs.1 hh
   rw [if_neg (by omega)]
   have e1:decide ((rd w b).day=(rd w a).day)=true:=by simpa using hd
   have e2:decide (((rd w a).house-(rd w b).house)*((rd w a).house-(rd w b).house)=1)=true:=by simpa using hh
   rw [e1,e2]
   rfl
  ·have hh':¬((rd w a).house-(rd w b).house=1∨(rd w a).house-(rd w b).house=-1):=fun h=>hh (JOs.2 h)
   rw [if_pos (by omega)]
   simp [hh]
 ·rw [if_pos (.inl fun e=>hd e.symm)]
  simp [hd]
theorem JVi {w:JP}{a:Nat}(ha:a<w.readings.length):ZV w ⟨1,a,0,0⟩=(match YR w a with
  |some p=>decide ((rd w p).shows=(rd w a).shows)&&ZP (YK w (.cp a))
  |none=>false):=by
 have h1:=JJq ha
 unfold ZV JHL
 simp only [h1,Int.toNat_natCast,Bool.true_eq_false,if_false]
 rw [if_neg (by decide),if_pos trivial]
 cases YR w a with
 |none=>rfl
 |some p=>
  simp only
  by_cases h:(rd w p).shows=(rd w a).shows
  ·rw [if_pos h];simp only [h,decide_true,Bool.true_and];rfl
  ·rw [if_neg h];simp [h]
theorem JKt {w:JP}{a d:Nat}(ha:a<w.readings.length)(hd:1≤d):ZV w ⟨2,a,d,0⟩=(YT w a d&&ZP (YK w (.lt a d))):=by
 have h1:=JJq ha
 unfold ZV JHL YT
 simp only [h1,Int.toNat_natCast,Bool.true_eq_false,if_false]
 rw [if_neg (by decide),if_neg (by decide),if_pos trivial]
 have hm:decide ((d:Int)≤min 30 (rd w a).day)=true↔(d:Int)≤30∧0≤(rd w a).day-d:=by
  rw [decide_eq_true_iff]
  omega
 by_cases hc:Q0 (d:Int) 1 30=true∧0≤(rd w a).day-d∧∀p,YR w a=some p→(rd w p).day<(rd w a).day-d
 ·rw [if_pos hc]
  have e1:=hm.2 ⟨(JCa.1 hc.1).2,hc.2.1⟩
  rw [e1]
  cases hb:YR w a with
  |none=>rfl
  |some p=>
   have:=hc.2.2 p hb
   have e2:decide ((rd w a).day-d>(rd w p).day)=true:=by simpa using this
   simp only [e2,Bool.true_and];rfl
 ·rw [if_neg hc]
  symm
  rw [Bool.and_eq_false_iff,Bool.and_eq_false_iff]
  left
  rcases Bool.eq_false_or_eq_true (decide ((d:Int)≤min 30 (rd w a).day)) with e|e
  ·right
   have e1:=hm.1 e
   cases hb:YR w a with
   |none=>exact absurd ⟨JCa.2 ⟨by omega,e1.1⟩,e1.2,fun p hp=>by rw [hb] at hp;cases hp⟩ hc
   |some p=>
    simp only
    rw [decide_eq_false_iff_not]
    intro h
    exact hc ⟨JCa.2 ⟨by omega,e1.1⟩,e1.2,fun q hq=>by rw [hb] at hq;cases hq;omega⟩
  ·exact .inl e
theorem JTV {n a:Nat}(h:a<n):List.range n=List.range' 0 (a+1)++List.range' (a+1) (n-(a+1)):=by
 have:=List.range'_append_1 (s:=0) (m:=a+1) (n:=n-(a+1))
 rw [Nat.zero_add,show a+1+(n-(a+1))=n by omega] at this
 rw [this,List.range_eq_range']
theorem filter_nil {α:Type}{p:α→Bool}{l:List α}(h:∀x∈l,p x=false):l.filter p=[]:=by
 rw [List.filter_eq_nil_iff]
 exact fun x hx=>by rw [h x hx];exact Bool.false_ne_true
theorem JMU {α:Type}{p q:α→Bool}:∀ {l:List α},(∀x∈l,p x=q x)→l.filter p=l.filter q
 |[],_=>rfl
 |a::l,h=>by rw [List.filter_cons,List.filter_cons,h a (by simp),JMU fun x hx=>h x (by simp [hx])]
theorem JVL {w:JP}{a:Nat}(ha:a<w.readings.length):((Zo w a (Yu w (rd w a).day w.readings.length)).filter (JBK w)).map JEH=swA w a:=by
 unfold Zo Yu swA swB
 rw [List.filter_filter,List.filter_map,List.map_map,List.filter_filter]
 rw [JTV ha,List.filter_append,filter_nil (l:=List.range' 0 (a+1)),List.nil_append]
 ·rw [JMU (q:=fun (b:Nat)=>ZV w ⟨0,(a:Int),(b:Int),0⟩)]
  ·rfl
  ·intro b hb
   have:=List.mem_range'_1.1 hb
   rw [JVk (by omega) (by omega)]
   simp only [Function.comp,JIz]
   have:decide (a<b)=true:=by simp;omega
   rw [this]
   simp only [Bool.true_and]
   cases ZP (YK w (.sw a b))<;>cases decide ((rd w b).day=(rd w a).day)<;>simp
 ·intro b hb
  have:=List.mem_range'_1.1 hb
  have:decide (a<b)=false:=by simp;omega
  simp [this]
theorem JVM (w:JP):((JAS w 0 w.readings.length).filter (JBK w)).map JEH=swN w w.readings.length:=by
 unfold JAS swN
 rw [JI4,List.range_eq_range']
 exact JI3 fun a ha=>JVL (by have:=List.mem_range'_1.1 ha;omega)
theorem JMe {α β:Type}(p:α→Bool)(g:α→β):∀l:List α,(l.flatMap fun a=>if p a=true then [g a] else [])=(l.filter p).map g
 |[]=>rfl
 |a::l=>by
  rw [List.flatMap_cons,JMe p g l,List.filter_cons]
  split<;>simp
theorem JQx {w:JP}{a:Nat}(ha:a<w.readings.length):((JBG w a).filter (JBK w)).map JEH=if ZV w ⟨1,a,0,0⟩=true then [⟨1,a,0,0⟩] else []:=by
 rw [JVi ha]
 unfold JBG
 cases YR w a with
 |none=>rfl
 |some p=>
  simp only
  by_cases h:(rd w p).shows=(rd w a).shows
  ·rw [if_pos h,List.filter_cons,JIz]
   simp only [h,decide_true,Bool.true_and,List.filter_nil]
   split<;>rfl
  ·rw [if_neg h];simp [h]
theorem JQy (w:JP):((Yz w 0 w.readings.length).filter (JBK w)).map JEH=cpN w w.readings.length:=by
 unfold Yz cpN
 rw [JI4,List.range_eq_range',←JMe]
 exact JI3 fun a ha=>JQx (by have:=List.mem_range'_1.1 ha;omega)
theorem JM6 {w:JP}{a d e:Nat}(h:YT w a e=true)(hde:d≤e):YT w a d=true:=by
 unfold YT at *
 rw [Bool.and_eq_true,decide_eq_true_iff] at *
 refine ⟨by omega,?_⟩
 cases hb:YR w a with
 |none=>rfl
 |some p=>
  have:=h.2
  rw [hb] at this
  simp only [decide_eq_true_iff] at *
  omega
theorem JJM (w:JP)(a:Nat):∀f d,Z7 w a f d=((List.range' d f).filter (YT w a)).map (YL.lt a)
 |0,_=>rfl
 |f+1,d=>by
  unfold Z7
  rw [List.range'_succ,List.filter_cons]
  split
  ·rw [JJM w a f (d+1)];rfl
  ·rename_i h
   rw [filter_nil]
   ·rfl
   ·intro x hx
    have:=List.mem_range'_1.1 hx
    rw [←Bool.not_eq_true]
    exact fun hc=>h (JM6 hc (by omega))
theorem JVj {w:JP}(hw:QM w=true){a d e f:Nat}(ha:a<w.readings.length)(hd:1≤d)(hde:d≤e)(hef:e≤f)(h1:ZV w ⟨2,a,d,0⟩=true)(h3:ZV w ⟨2,a,f,0⟩=true):ZV w ⟨2,a,e,0⟩=true:=by
 rw [JKt ha (by omega),Bool.and_eq_true] at *
 refine ⟨JM6 h3.1 hef,?_⟩
 refine JRP hw ha (d1:=(d:Int)) (d3:=(f:Int)) (by omega) (by omega) (by omega) (fun p hp=>?_) h1.2 h3.2
 have:=h3.1
 unfold YT at this
 rw [hp,Bool.and_eq_true] at this
 simpa using this.2
def Zn (w:JP)(a j:Nat):List YM:=match ltD w a j with
 |[]=>[]
 |d::r=>[⟨2,a,d,JFV (d::r)⟩]
theorem JTW (j:Nat):List.range' 1 (j+1)=List.range' 1 j++[1+j]:=List.range'_1_concat
theorem JM7 {w:JP}(hw:QM w=true){a:Nat}(ha:a<w.readings.length){l:List YM}(hl:∀y∈l,¬(y.kind=2∧y.a=a)) :
  ∀j,(((List.range' 1 j).filter (YT w a)).map (YL.lt a)).foldl (JAQ w) l=l++Zn w a j
 |0=>by simp [Zn,ltD]
 |j+1=>by
  have ih:=JM7 hw ha hl j
  rw [JTW,List.filter_append,List.map_append,List.foldl_append,ih]
  have hs:=JJh w a j
  have hwk:=JKt (w:=w) (a:=a) (d:=1+j) ha (by omega)
  by_cases ho:YT w a (1+j)=true
  ·have e1:List.filter (YT w a) [1+j]=[1+j]:=by simp [ho]
   rw [e1]
   show JAQ w (l++Zn w a j) (.lt a (1+j))=_
   unfold JAQ
   rw [JIz]
   by_cases hf:ZP (YK w (.lt a (1+j)))=true
   ·have hwt:ZV w ⟨2,a,((1+j:Nat):Int),0⟩=true:=by rw [hwk,ho,hf];rfl
    rw [if_pos hf]
    rw [if_pos hwt] at hs
    simp only
    cases hd:ltD w a j with
    |nil=>
     have er:Zn w a j=[]:=by unfold Zn;rw [hd]
     have er2:Zn w a (j+1)=[⟨2,a,((1+j:Nat):Int),((1+j:Nat):Int)⟩]:=by unfold Zn;rw [hs,hd];rfl
     rw [er,er2,List.append_nil]
     unfold JCJ
     cases hg:l.getLast? with
     |none=>rfl
     |some y=>
      simp only
      rw [if_neg]
      intro hy
      have hy2:=List.mem_of_getLast? hg
      exact hl y hy2 (by rw [hy];exact ⟨rfl,rfl⟩)
    |cons d r=>
     have hdm:=JSV (w:=w) (a:=a) (j:=j) (d:=d) (by rw [hd];simp)
     have hdw:ZV w ⟨2,a,(d:Int),0⟩=true:=by
      have:d∈ltD w a j:=by rw [hd];simp
      unfold ltD at this
      exact (List.mem_filter.1 this).2
     obtain ⟨j',rfl⟩:∃j',j=j'+1:=⟨j-1,by omega⟩
     have hjw:ZV w ⟨2,a,((1+j':Nat):Int),0⟩=true:=JVj hw ha (d:=d) (f:=1+(j'+1)) hdm.1 (by omega) (by omega) hdw hwt
     have hs':=JJh w a j'
     rw [if_pos hjw] at hs'
     have hlast:JFV (d::r)=((1+j':Nat):Int):=by rw [←hd,hs',JM3]
     have er:Zn w a (j'+1)=[⟨2,a,d,((1+j':Nat):Int)⟩]:=by unfold Zn;rw [hd];simp only [hlast]
     have er2:Zn w a (j'+1+1)=[⟨2,a,d,((1+(j'+1):Nat):Int)⟩]:=by
      have e3:ltD w a (j'+1+1)=d::(r++[1+(j'+1)]):=by rw [hs,hd];rfl
      unfold Zn
      rw [e3]
      simp only
      have e4:=JM3 (d::r) (1+(j'+1))
      rw [List.cons_append] at e4
      rw [e4]
     rw [er,er2]
     unfold JCJ
     rw [List.getLast?_concat]
     simp only
     rw [if_pos]
     ·rw [List.dropLast_concat]
     ·have:((1+j':Nat):Int)=((1+(j'+1):Nat):Int)-1:=by omega
      rw [this]
   ·have hwf:¬ZV w ⟨2,a,((1+j:Nat):Int),0⟩=true:=by rw [hwk,Bool.and_eq_true];exact fun h=>hf h.2
    rw [if_neg hf]
    rw [if_neg hwf,List.append_nil] at hs
    unfold Zn
    rw [hs]
  ·have e1:List.filter (YT w a) [1+j]=[]:=by simp [ho]
   have hwf:¬ZV w ⟨2,a,((1+j:Nat):Int),0⟩=true:=by rw [hwk,Bool.and_eq_true];exact fun h=>ho h.1
   rw [if_neg hwf,List.append_nil] at hs
   rw [e1]
   unfold Zn
   rw [hs]
   rfl
theorem JTv {w:JP}{a:Nat}(ha:a<w.readings.length):Zn w a 31=ltA w a:=by
 have hs:=JJh w a 30
 have hwk:=JKt (w:=w) (a:=a) (d:=1+30) ha (by omega)
 have ho:YT w a (1+30)=false:=by
  unfold YT
  rw [Bool.and_eq_false_iff,decide_eq_false_iff_not]
  left;omega
 rw [ho,Bool.false_and] at hwk
 rw [if_neg (by rw [hwk];exact Bool.false_ne_true),List.append_nil] at hs
 have e:Zn w a 31=Zn w a 30:=by
  unfold Zn
  rw [show (31:Nat)=30+1 from rfl,hs]
 rw [e]
 unfold Zn ltA
 first|rfl|(cases ltD w a 30<;>rfl)
theorem JSU {w:JP}{a:Nat}{y:YM}(h:y∈ltA w a):y.kind=2∧y.a=a:=by
 unfold ltA at h
 split at h
 ·cases h
 ·simp at h;subst h;exact ⟨rfl,rfl⟩
theorem JM8 {w:JP}(hw:QM w=true):∀(m k:Nat) (l:List YM),k+m≤w.readings.length→(∀y∈l,y.kind=2→y.a<k)→(ZS w k m).foldl (JAQ w) l=l++(List.range' k m).flatMap (ltA w)
 |0,_,l,_,_=>by simp [ZS]
 |m+1,k,l,hk,hl=>by
  have e:ZS w k (m+1)=Z7 w k 31 1++ZS w (k+1) m:=by unfold ZS;rw [List.range'_succ];simp
  rw [e,List.foldl_append,JJM,JM7 hw (by omega) (fun y hy h=>by have:=hl y hy h.1;omega),JTv (by omega),JM8 hw m (k+1) _ (by omega),List.range'_succ,List.flatMap_cons,List.append_assoc]
  intro y hy h2
  rcases List.mem_append.1 hy with hy|hy
  ·have:=hl y hy h2;omega
  ·have:=(JSU hy).2;omega
theorem JRH {w:JP}(hw:QM w=true):JDv w=JBo w:=by
 unfold JDv Zw
 rw [←List.append_assoc,List.foldl_append,JMf w (JAS w 0 w.readings.length++Yz w 0 w.readings.length)]
 ·rw [List.filter_append,List.map_append,JVM,JQy,List.nil_append,JM8 hw _ _ _ (by omega),JBo,ltN,List.range_eq_range']
  intro y hy h2
  exfalso
  rcases List.mem_append.1 hy with hy|hy
  ·unfold swN at hy
   obtain ⟨a,_,hy⟩:=List.mem_flatMap.1 hy
   unfold swA swB at hy
   obtain ⟨b,_,rfl⟩:=List.mem_map.1 hy
   simp at h2
  ·unfold cpN at hy
   obtain ⟨b,_,rfl⟩:=List.mem_map.1 hy
   simp at h2
 ·intro r hr
  rcases List.mem_append.1 hr with hr|hr
  ·unfold JAS at hr
   obtain ⟨a,_,hr⟩:=List.mem_flatMap.1 hr
   unfold Zo at hr
   obtain ⟨b,_,rfl⟩:=List.mem_map.1 hr
   rfl
  ·unfold Yz at hr
   obtain ⟨a,_,hr⟩:=List.mem_flatMap.1 hr
   unfold JBG at hr
   split at hr
   ·split at hr
    ·simp at hr;subst hr;rfl
    ·cases hr
   ·cases hr
def Qs (w:JP)(k:Nat):List YM:=((Zw w).take k).foldl (JAQ w) []
theorem JRJ (w:JP):Qs w 0=[]:=rfl
theorem JIt {w:JP}{k:Nat}{r:YL}(h:(Zw w)[k]? = some r):Qs w (k+1)=JAQ w (Qs w k) r:=by
 unfold Qs;rw [JOy h,List.foldl_append];rfl
theorem JRI (w:JP):Qs w (Zw w).length=JDv w:=by unfold Qs JDv;rw [List.take_length]
theorem JSC (l:List YM)(a d:Nat):(JCJ l a d).length≤l.length+1:=by
 unfold JCJ
 split
 ·split
  ·simp only [List.length_append,List.length_dropLast,List.length_singleton];omega
  ·simp
 ·simp
theorem JSH (w:JP)(l:List YM)(r:YL):(JAQ w l r).length≤l.length+1:=by
 unfold JAQ
 split
 ·split
  ·exact JSC _ _ _
  ·simp
 ·omega
theorem JJR (w:JP):∀k,k≤(Zw w).length→(Qs w k).length≤k
 |0,_=>by simp [Qs]
 |k+1,h=>by
  have ih:=JJR w k (by omega)
  rw [JIt (List.getElem?_eq_getElem (by omega))]
  have:=JSH w (Qs w k) (Zw w)[k]
  omega
theorem JHH {α β:Type}{f:α→List β}{n:Nat}(h:∀a,(f a).length≤n):∀l:List α,(l.flatMap f).length≤l.length*n
 |[]=>by simp
 |a::l=>by
  have ih:=JHH h l
  have:=h a
  rw [List.flatMap_cons,List.length_append,List.length_cons,Nat.succ_mul];omega
theorem JNE (w:JP)(a:Nat):∀f d,(Z7 w a f d).length≤f
 |0,_=>Nat.le_refl 0
 |f+1,d=>by
  unfold Z7
  split
  ·have:=JNE w a f (d+1);simp;omega
  ·simp
theorem JSG {w:JP}(h:w.readings.length≤24):(Zw w).length≤2000:=by
 have b1:(JAS w 0 w.readings.length).length≤w.readings.length*24:=by
  have:=JHH (f:=fun a=>Zo w a (Yu w (rd w a).day w.readings.length)) (n:=24) (fun a=>by
   unfold Zo Yu
   rw [List.length_map]
   have e1:=List.length_filter_le (fun b=>decide ((rd w b).day=(rd w a).day)) (List.range w.readings.length)
   have e2:=List.length_filter_le (fun b=>decide (a<b)&&decide (((rd w a).house-(rd w b).house)*((rd w a).house-(rd w b).house)=1)) (List.filter (fun b=>decide ((rd w b).day=(rd w a).day)) (List.range w.readings.length))
   rw [List.length_range] at e1
   omega) (List.range' 0 w.readings.length)
  rw [List.length_range'] at this
  exact this
 have b2:(Yz w 0 w.readings.length).length≤w.readings.length*1:=by
  have:=JHH (f:=JBG w) (n:=1) (fun a=>by
   unfold JBG
   split
   ·split<;>simp
   ·simp) (List.range' 0 w.readings.length)
  rw [List.length_range'] at this
  exact this
 have b3:(ZS w 0 w.readings.length).length≤w.readings.length*31:=by
  have:=JHH (f:=fun a=>Z7 w a 31 1) (n:=31) (fun a=>JNE w a 31 1) (List.range' 0 w.readings.length)
  rw [List.length_range'] at this
  exact this
 unfold Zw
 rw [List.length_append,List.length_append]
 omega
theorem JN3 {w:JP}{r:YL}(h:r∈Zw w):JKE w r∧∀a d,r=.lt a d→(d:Int)≤(rd w a).day:=by
 unfold Zw at h
 rw [List.mem_append,List.mem_append] at h
 rcases h with h|h|h
 ·unfold JAS at h
  obtain ⟨a,ha,h⟩:=List.mem_flatMap.1 h
  unfold Zo at h
  obtain ⟨b,hb,rfl⟩:=List.mem_map.1 h
  obtain ⟨hb1,hb2⟩:=List.mem_filter.1 hb
  rw [Bool.and_eq_true,decide_eq_true_iff] at hb2
  exact ⟨⟨hb2.1,(JJm.1 hb1).1⟩,fun _ _ h=>by cases h⟩
 ·unfold Yz at h
  obtain ⟨a,ha,h⟩:=List.mem_flatMap.1 h
  have:=List.mem_range'_1.1 ha
  unfold JBG at h
  split at h
  ·split at h
   ·simp at h;subst h
    exact ⟨show a<w.readings.length by omega,fun _ _ h=>by cases h⟩
   ·cases h
  ·cases h
 ·unfold ZS at h
  obtain ⟨a,ha,h⟩:=List.mem_flatMap.1 h
  have:=List.mem_range'_1.1 ha
  rw [JJM] at h
  obtain ⟨d,hd,rfl⟩:=List.mem_map.1 h
  obtain ⟨_,hd2⟩:=List.mem_filter.1 hd
  unfold YT at hd2
  rw [Bool.and_eq_true,decide_eq_true_iff] at hd2
  refine ⟨⟨by omega,by omega⟩,fun a' d' h=>?_⟩
  cases h
  omega
theorem JVg {w:JP}{r:YL}(hw:QM w=true)(h:r∈Zw w):QM (YK w r)=true∧(YK w r).rates=w.rates∧(YK w r).readings.length≤w.readings.length:=by
 have hlen:=(JDW hw).2.2
 obtain ⟨hr,hd⟩:=JN3 h
 cases r with
 |sw a b=>
  obtain ⟨h1,h2⟩:=hr
  have hra:=JEP.1 (JJ9 hw (i:=a) (by omega))
  have hrb:=JEP.1 (JJ9 hw h2)
  refine ⟨JKp hw (by simpa using hlen) fun r hr=>?_,rfl,by simp [YK]⟩
  rcases List.mem_or_eq_of_mem_set hr with hr|rfl
  ·rcases List.mem_or_eq_of_mem_set hr with hr|rfl
   ·exact JFi hw hr
   ·exact JEP.2 ⟨hra.1,hra.2.1,hrb.2.2⟩
  ·exact JEP.2 ⟨hrb.1,hrb.2.1,hra.2.2⟩
 |cp a=>
  refine ⟨JKp hw YF fun r hr=>?_,rfl,by simp [YK];omega⟩
  rcases List.mem_append.1 hr with hr|hr
  ·exact JFi hw (List.mem_of_mem_take hr)
  ·exact JFi hw (List.mem_of_mem_drop hr)
 |lt a d=>
  obtain ⟨h1,_⟩:=hr
  have hra:=JEP.1 (JJ9 hw h1)
  have:=hd a d rfl
  refine ⟨JKp hw (by simpa using hlen) fun r hr=>?_,rfl,by simp [YK]⟩
  rcases List.mem_or_eq_of_mem_set hr with hr|rfl
  ·exact JFi hw hr
  ·exact JEP.2 ⟨hra.1,⟨by simp only;omega,by simp only;omega⟩,hra.2.2⟩
theorem JRM {w:JP}(h:¬(ZH w).2.2=0):JBJ w=([],(ZH w).2.2):=by
 have hm:=JJo w
 unfold ZH at h ⊢
 unfold JBJ
 by_cases hw:QM w=true
 ·rw [if_pos hw] at h ⊢
  rw [if_pos hw]
  cases hq:Zj w with
  |none=>
   rw [hq] at hm
   have hf:ZP w=true:=hm.symm
   rw [if_pos hf]
  |some p=>rw [hq] at h;simp at h
 ·rw [if_neg hw,if_neg hw]
theorem JSc {w:JP}(h:(ZH w).2.2=0):QM w=true∧ZP w=false:=by
 have hm:=JJo w
 unfold ZH at h
 by_cases hw:QM w=true
 ·rw [if_pos hw] at h
  refine ⟨hw,?_⟩
  cases hq:Zj w with
  |none=>rw [hq] at h;simp at h
  |some p=>rw [hq] at hm;exact hm.symm
 ·rw [if_neg hw] at h;simp at h
theorem JR8 {α:Type}{l:List α}{y z:α}(h:l.getLast? = some y):l.dropLast++[z]=l.set (l.length-1) z:=by
 have hne:l≠[]:=fun e=>by subst e;simp at h
 have e:l=l.dropLast++[y]:=by
  rw [List.getLast?_eq_some_getLast hne] at h
  cases h
  exact (List.dropLast_concat_getLast hne).symm
 generalize hq:l.dropLast=q at e
 subst e
 simp
end Go.Mw.Cd
namespace Go.Mw.Cd
section mg
variable {α:Type} (lt:α→α→Bool)
def mg:List α→List α→List α
 |[],r=>r
 |a::l,[]=>a::l
 |a::l,b::r=>if lt b a=true then b::mg (a::l) r else a::mg l (b::r)
termination_by l r=>l.length+r.length
variable {lt}
theorem JBN (l:List α):mg lt l []=l:=by
 cases l with
 |nil=>rw [mg]
 |cons a l=>rw [mg]
theorem JA4 (r:List α):mg lt [] r=r:=by rw [mg]
theorem JEG {a b:α}{l r:List α}(h:lt b a=true):mg lt (a::l) (b::r)=b::mg lt (a::l) r:=by rw [mg,if_pos h]
theorem JEF {a b:α}{l r:List α}(h:lt b a=false):mg lt (a::l) (b::r)=a::mg lt l (b::r):=by rw [mg,if_neg (by simp [h])]
theorem JCh:∀(l r:List α),(mg lt l r).length=l.length+r.length
 |[],r=>by rw [JA4];simp
 |a::l,[]=>by rw [JBN];simp
 |a::l,b::r=>by
  cases h:lt b a with
  |true=>rw [JEG h,List.length_cons,JCh (a::l) r];simp;omega
  |false=>rw [JEF h,List.length_cons,JCh l (b::r)];simp;omega
termination_by l r=>l.length+r.length
theorem JBd:∀(l1 r1:List α) {l2 r2:List α},(∀x∈l1,∀y∈r2,lt y x=false)→(∀x∈l2,∀y∈r1,lt y x=true)→mg lt (l1++l2) (r1++r2)=mg lt l1 r1++mg lt l2 r2
 |[],[],l2,r2,_,_=>by rw [JA4];rfl
 |[],b::r1,l2,r2,h1,h2=>by
  have ih:=JBd [] r1 (l2:=l2) (r2:=r2) (fun x hx=>by simp at hx) fun x hx y hy=>h2 x hx y (by simp [hy])
  rw [JA4,List.nil_append] at *
  cases l2 with
  |nil=>rw [JA4,JA4]
  |cons a l2=>
   have:=h2 a (by simp) b (by simp)
   rw [List.cons_append,JEG this,ih];rfl
 |a::l1,[],l2,r2,h1,h2=>by
  have ih:=JBd l1 [] (l2:=l2) (r2:=r2) (fun x hx y hy=>h1 x (by simp [hx]) y hy) (fun x _ y hy=>by simp at hy)
  rw [JBN,List.nil_append] at *
  cases r2 with
  |nil=>rw [JBN,JBN]
  |cons b r2=>
   have:=h1 a (by simp) b (by simp)
   rw [List.cons_append,JEF this,ih];rfl
 |a::l1,b::r1,l2,r2,h1,h2=>by
  cases h:lt b a with
  |true=>
   have ih:=JBd (a::l1) r1 (l2:=l2) (r2:=r2) h1 fun x hx y hy=>h2 x hx y (by simp [hy])
   rw [List.cons_append,List.cons_append,JEG h,JEG h,←List.cons_append,ih];rfl
  |false=>
   have ih:=JBd l1 (b::r1) (l2:=l2) (r2:=r2) (fun x hx y hy=>h1 x (by simp [hx]) y hy) h2
   rw [List.cons_append,List.cons_append,JEF h,JEF h,←List.cons_append,ih];rfl
termination_by l1 r1=>l1.length+r1.length
def YA (lt:α→α→Bool)(l:List α):Prop:=l.Pairwise fun x y=>lt y x=false
structure YZ (lt:α→α→Bool):Prop where
 irr:∀x,lt x x=false
 tr:∀x y z,lt x y=true→lt y z=true→lt x z=true
 nt:∀x y z,lt x y=false→lt y z=false→lt x z=false
theorem YZ.asym (h:YZ lt){x y:α}(hxy:lt x y=true):lt y x=false:=by
 cases hc:lt y x with
 |false=>rfl
 |true=>have:=h.tr x y x hxy hc;rw [h.irr] at this;cases this
theorem YZ.le_lt (h:YZ lt){x y z:α}(h1:lt x z=false)(h2:lt x y=true):lt z y=true:=by
 cases hc:lt z y with
 |true=>rfl
 |false=>have:=h.nt x z y h1 hc;rw [h2] at this;cases this
theorem YZ.lt_le (h:YZ lt){x y z:α}(h1:lt x y=true)(h2:lt z y=false):lt x z=true:=by
 cases hc:lt x z with
 |true=>rfl
 |false=>have:=h.nt x z y hc h2;rw [h1] at this;cases this
theorem JOP (h:YZ lt){x:α}{l:List α}(ho:YA lt l):∀n,n≤l.length→(∀y∈(l.take n).take (Yp lt x l n),lt x y=false)∧(∀y∈(l.take n).drop (Yp lt x l n),lt x y=true)
 |0,_=>by simp
 |n+1,hn=>by
  have hx:l[n]? = some l[n]:=List.getElem?_eq_getElem (by omega)
  have ih:=JOP h (x:=x) ho n (by omega)
  have hle:=JKS (lt:=lt) x l n
  have ht:l.take (n+1)=l.take n++[l[n]]:=by rw [List.take_add_one,hx];rfl
  have hl:(l.take n).length=n:=by simp;omega
  cases hc:lt x l[n] with
  |true=>
   rw [JHb hx hc,ht]
   refine ⟨fun y hy=>?_,fun y hy=>?_⟩
   ·rw [List.take_append_of_le_length (by omega)] at hy
    exact ih.1 y hy
   ·rw [List.drop_append_of_le_length (by omega)] at hy
    rcases List.mem_append.1 hy with hy|hy
    ·exact ih.2 y hy
    ·rw [List.mem_singleton.1 hy];exact hc
  |false=>
   rw [JHa hx hc,ht]
   refine ⟨fun y hy=>?_,fun y hy=>?_⟩
   ·rw [List.take_of_length_le YF] at hy
    rcases List.mem_append.1 hy with hy|hy
    ·obtain ⟨i,hi⟩:=List.getElem?_of_mem hy
     rw [List.getElem?_take] at hi
     split at hi
     ·rename_i hin
      obtain ⟨q1,q2⟩:=List.getElem?_eq_some_iff.1 hi
      have:=List.pairwise_iff_getElem.1 ho i n q1 (by omega) hin
      rw [q2] at this
      exact h.nt x l[n] y hc this
     ·cases hi
    ·rw [List.mem_singleton.1 hy];exact hc
   ·rw [List.drop_of_length_le YF] at hy
    simp at hy
theorem JJF (h:YZ lt){x:α}{l:List α}(ho:YA lt l):∃l1 l2,l=l1++l2∧JAX lt x l=l1++[x]++l2∧(∀y∈l1,lt x y=false)∧(∀y∈l2,lt x y=true):=by
 have hc:=JOP h (x:=x) ho l.length (Nat.le_refl _)
 rw [List.take_length] at hc
 exact ⟨l.take (Yp lt x l l.length),l.drop (Yp lt x l l.length),(List.take_append_drop _ _).symm,rfl,hc.1,hc.2⟩
theorem JRv {x:α}:∀ {l2 l1:List α},(∀y∈l1,lt x y=false)→(∀y∈l2,lt x y=true)→JAX lt x (l1++l2)=l1++[x]++l2:=by
 intro l2 l1 h1 h2
 have key:∀n,n≤l2.length→Yp lt x (l1++l2) (l1.length+n)=l1.length:=by
  intro n
  induction n with
  |zero=>
   intro _
   rw [Nat.add_zero]
   cases hl:l1.length with
   |zero=>rfl
   |succ m=>
    have hm:m<l1.length:=by omega
    have hg:(l1++l2)[m]? = some l1[m]:=by rw [List.getElem?_append_left hm];exact List.getElem?_eq_getElem hm
    exact JHa hg (h1 _ (List.getElem_mem hm))
  |succ n ih=>
   intro hn
   have hg:(l1++l2)[l1.length+n]? = some l2[n]:=by rw [List.getElem?_append_right (by omega),Nat.add_sub_cancel_left];exact List.getElem?_eq_getElem (by omega)
   rw [←Nat.add_assoc,JHb hg (h2 _ (List.getElem_mem (by omega)))]
   exact ih (by omega)
 unfold JAX
 rw [List.length_append,key _ (Nat.le_refl _),List.take_left,List.drop_left]
theorem JRs (h:YZ lt){x:α}{l:List α}(ho:YA lt l):YA lt (JAX lt x l):=by
 obtain ⟨l1,l2,rfl,e,h1,h2⟩:=JJF h (x:=x) ho
 rw [e]
 unfold YA at *
 rw [List.pairwise_append] at ho
 rw [List.append_assoc,List.pairwise_append]
 refine ⟨ho.1,?_,fun y hy z hz=>?_⟩
 ·show ((x::l2)).Pairwise _
  rw [List.pairwise_cons]
  exact ⟨fun y hy=>h.asym (h2 y hy),ho.2.1⟩
 ·rcases List.mem_append.1 hz with hz|hz
  ·rw [List.mem_singleton.1 hz];exact h1 y hy
  ·exact ho.2.2 y hy z hz
theorem JOn {p:List α→Prop}(h0:p [])(h1:∀l x,p l→p (l++[x])):∀l,p l:=by
 intro l
 have:∀n (l:List α),l.length=n→p l:=by
  intro n
  induction n with
  |zero=>intro l hl;rw [List.eq_nil_of_length_eq_zero hl];exact h0
  |succ n ih=>
   intro l hl
   have hne:l≠[]:=fun e=>by subst e;simp at hl
   rw [←List.dropLast_concat_getLast hne]
   exact h1 _ _ (ih _ YF)
 exact this _ l rfl
theorem JHD (h:YZ lt):∀l:List α,YA lt (QH lt l):=by
 refine JOn (by unfold YA QH;simp) fun l x ih=>?_
 rw [JDD]
 exact JRs h ih
theorem JRx (h:YZ lt){x:α}{l r:List α}(hl:YA lt l)(hr:YA lt r):JAX lt x (mg lt l r)=mg lt l (JAX lt x r):=by
 obtain ⟨l1,l2,rfl,-,a1,a2⟩:=JJF h (x:=x) hl
 obtain ⟨r1,r2,rfl,e,b1,b2⟩:=JJF h (x:=x) hr
 have hmem:∀(l r:List α) (y:α),y∈mg lt l r→y∈l∨y∈r:=by
  intro l r
  induction l,r using mg.induct (lt:=lt) with
  |case1 r=>intro y hy;rw [JA4] at hy;exact .inr hy
  |case2 a l=>intro y hy;rw [JBN] at hy;exact .inl hy
  |case3 a l b r hc ih=>
   intro y hy
   rw [JEG hc] at hy
   rcases List.mem_cons.1 hy with rfl|hy
   ·exact .inr (by simp)
   ·rcases ih y hy with h|h
    ·exact .inl h
    ·exact .inr (by simp [h])
  |case4 a l b r hc ih=>
   intro y hy
   rw [JEF (by simpa using hc)] at hy
   rcases List.mem_cons.1 hy with rfl|hy
   ·exact .inl (by simp)
   ·rcases ih y hy with h|h
    ·exact .inl (by simp [h])
    ·exact .inr h
 have c1:∀u∈l1,∀v∈r2,lt v u=false:=fun u hu v hv=>h.nt v x u (h.asym (b2 v hv)) (a1 u hu)
 have c2:∀u∈l2,∀v∈r1,lt v u=true:=fun u hu v hv=>h.le_lt (b1 v hv) (a2 u hu)
 rw [e,JBd l1 r1 c1 c2,JRv]
 ·have e1:mg lt l1 (r1++[x])=mg lt l1 r1++[x]:=by
   have:=JBd (lt:=lt) l1 r1 (l2:=[]) (r2:=[x]) (fun u hu v hv=>by rw [List.mem_singleton.1 hv];exact a1 u hu) (fun u hu=>by simp at hu)
   rw [List.append_nil,JA4] at this
   exact this
  rw [JBd l1 (r1++[x]) c1 (fun u hu v hv=>by
   rcases List.mem_append.1 hv with hv|hv
   ·exact c2 u hu v hv
   ·rw [List.mem_singleton.1 hv];exact a2 u hu),e1]
 ·intro y hy
  rcases hmem _ _ _ hy with hy|hy
  ·exact a1 y hy
  ·exact b1 y hy
 ·intro y hy
  rcases hmem _ _ _ hy with hy|hy
  ·exact a2 y hy
  ·exact b2 y hy
theorem JU0 (h:YZ lt)(l:List α):∀m:List α,QH lt (l++m)=mg lt (QH lt l) (QH lt m):=by
 refine JOn (by rw [List.append_nil];exact (JBN _).symm) fun m x ih=>?_
 rw [←List.append_assoc,JDD,JDD,ih,JRx h (JHD h l) (JHD h m)]
end mg
end Go.Mw.Cd
namespace Go.Mw.Cd
section
variable {α:Type}
def Yh (p u m v q:List α)(k:Nat):List α:=p++((v.take k++u.drop k)++(m++((u.take k++v.drop k)++q)))
theorem JKh (p u m v q:List α):Yh p u m v q 0=p++(u++(m++(v++q))):=by simp [Yh]
theorem JKf {p u m v q:List α}(h:u.length=v.length):Yh p u m v q u.length=p++(v++(m++(u++q))):=by
 unfold Yh
 rw [List.take_of_length_le (by omega),List.drop_of_length_le (Nat.le_refl _),List.take_length,h,List.drop_of_length_le (Nat.le_refl _)]
 simp
theorem JKg {p u m v q:List α}{k:Nat}(h:u.length=v.length):(Yh p u m v q k).length=p.length+u.length+m.length+v.length+q.length:=by
 unfold Yh
 simp
 omega
theorem JVD {p u m v q:List α}{k:Nat}{x:α}(h:u.length=v.length)(hx:u[k]? = some x):(Yh p u m v q k)[p.length+k]? = some x:=by
 have hk:=(List.getElem?_eq_some_iff.1 hx).1
 unfold Yh
 rw [List.getElem?_append_right (by omega),Nat.add_sub_cancel_left,List.getElem?_append_left YF,List.getElem?_append_right YF,List.getElem?_drop]
 rw [show k+(k-(v.take k).length)=k by simp;omega];exact hx
theorem JVE {p u m v q:List α}{k:Nat}{y:α}(h:u.length=v.length)(hy:v[k]? = some y):(Yh p u m v q k)[p.length+u.length+m.length+k]? = some y:=by
 have hk:=(List.getElem?_eq_some_iff.1 hy).1
 unfold Yh
 have e1:(v.take k++u.drop k).length=u.length:=by simp;omega
 rw [List.getElem?_append_right (by omega),List.getElem?_append_right (by rw [e1];omega),List.getElem?_append_right (by rw [e1];omega),List.getElem?_append_left (by rw [e1];simp;omega),List.getElem?_append_right (by rw [e1];simp;omega),List.getElem?_drop]
 rw [show k+(p.length+u.length+m.length+k-p.length-(v.take k++u.drop k).length-m.length-(u.take k).length)=k by rw [e1];simp;omega];exact hy
theorem JVF {p u m v q:List α}{k:Nat}{x y:α}(h:u.length=v.length)(hx:u[k]? = some x)(hy:v[k]? = some y) :
  ((Yh p u m v q k).set (p.length+k) y).set (p.length+u.length+m.length+k) x=Yh p u m v q (k+1):=by
 have hk:=(List.getElem?_eq_some_iff.1 hx).1
 have du:u.drop k=x::u.drop (k+1):=by
  obtain ⟨h1,rfl⟩:=List.getElem?_eq_some_iff.1 hx
  exact (List.getElem_cons_drop h1).symm
 have dv:v.drop k=y::v.drop (k+1):=by
  obtain ⟨h1,rfl⟩:=List.getElem?_eq_some_iff.1 hy
  exact (List.getElem_cons_drop h1).symm
 have tu:u.take (k+1)=u.take k++[x]:=by rw [List.take_add_one,hx];rfl
 have tv:v.take (k+1)=v.take k++[y]:=by rw [List.take_add_one,hy];rfl
 have lu:(u.take k).length=k:=by simp;omega
 have lv:(v.take k).length=k:=by simp;omega
 have ld:(u.drop (k+1)).length=u.length-(k+1):=by simp
 have key:∀(a b:List α) (z z':α) (n:Nat),a.length=n→(a++z::b).set n z'=a++z'::b:=by
  intro a b z z' n hn
  rw [List.set_append_right _ _ (by omega),←hn,Nat.sub_self];rfl
 have e1:Yh p u m v q k=(p++v.take k)++x::(u.drop (k+1)++(m++(u.take k++y::(v.drop (k+1)++q)))):=by
  unfold Yh;rw [du,dv];simp
 have e2:(p++v.take k)++y::(u.drop (k+1)++(m++(u.take k++y::(v.drop (k+1)++q))))=(p++v.take k++y::(u.drop (k+1)++(m++u.take k)))++y::(v.drop (k+1)++q):=by simp
 rw [e1,key _ _ _ _ _ YF,e2,key _ _ _ _ _ YF]
 unfold Yh
 rw [tu,tv];simp
theorem JIo {l:List α}{n:Nat}(h:n≤l.length):∃a b,l=a++b∧a.length=n∧b.length=l.length-n:=⟨l.take n,l.drop n,(List.take_append_drop n l).symm,by simp;omega,by simp⟩
variable {lt:α→α→Bool}
theorem JVN (hw:YZ lt){l1 l2 r1 r2:List α}(hl:YA lt (l1++l2))(hr:YA lt (r1++r2))(hA:∀x y,l1.getLast? = some x→r2[0]? = some y→lt y x=false)(hB:∀x y,l2[0]? = some x→r1.getLast? = some y→lt y x=true) :
  mg lt (l1++l2) (r1++r2)=mg lt l1 r1++mg lt l2 r2:=by
 unfold YA at hl hr
 rw [List.pairwise_append] at hl hr
 have last_le:∀ {l:List α} {z:α},l.Pairwise (fun x y=>lt y x=false)→l.getLast? = some z→∀x∈l,lt z x=false:=by
  intro l z hp hz x hx
  have hne:l≠[]:=fun e=>by subst e;simp at hx
  rw [List.getLast?_eq_some_getLast hne] at hz
  have hs:=(List.dropLast_concat_getLast hne).symm
  rw [hs] at hx hp
  rcases List.mem_append.1 hx with hx|hx
  ·have:=(List.pairwise_append.1 hp).2.2 x hx _ (List.mem_singleton.2 rfl)
   cases hz;exact this
  ·rw [List.mem_singleton.1 hx];cases hz;exact hw.irr _
 have head_le:∀ {l:List α} {z:α},l.Pairwise (fun x y=>lt y x=false)→l[0]? = some z→∀x∈l,lt x z=false:=by
  intro l z hp hz x hx
  cases l with
  |nil=>simp at hx
  |cons a l=>
   simp at hz
   subst hz
   rcases List.mem_cons.1 hx with rfl|hx
   ·exact hw.irr _
   ·exact (List.pairwise_cons.1 hp).1 x hx
 refine JBd l1 r1 (fun x hx y hy=>?_) (fun x hx y hy=>?_)
 ·obtain ⟨x',hx'⟩:∃x',l1.getLast? = some x':=⟨_,List.getLast?_eq_some_getLast (fun e=>by subst e;simp at hx)⟩
  obtain ⟨y',hy'⟩:∃y',r2[0]? = some y':=by
   cases r2 with
   |nil=>simp at hy
   |cons b r=>exact ⟨b,rfl⟩
  have h1:=last_le hl.1 hx' x hx
  have h2:=head_le hr.2.1 hy' y hy
  exact hw.nt _ _ _ (hw.nt _ _ _ h2 (hA _ _ hx' hy')) h1
 ·obtain ⟨y',hy'⟩:∃y',r1.getLast? = some y':=⟨_,List.getLast?_eq_some_getLast (fun e=>by subst e;simp at hy)⟩
  obtain ⟨x',hx'⟩:∃x',l2[0]? = some x':=by
   cases l2 with
   |nil=>simp at hx
   |cons b r=>exact ⟨b,rfl⟩
  have h1:=last_le hr.1 hy' y hy
  have h2:=head_le hl.2.1 hx' x hx
  exact hw.lt_le (hw.le_lt h1 (hB _ _ hx' hy')) h2
end
end Go.Mw.Cd
namespace Go.Mw.Cd
section
variable {α:Type} {lt:α→α→Bool}
theorem JNT {l:List α}{n:Nat}{x:α}(h:x∈l.take n):∃k,k<n∧l[k]? = some x:=by
 obtain ⟨i,hi⟩:=List.getElem?_of_mem h
 rw [List.getElem?_take] at hi
 split at hi
 ·exact ⟨i,by assumption,hi⟩
 ·cases hi
theorem JNS {l:List α}{n:Nat}{x:α}(h:x∈l.drop n):∃k,n≤k∧l[k]? = some x:=by
 obtain ⟨i,hi⟩:=List.getElem?_of_mem h
 rw [List.getElem?_drop] at hi
 exact ⟨n+i,by omega,hi⟩
theorem JSY {x:α}{r:List α}{s:Nat}(h1:∀k y,k<s→r[k]? = some y→lt y x=true)(h2:∀k y,s≤k→r[k]? = some y→lt y x=false):mg lt [x] r=r.take s++[x]++r.drop s:=by
 have h:=JBd (lt:=lt) [] (r.take s) (l2:=[x]) (r2:=r.drop s) (fun x hx=>by simp at hx) fun u hu v hv=>by
  obtain ⟨k,hk,hg⟩:=JNT hv
  rw [List.mem_singleton.1 hu];exact h1 k v hk hg
 rw [List.nil_append,List.take_append_drop,JA4] at h
 rw [h,List.append_assoc]
 congr 1
 cases hd:r.drop s with
 |nil=>rw [JBN];rfl
 |cons y d=>
  have hy:lt y x=false:=by
   obtain ⟨k,hk,hg⟩:=JNS (l:=r) (n:=s) (x:=y) (by rw [hd];simp)
   exact h2 k y hk hg
  rw [JEF hy,JA4];rfl
theorem JSZ {y:α}{l:List α}{s:Nat}(h1:∀k x,k<s→l[k]? = some x→lt y x=false)(h2:∀k x,s≤k→l[k]? = some x→lt y x=true):mg lt l [y]=l.take s++[y]++l.drop s:=by
 have h:=JBd (lt:=lt) (l.take s) [] (l2:=l.drop s) (r2:=[y]) (fun u hu v hv=>by
  obtain ⟨k,hk,hg⟩:=JNT hu
  rw [List.mem_singleton.1 hv];exact h1 k u hk hg) fun u hu v hv=>by simp at hv
 rw [List.nil_append,List.take_append_drop,JBN] at h
 rw [h,List.append_assoc]
 congr 1
 cases hd:l.drop s with
 |nil=>rw [JA4];rfl
 |cons x d=>
  have hx:lt y x=true:=by
   obtain ⟨k,hk,hg⟩:=JNS (l:=l) (n:=s) (x:=x) (by rw [hd];simp)
   exact h2 k x hk hg
  rw [JEG hx,JBN];rfl
theorem JRp {l:List α}(h:YA lt l){i j:Nat}{x y:α}(hij:i<j)(hx:l[i]? = some x)(hy:l[j]? = some y):lt y x=false:=by
 obtain ⟨h1,rfl⟩:=List.getElem?_eq_some_iff.1 hx
 obtain ⟨h2,rfl⟩:=List.getElem?_eq_some_iff.1 hy
 exact List.pairwise_iff_getElem.1 h i j h1 h2 hij
theorem JCb (hw:YZ lt){l:List α}(h:YA lt l){i j:Nat}{x y:α}(hij:i≤j)(hx:l[i]? = some x)(hy:l[j]? = some y):lt y x=false:=by
 rcases Nat.lt_or_eq_of_le hij with h1|rfl
 ·exact JRp h h1 hx hy
 ·rw [hx] at hy;cases hy;exact hw.irr _
theorem JRt (hw:YZ lt){r:List α}(hr:YA lt r){h:Nat}{x y:α}(hy:r[h]? = some y)(hlt:lt y x=true):∀k z,k<h+1→r[k]? = some z→lt z x=true:=
 fun k z hk hz=>hw.le_lt (JCb hw hr (by omega) hz hy) hlt
theorem JRq (hw:YZ lt){r:List α}(hr:YA lt r){h:Nat}{x y:α}(hy:r[h]? = some y)(hlt:lt y x=false):∀k z,h≤k→r[k]? = some z→lt z x=false:=
 fun k z hk hz=>hw.nt _ _ _ (JCb hw hr hk hy hz) hlt
theorem JRu (hw:YZ lt){l:List α}(hl:YA lt l){h:Nat}{x y:α}(hx:l[h]? = some x)(hlt:lt y x=false):∀k z,k<h+1→l[k]? = some z→lt y z=false:=
 fun k z hk hz=>hw.nt _ _ _ hlt (JCb hw hl (by omega) hz hx)
theorem JRr (hw:YZ lt){l:List α}(hl:YA lt l){h:Nat}{x y:α}(hx:l[h]? = some x)(hlt:lt y x=true):∀k z,h≤k→l[k]? = some z→lt y z=true:=
 fun k z hk hz=>hw.lt_le hlt (JCb hw hl hk hx hz)
theorem JVQ (hw:YZ lt){l r:List α}(hl:YA lt l)(hr:YA lt r){a mid cc:Nat}{x y:α}(hac:a≤cc)(hcm:cc<mid)(hx:l[cc-a]? = some x)(hy:r[mid-1-cc]? = some y)(h:lt y x=false) :
  ∀c x' y',a≤c→c<cc+1→l[c-a]? = some x' → r[mid-1-c]? = some y' → lt y' x'=false:=
 fun c x' y' h1 h2 hx' hy'=>hw.nt _ _ _ (hw.nt _ _ _ (JCb hw hr (by omega) hy hy') h) (JCb hw hl (by omega) hx' hx)
theorem JVP (hw:YZ lt){l r:List α}(hl:YA lt l)(hr:YA lt r){a mid cc:Nat}{x y:α}(hac:a≤cc)(hcm:cc<mid)(hx:l[cc-a]? = some x)(hy:r[mid-1-cc]? = some y)(h:lt y x=true) :
  ∀c x' y',cc≤c→l[c-a]? = some x' → r[mid-1-c]? = some y' → lt y' x'=true:=
 fun c x' y' h1 hx' hy'=>hw.lt_le (hw.le_lt (JCb hw hr (by omega) hy' hy) h) (JCb hw hl (by omega) hx hx')
def JF3 (a m b mid s0 r0:Nat):Prop:=(mid<m∧s0=mid+m-b∧r0=mid)∨(m≤mid∧s0=a∧r0=m)
theorem JVO (hw:YZ lt){l r:List α}{a mid s s0 r0:Nat}(hl:YA lt l)(hr:YA lt r)(h2l:2≤l.length)(h2r:2≤r.length)(hmid:mid=(a+(a+l.length+r.length)) / 2)(hB:JF3 a (a+l.length) (a+l.length+r.length) mid s0 r0)(hs:s0≤s∧s≤r0)
  (hlo:∀c x y,s0≤c→c<s→l[c-a]? = some x→r[mid-1-c]? = some y→lt y x=false) (hhi:∀c x y,s≤c→c<r0→l[c-a]? = some x→r[mid-1-c]? = some y→lt y x=true) :
  (a≤s∧s≤a+l.length∧s≤mid∧mid-s≤r.length)∧mg lt l r=mg lt (l.take (s-a)) (r.take (mid-s))++mg lt (l.drop (s-a)) (r.drop (mid-s)):=by
 unfold JF3 at hB
 have hb:a≤s∧s≤a+l.length∧s≤mid∧mid-s≤r.length:=by omega
 refine ⟨hb,?_⟩
 have key:=JVN hw (l1:=l.take (s-a)) (l2:=l.drop (s-a)) (r1:=r.take (mid-s)) (r2:=r.drop (mid-s)) (by rw [List.take_append_drop];exact hl) (by rw [List.take_append_drop];exact hr) (fun x y hx hy=>?_) (fun x y hx hy=>?_)
 ·rw [List.take_append_drop,List.take_append_drop] at key
  exact key
 ·rw [List.getLast?_eq_getElem?,List.getElem?_take] at hx
  have hlen:(l.take (s-a)).length=s-a:=by simp;omega
  rw [hlen] at hx
  split at hx
  ·rename_i hlt
   rw [List.getElem?_drop,Nat.add_zero] at hy
   have hyl:=(List.getElem?_eq_some_iff.1 hy).1
   refine hlo (s-1) x y (by omega) (by omega) ?_ ?_
   ·rw [show s-1-a=s-a-1 by omega];exact hx
   ·rw [show mid-1-(s-1)=mid-s by omega];exact hy
  ·cases hx
 ·rw [List.getElem?_drop,Nat.add_zero] at hx
  have hxl:=(List.getElem?_eq_some_iff.1 hx).1
  rw [List.getLast?_eq_getElem?,List.getElem?_take] at hy
  have hlen:(r.take (mid-s)).length=mid-s:=by simp;omega
  rw [hlen] at hy
  split at hy
  ·refine hhi s x y (Nat.le_refl _) (by omega) hx ?_
   rw [show mid-1-s=mid-s-1 by omega];exact hy
  ·cases hy
theorem JPG {p t r:List α}{x y:α}{c:Nat}(h:t[c]? = some y):(Lt p t r x c)[p.length+c+1]? = some y:=by
 have hc:c<t.length:=(List.getElem?_eq_some_iff.1 h).1
 have hd:t.drop c=y::t.drop (c+1):=by
  obtain ⟨hk,rfl⟩:=List.getElem?_eq_some_iff.1 h
  exact (List.getElem_cons_drop hk).symm
 unfold Lt
 have h1:(t.take c).length=c:=by simp;omega
 rw [hd,List.append_assoc,List.append_assoc,List.append_assoc,List.getElem?_append_right (by omega),List.getElem?_append_right (by omega),h1,show p.length+c+1-p.length-c=1 by omega]
 rfl
theorem JPE {p t r:List α}{x y:α}{c:Nat}(h:t[c]? = some y):((Lt p t r x c).set (p.length+c) y).set (p.length+c+1) x=Lt p t r x (c+1):=by
 have hc:c<t.length:=(List.getElem?_eq_some_iff.1 h).1
 have hd:t.drop c=y::t.drop (c+1):=by
  obtain ⟨hk,rfl⟩:=List.getElem?_eq_some_iff.1 h
  exact (List.getElem_cons_drop hk).symm
 have ht:t.take (c+1)=t.take c++[y]:=by rw [List.take_add_one,h];rfl
 have key:∀(a b:List α) (z z':α) (n:Nat),a.length=n→(a++z::b).set n z'=a++z'::b:=by
  intro a b z z' n hn
  rw [List.set_append_right _ _ (by omega),←hn,Nat.sub_self];rfl
 have e1:Lt p t r x c=(p++t.take c)++x::(y::(t.drop (c+1)++r)):=by unfold Lt;rw [hd];simp
 have e2:(p++t.take c)++y::(y::(t.drop (c+1)++r))=(p++t.take c++[y])++y::(t.drop (c+1)++r):=by simp
 rw [e1,key _ _ _ _ _ YF,e2,key _ _ _ _ _ YF]
 unfold Lt
 rw [ht];simp
theorem JJB {p l r q:List α}{c:Nat}{x:α}(h:l[c]? = some x):(p++(l++(r++q)))[p.length+c]? = some x:=by
 have hc:=(List.getElem?_eq_some_iff.1 h).1
 rw [List.getElem?_append_right (by omega),Nat.add_sub_cancel_left,List.getElem?_append_left hc];exact h
theorem JJC {p l r q:List α}{c:Nat}{x:α}(h:r[c]? = some x):(p++(l++(r++q)))[p.length+l.length+c]? = some x:=by
 have hc:=(List.getElem?_eq_some_iff.1 h).1
 rw [List.getElem?_append_right (by omega),List.getElem?_append_right (by omega),List.getElem?_append_left (by omega)]
 rw [show p.length+l.length+c-p.length-l.length=c by omega];exact h
end
end Go.Mw.Cd
namespace Go.Mw.Cd
open Go.Proofs
theorem JGi (n l h:Int):Jf Tryz.prog 42 [.int n,.int l,.int h] (.bool (Q0 n l h)) []:=by
 refine Jq Jj Tryz.func42 rfl (by simp only [List.length_cons,List.length_nil,Tryz.ntmps42];omega) JL rfl ?_
 refine JB.reg ?_
 refine JA.o ?_
 refine JA.nil (JB.reg ?_)
 iterate 4 (refine JA.o ?_)
 iterate 3 (refine JA.gop JF JF JF ?_)
 iterate 2 (refine JA.o ?_)
 refine JA.nil ?_
 exact Ends.fin [] (rs:=[.tmp 6]) rfl JF Y3
theorem JDr (n l h:Int):Jf Tryz.prog 57 [.int n,.int l,.int h] (.bool (Q0 n l h)) []:=by
 refine Jq Jj Tryz.func57 rfl (by simp only [List.length_cons,List.length_nil,Tryz.ntmps57];omega) JL rfl ?_
 refine JB.reg ?_
 refine JA.o ?_
 refine JA.nil (JB.reg ?_)
 iterate 4 (refine JA.o ?_)
 iterate 3 (refine JA.gop JF JF JF ?_)
 iterate 2 (refine JA.o ?_)
 refine JA.nil ?_
 exact Ends.fin [] (rs:=[.tmp 6]) rfl JF Y3
theorem JQZ (w:JP)(h1:w.rates.length≤1000)(h2:w.readings.length≤1000):Jf Tryz.prog 13 [JAU w] (.bool (QM w)) []:=by
 refine Jq Jj Tryz.func13 rfl (by simp only [List.length_cons,List.length_nil,Tryz.ntmps13];omega) JL rfl ?_
 refine JB.reg ?_
 iterate 2 (refine JA.o ?_)
 refine JA.nil (JB.assocS (JB.reg ?_))
 refine JA.o ?_
 refine JA.nil (JB.blk ?_)
 refine JB.forA [1,3] [1] (w.rates.length) (fun k=>[.slot 3 (.int k)]) (fun k=>(w.rates.take k).all JA8=true) (fun k=>by simp only [go_sem]<;>rfl) JF ?_ (fun k hk hX=>?_)
 ·rfl
 ·skip
  refine JB.assocS (JB.reg ?_)
  iterate 5 (refine JA.o ?_)
  refine JA.nil ?_
  refine JB.cndS JF (fun hb11=>?_) (fun hb11=>?_)
  ·skip
   have hlt:=Yo hb11
   have hs:=JHY hlt
   refine JB.skipS (JB.blk (JB.reg ?_))
   have X:=Fx.mk hs
   iterate 3 (refine JA.o1 JC ?_)
   refine JA.o1 QG ?_
   iterate 3 (refine JA.o1 JC ?_)
   refine JA.nil (JB.reg ?_)
   iterate 4 (refine JA.o1 JC ?_)
   iterate 5 (refine JA.gop JF JC JF ?_)
   iterate 2 (refine JA.o1 JC ?_)
   iterate 3 (refine JA.gop JF JC JF ?_)
   refine JA.o1 JC ?_
   refine JA.nil ?_
   refine JB.cnd JC (fun hb33=>?_) (fun hb33=>?_)
   ·skip
    have hr:QM w=false:=by rw [QM,JLX hs (by simp [JA8,hb33])];rfl
    refine JB.reg ?_
    have X:=X.a hr
    refine JA.o1 JC ?_
    refine JA.nil (JR.ret (JU.ret (JR.ret ?_)))
    exact Ends.fin [] (rs:=[.tmp 2]) rfl JC Qk
   ·skip
    refine JR.nrm (JB.reg1 ?_)
    refine JA.o1 JC ?_
    refine JA.o1 Jx ?_
    refine JA.o1 JC ?_
    refine JA.nil ?_
    refine JU.nxt ?_ ?_ ?_
    ·omega
    ·exact JN.kp [1,3] [1] Yi
    ·exact JLW hX hs (by simpa [JA8] using hb33)
  ·skip
   have hr1:=JLV hX (Ys hb11)
   refine JB.exitS (JU.ext (JR.hit (JB.assocS (JB.reg ?_))))
   refine JA.o ?_
   refine JA.nil (JB.blk ?_)
   refine JB.forA [1,5] [1] (w.readings.length) (fun k=>[.slot 5 (.int k)]) (fun k=>(w.readings.take k).all (Zl w.rates.length)=true) (fun k=>by simp only [go_sem]<;>rfl) JF ?_ (fun k hk hX=>?_)
   ·rfl
   ·skip
    refine JB.assocS (JB.reg ?_)
    iterate 5 (refine JA.o ?_)
    refine JA.nil ?_
    refine JB.cndS JF (fun hb38=>?_) (fun hb38=>?_)
    ·skip
     have hlt:=Yo hb38
     have hs:=ZU hlt
     refine JB.skipS (JB.blk (JB.reg ?_))
     have X:=Fx.mk hs
     iterate 3 (refine JA.o1 JC ?_)
     refine JA.o1 QG ?_
     iterate 3 (refine JA.o1 JC ?_)
     refine JA.nil (JB.reg ?_)
     iterate 5 (refine JA.o1 JC ?_)
     refine JA.o1 Jx ?_
     refine JA.c1 (JGi _ _ _) JC JC ?_
     iterate 2 (refine JA.o1 JC ?_)
     iterate 2 (refine JA.gop JF JC JF ?_)
     refine JA.gcal JF (JGi _ _ _) Jr JC V23 JC ?_
     refine JA.gop JF JC JF ?_
     iterate 2 (refine JA.o1 JC ?_)
     iterate 2 (refine JA.gop JF JC JF ?_)
     refine JA.gcal JF (JGi _ _ _) Jr JC V23 JC ?_
     refine JA.gop JF JC JF ?_
     refine JA.o1 JC ?_
     refine JA.nil ?_
     refine JB.cnd JC (fun hb65=>?_) (fun hb65=>?_)
     ·skip
      have hr:QM w=false:=by rw [QM,hr1,JLX hs (by revert hb65;cases h1:Q0 (rd w k).house 0 (↑w.rates.length-1)<;>cases h2:Q0 (rd w k).day 0 131072<;>cases h3:Q0 (rd w k).shows 0 1073741824<;>simp [Zl,h1,h2,h3])];rfl
      refine JB.reg ?_
      have X:=X.a hr
      refine JA.o1 JC ?_
      refine JA.nil (JR.ret (JU.ret (JR.ret ?_)))
      exact Ends.fin [] (rs:=[.tmp 2]) rfl JC Qk
     ·skip
      refine JR.nrm (JB.reg1 ?_)
      refine JA.o1 JC ?_
      refine JA.o1 Jx ?_
      refine JA.o1 JC ?_
      refine JA.nil ?_
      refine JU.nxt ?_ ?_ ?_
      ·omega
      ·exact JN.kp [1,5] [1] Yi
      ·exact JLW hX hs (by simpa [Zl,and_assoc] using hb65)
    ·skip
     have hr:QM w=(Q0 w.rates.length 1 8&&decide ((w.readings.length:Int)≤24)):=by rw [QM,hr1,JLV hX (Ys hb38)];simp
     refine JB.exitS (JU.ext (JR.hit (JB.reg ?_)))
     have X:=Fx.mk hr
     iterate 3 (refine JA.o1 JC ?_)
     refine JA.c1 (JGi _ _ _) JC JC ?_
     refine JA.o1 JC ?_
     iterate 4 (refine JA.gop JF JC JF ?_)
     iterate 2 (refine JA.o1 JC ?_)
     refine JA.nil ?_
     exact Ends.fin [] (rs:=[.tmp 2]) rfl JC Qk
end Go.Mw.Cd
namespace Go.Mw.Cd
open Go.Proofs
theorem JLz (w:JP)(house:Int)(h1:w.rates.length≤1000)(h2:w.readings.length≤1000):Jf Tryz.prog 15 [JAU w,.int house] (.leaf (.d (JNW (Jo w house)))) []:=by
 refine Jq Jj Tryz.func15 rfl (by simp only [List.length_cons,List.length_nil,Tryz.ntmps15];omega) JL rfl ?_
 refine JB.reg ?_
 iterate 2 (refine JA.o ?_)
 refine JA.nil (JB.reg ?_)
 refine JA.o ?_
 refine JA.nil (JB.assocS (JB.reg ?_))
 refine JA.nild 5 1 JF JF ?_
 refine JA.o ?_
 refine JA.nil (JB.blk ?_)
 refine JB.forA [1,2,5,6] [2] (w.readings.length) (fun k=>[.slot 6 (.int k),.slot 5 (.leaf (.d (JNW (J5 w house k))))]) (fun _=>True) (fun k=>by simp only [go_sem]<;>rfl) JF ?_ (fun k hk hX=>?_)
 ·trivial
 ·skip
  refine JB.assocS (JB.reg ?_)
  iterate 5 (refine JA.o ?_)
  refine JA.nil ?_
  refine JB.cndS JF (fun hb12=>?_) (fun hb12=>?_)
  ·skip
   have hlt:=Yo hb12
   have hs:=ZU hlt
   have hol:=JHI w house k
   refine JB.skipS (JB.blk (JB.assocS (JB.reg ?_)))
   have X:=Fx.mk hs
   iterate 3 (refine JA.o1 JC ?_)
   refine JA.o1 QG ?_
   iterate 4 (refine JA.o1 JC ?_)
   refine JA.nil ?_
   refine JB.cndS JC (fun hb22=>?_) (fun hb22=>?_)
   ·skip
    have e:J5 w house (k+1)=J5 w house k:=by rw [J5,if_neg (by simpa using hb22)]
    refine JB.exitS (JR.hit (JB.reg1 ?_))
    have X:=X.a e
    refine JA.o1 JC ?_
    refine JA.o1 Jx ?_
    refine JA.o1 JC ?_
    refine JA.nil ?_
    refine JU.nxt ?_ ?_ ?_
    ·omega
    ·exact JN.kp [1,2,5,6] [2] Yi
    ·trivial
   ·skip
    have hh:(rd w k).house=house:=by simpa using hb22
    refine JB.skipS (JB.reg ?_)
    iterate 3 (refine JA.o1 JC ?_)
    refine JA.nil (JB.blk ?_)
    refine JB.forA [1,2,5,6,7] [2] ((J5 w house k).length) (fun j=>[.slot 7 (.int (((J5 w house k).length:Int)-(j:Int)))]) (fun j=>Qt w k (J5 w house k) (J5 w house k).length=Qt w k (J5 w house k) ((J5 w house k).length-j)) (fun j=>by simp only [go_sem]<;>rfl) (by simp only [go_sem,Int.sub_zero,Int.natCast_zero]<;>rfl) ?_ (fun j hj Xj=>?_)
    ·rfl
    ·skip
     refine JB.assocS ?_
     by_cases hjl:j<(J5 w house k).length
     ·skip
      have hg:decide (((J5 w house k).length:Int)-(j:Int)>0)=true:=by simp;omega
      have hLj:(J5 w house k).length-j=((J5 w house k).length-(j+1))+1:=by omega
      obtain ⟨x,hx⟩:∃x,(J5 w house k)[(J5 w house k).length-(j+1)]? = some x:=⟨_,List.getElem?_eq_getElem (by omega)⟩
      have hget:(J5 w house k)[(J5 w house k).length-(j+1)]?.getD 0=x:=by rw [hx];rfl
      have hxl:=(JEE.1 (List.mem_of_getElem? hx)).1
      have hsx:=ZU (w:=w) (i:=x) (by omega)
      have htn:(((J5 w house k).length:Int)-(j:Int)-1).toNat=(J5 w house k).length-(j+1):=by omega
      refine JB.opk 23 ?_
      have X:=(((X.a hg).a hx).a hsx).a htn
      iterate 3 (refine JG.o1 JC ?_)
      iterate 4 (refine JG.y1 JC ?_)
      refine JG.y1 Jx ?_
      refine JG.y1 QG ?_
      refine JG.y1 JC ?_
      refine JG.y1 QG ?_
      iterate 5 (refine JG.y1 JC ?_)
      refine JG.y1 QG ?_
      iterate 3 (refine JG.y1 JC ?_)
      refine JG.o1 JC ?_
      refine JG.nil (QK.finT JL JL JL ?_)
      refine JB.cndS JC (fun hb45=>?_) (fun hb45=>?_)
      ·skip
       have hXn:Qt w k (J5 w house k) (J5 w house k).length=Qt w k (J5 w house k) ((J5 w house k).length-(j+1)):=by rw [Xj,hLj,Qt,if_pos (by rw [hget];simpa using hb45)]
       have hz:((J5 w house k).length:Int)-(j:Int)-1=((J5 w house k).length:Int)-((j+1:Nat):Int):=by omega
       refine JB.skipS (JB.blk1 (JB.reg1 ?_))
       refine JA.o1 JC ?_
       refine JA.o1 Jx ?_
       refine JA.o1 JC ?_
       refine JA.nil (QA.nrm ?_)
       refine JU.nxt ?_ ?_ ?_
       ·omega
       ·exact JN.kp [1,2,5,6,7] [2] Yi
       ·exact hXn
      ·skip
       have hat:((J5 w house k).length:Int)-(j:Int)=((Qt w k (J5 w house k) (J5 w house k).length:Nat):Int):=by rw [Xj,hLj,Qt,if_neg (by rw [hget];simpa using hb45)];omega
       have hal:=JDn w k (J5 w house k) (J5 w house k).length
       refine JB.exitS (JU.ext (JR.hit ?_))
       rw [hat]
       refine JB.opk1 15 ?_
       iterate 3 (refine JG.o1 JC ?_)
       refine JG.o1 QG ?_
       refine JG.o1 V6 ?_
       iterate 2 (refine JG.o1 JC ?_)
       refine JG.o1 V6 ?_
       iterate 2 (refine JG.o1 JC ?_)
       refine JG.o1 QG ?_
       refine JG.o1 V6 ?_
       refine JG.o1 JC ?_
       refine JG.nil (QK.gho Qb Qb (JN.frzA 48) JF ?_)
       refine JR.nrm (JB.reg1 ?_)
       refine JA.o1 JC ?_
       refine JA.o1 Jx ?_
       refine JA.o1 JC ?_
       refine JA.nil ?_
       refine JU.nxt ?_ ?_ ?_
       ·omega
       ·exact JN.kp [1,2,5,6] [2] V11
       ·trivial
     ·skip
      have hg:decide (((J5 w house k).length:Int)-(j:Int)>0)=false:=by simp;omega
      refine JB.opk 23 ?_
      have X:=X.a hg
      iterate 3 (refine JG.o1 JC ?_)
      iterate 17 (refine JG.s ?_)
      refine JG.o1 JC ?_
      refine JG.nil (QK.finT JL JL JL ?_)
      refine JB.cndS JC (fun hb45=>?_) (fun hb45=>?_)
      ·exact absurd hb45 (by simp)
      ·skip
       have hat:((J5 w house k).length:Int)-(j:Int)=((Qt w k (J5 w house k) (J5 w house k).length:Nat):Int):=by rw [Xj,show (J5 w house k).length-j=0 by omega,Qt];omega
       have hal:=JDn w k (J5 w house k) (J5 w house k).length
       refine JB.exitS (JU.ext (JR.hit ?_))
       rw [hat]
       refine JB.opk1 15 ?_
       iterate 3 (refine JG.o1 JC ?_)
       refine JG.o1 QG ?_
       refine JG.o1 V6 ?_
       iterate 2 (refine JG.o1 JC ?_)
       refine JG.o1 V6 ?_
       iterate 2 (refine JG.o1 JC ?_)
       refine JG.o1 QG ?_
       refine JG.o1 V6 ?_
       refine JG.o1 JC ?_
       refine JG.nil (QK.gho Qb Qb (JN.frzA 48) JF ?_)
       refine JR.nrm (JB.reg1 ?_)
       refine JA.o1 JC ?_
       refine JA.o1 Jx ?_
       refine JA.o1 JC ?_
       refine JA.nil ?_
       refine JU.nxt ?_ ?_ ?_
       ·omega
       ·exact JN.kp [1,2,5,6] [2] V11
       ·trivial
  ·skip
   have e:J5 w house k=Jo w house:=by rw [Jo];congr 1;have:=Ys hb12;omega
   refine JB.exitS (JU.ext (JR.hit (JB.reg ?_)))
   have X:=Fx.mk e
   iterate 2 (refine JA.o1 JC ?_)
   refine JA.nil ?_
   exact Ends.fin [] (rs:=[.tmp 4]) rfl JC Qk
end Go.Mw.Cd
namespace Go.Mw.Cd
open Go.Proofs
theorem JP1 {g:FuncId}{ds:List D}(p:YB→Bool)(hg:JM Tryz.prog g=true)(hp:∀s,Jf Tryz.prog g (JHh s::ds.map fun x=>.leaf (.d x)) (.bool (p s)) [])(l:List YB)(hl:l.length≤1000):Jf Tryz.prog 137 [.leaf (.d (.sl 2 (l.map JEx))),.leaf (.d (.fn g ds))] (.int (JCZ (l.findIdx? p))) []:=by
 refine Jq Jj Tryz.func137 rfl (by simp only [List.length_cons,List.length_nil,Tryz.ntmps137];omega) JL rfl ?_
 refine JB.reg ?_
 refine JA.o ?_
 refine JA.nil (JB.assocS (JB.reg ?_))
 iterate 3 (refine JA.o ?_)
 refine JA.nil (JB.blk ?_)
 refine JB.forA [0,1,7,8] [] (l.length) (fun k=>[.slot 8 (.int k)]) (fun k=>(l.take k).any p=false) (fun k=>by simp only [go_sem]<;>rfl) JF ?_ (fun k hk hX=>?_)
 ·rfl
 ·skip
  refine JB.reg ?_
  refine JA.o ?_
  refine JA.nil ?_
  refine JB.cndS JF (fun hb9=>?_) (fun hb9=>?_)
  ·skip
   have hlt:=Yo hb9
   obtain ⟨s,hs⟩:=JAh hb9
   refine JB.skipS (JB.blk (JB.reg ?_))
   have X:=Fx.mk hs
   iterate 2 (refine JA.o1 JC ?_)
   refine JA.nil (JB.reg ?_)
   iterate 3 (refine JA.o1 JC ?_)
   refine JA.o1 QG ?_
   refine JA.o1 JC ?_
   refine JA.calw JF (hp s) (by assumption) JC JC V90 (Yr) JC ?_
   refine JA.nil ?_
   refine JB.cnd JC (fun hb16=>?_) (fun hb16=>?_)
   ·skip
    have hr:=JG4 hX hs hb16
    refine JB.reg ?_
    have X:=X.a hr
    iterate 2 (refine JA.o1 Z2 ?_)
    refine JA.nil (JR.ret (JU.ret (JR.ret ?_)))
    exact Ends.fin [] (rs:=[.tmp 4]) rfl Z2 JCD
   ·skip
    refine JR.nrm (JB.reg1 ?_)
    refine JA.o1 Jx ?_
    refine JA.o1 JC ?_
    refine JA.nil ?_
    refine JU.nxt ?_ ?_ ?_
    ·omega
    ·exact JN.kp [0,1,7,8] [] Yi
    ·exact JGZ hX hs hb16
  ·skip
   have hr:=JG5 hX (Ys hb9)
   refine JB.exitS (JU.ext (JR.hit (JB.reg ?_)))
   have X:=Fx.mk hr
   refine JA.o1 Z2 ?_
   refine JA.nil ?_
   exact Ends.fin [] (rs:=[.tmp 4]) rfl Z2 JCD
theorem JPw {g:FuncId}{ds:List D}(p:YB→Bool)(hg:JM Tryz.prog g=true)(hp:∀s,Jf Tryz.prog g (JHh s::ds.map fun x=>.leaf (.d x)) (.bool (p s)) [])(l:List YB)(hl:l.length≤1000):Jf Tryz.prog 97 [.leaf (.d (.sl 2 (l.map JEx))),.leaf (.d (.fn g ds))] (.bool (l.any p)) []:=by
 refine Jq Jj Tryz.func97 rfl (by simp only [List.length_cons,List.length_nil,Tryz.ntmps97];omega) JL rfl ?_
 refine JB.reg ?_
 refine JA.o1 Yj ?_
 refine JA.nil (JB.reg ?_)
 iterate 2 (refine JA.o1 Yj ?_)
 refine JA.c1 (JP1 p hg hp l hl) Yj Yj ?_
 iterate 2 (refine JA.o1 Yj ?_)
 refine JA.nil ?_
 exact Ends.fin [] (rs:=[.tmp 4]) rfl Yj JF7
theorem JP0 {g:FuncId}{ds:List D}(p:Reading→Bool)(hg:JM Tryz.prog g=true)(hp:∀s,Jf Tryz.prog g (JKA s::ds.map fun x=>.leaf (.d x)) (.bool (p s)) [])(l:List Reading)(hl:l.length≤1000):Jf Tryz.prog 138 [.leaf (.d (.sl 3 (l.map Qr))),.leaf (.d (.fn g ds))] (.int (JCZ (l.findIdx? p))) []:=by
 refine Jq Jj Tryz.func138 rfl (by simp only [List.length_cons,List.length_nil,Tryz.ntmps138];omega) JL rfl ?_
 refine JB.reg ?_
 refine JA.o ?_
 refine JA.nil (JB.assocS (JB.reg ?_))
 iterate 3 (refine JA.o ?_)
 refine JA.nil (JB.blk ?_)
 refine JB.forA [0,1,7,8] [] (l.length) (fun k=>[.slot 8 (.int k)]) (fun k=>(l.take k).any p=false) (fun k=>by simp only [go_sem]<;>rfl) JF ?_ (fun k hk hX=>?_)
 ·rfl
 ·skip
  refine JB.reg ?_
  refine JA.o ?_
  refine JA.nil ?_
  refine JB.cndS JF (fun hb9=>?_) (fun hb9=>?_)
  ·skip
   have hlt:=Yo hb9
   obtain ⟨s,hs⟩:=JAh hb9
   refine JB.skipS (JB.blk (JB.reg ?_))
   have X:=Fx.mk hs
   iterate 2 (refine JA.o1 JC ?_)
   refine JA.nil (JB.reg ?_)
   iterate 3 (refine JA.o1 JC ?_)
   refine JA.o1 QG ?_
   refine JA.o1 JC ?_
   refine JA.calw JF (hp s) (by assumption) JC JC V90 (Yr) JC ?_
   refine JA.nil ?_
   refine JB.cnd JC (fun hb16=>?_) (fun hb16=>?_)
   ·skip
    have hr:=JG4 hX hs hb16
    refine JB.reg ?_
    have X:=X.a hr
    iterate 2 (refine JA.o1 Z2 ?_)
    refine JA.nil (JR.ret (JU.ret (JR.ret ?_)))
    exact Ends.fin [] (rs:=[.tmp 4]) rfl Z2 JCD
   ·skip
    refine JR.nrm (JB.reg1 ?_)
    refine JA.o1 Jx ?_
    refine JA.o1 JC ?_
    refine JA.nil ?_
    refine JU.nxt ?_ ?_ ?_
    ·omega
    ·exact JN.kp [0,1,7,8] [] Yi
    ·exact JGZ hX hs hb16
  ·skip
   have hr:=JG5 hX (Ys hb9)
   refine JB.exitS (JU.ext (JR.hit (JB.reg ?_)))
   have X:=Fx.mk hr
   refine JA.o1 Z2 ?_
   refine JA.nil ?_
   exact Ends.fin [] (rs:=[.tmp 4]) rfl Z2 JCD
theorem JPv {g:FuncId}{ds:List D}(p:Reading→Bool)(hg:JM Tryz.prog g=true)(hp:∀s,Jf Tryz.prog g (JKA s::ds.map fun x=>.leaf (.d x)) (.bool (p s)) [])(l:List Reading)(hl:l.length≤1000):Jf Tryz.prog 98 [.leaf (.d (.sl 3 (l.map Qr))),.leaf (.d (.fn g ds))] (.bool (l.any p)) []:=by
 refine Jq Jj Tryz.func98 rfl (by simp only [List.length_cons,List.length_nil,Tryz.ntmps98];omega) JL rfl ?_
 refine JB.reg ?_
 refine JA.o1 Yj ?_
 refine JA.nil (JB.reg ?_)
 iterate 2 (refine JA.o1 Yj ?_)
 refine JA.c1 (JP0 p hg hp l hl) Yj Yj ?_
 iterate 2 (refine JA.o1 Yj ?_)
 refine JA.nil ?_
 exact Ends.fin [] (rs:=[.tmp 4]) rfl Yj JF7
theorem JQQ (s:YB):Jf Tryz.prog 95 [JHh s] (.bool (!JA8 s)) []:=by
 refine Jq Jj Tryz.func95 rfl (by simp only [List.length_cons,List.length_nil,Tryz.ntmps95];omega) JL rfl ?_
 refine JB.reg ?_
 iterate 2 (refine JA.o1 JCy ?_)
 refine JA.nil (JB.reg ?_)
 iterate 4 (refine JA.o1 JCy ?_)
 iterate 5 (refine JA.gop JF JCy JF ?_)
 iterate 2 (refine JA.o1 JCy ?_)
 iterate 3 (refine JA.gop JF JCy JF ?_)
 iterate 2 (refine JA.o1 JCy ?_)
 refine JA.nil ?_
 exact Ends.fin [] (rs:=[.tmp 2]) rfl JCy (by simp only [go_sem,JA8,Bool.not_not]<;>first|rfl|exact QB)
theorem JQR (w:JP)(h1:w.rates.length≤1000)(r:Reading):Jf Tryz.prog 96 [JKA r,.leaf (.d (.pt (JAp w)))] (.bool (!Zl w.rates.length r)) []:=by
 refine Jq Jj Tryz.func96 rfl (by simp only [List.length_cons,List.length_nil,Tryz.ntmps96];omega) JL rfl ?_
 refine JB.reg ?_
 iterate 2 (refine JA.o1 Z0 ?_)
 refine JA.nil (JB.reg ?_)
 iterate 5 (refine JA.o1 Z0 ?_)
 refine JA.o1 (by simp only [go_sem,Zl,Bool.not_and];(try simp (disch:=omega) only [IntWalk.i64_in,IntWalk.u64_in,IntWalk.i32_in,IntWalk.u8_in,if_neg,if_pos])<;> rfl) ?_
 refine JA.c1 (JDr _ _ _) Z0 Z0 ?_
 iterate 2 (refine JA.o1 Z0 ?_)
 iterate 2 (refine JA.gop JF Z0 JF ?_)
 refine JA.gcal JF (JDr _ _ _) Jr Z0 V23 Z0 ?_
 refine JA.gop JF Z0 JF ?_
 iterate 2 (refine JA.o1 Z0 ?_)
 iterate 2 (refine JA.gop JF Z0 JF ?_)
 refine JA.gcal JF (JDr _ _ _) Jr Z0 V23 Z0 ?_
 refine JA.gop JF Z0 JF ?_
 iterate 2 (refine JA.o1 Z0 ?_)
 refine JA.nil ?_
 exact Ends.fin [] (rs:=[.tmp 3]) rfl Z0 (by simp only [go_sem,Zl,Bool.not_and]<;>first|rfl|exact QB)
theorem JLt (w:JP)(h1:w.rates.length≤1000)(h2:w.readings.length≤1000):Jf Tryz.prog 43 [JAU w] (.bool (QM w)) []:=by
 have e1:w.rates.any (fun s=>!JA8 s) = !w.rates.all JA8:=by rw [List.not_all_eq_any_not]
 have e2:w.readings.any (fun s=>!Zl w.rates.length s) = !w.readings.all (Zl w.rates.length):=by rw [List.not_all_eq_any_not]
 have hr:QM w=(Q0 w.rates.length 1 8&&decide ((w.readings.length:Int)≤24)&&w.rates.all JA8&&w.readings.all (Zl w.rates.length)):=by rw [QM,Bool.and_comm];simp only [Bool.and_assoc]
 refine Jq Jj Tryz.func43 rfl (by simp only [List.length_cons,List.length_nil,Tryz.ntmps43];omega) JL rfl ?_
 refine JB.reg ?_
 have X:=((Fx.mk e1).a e2).a hr
 iterate 2 (refine JA.o1 Y4 ?_)
 refine JA.nil (JB.reg ?_)
 refine JA.o1 Y4 ?_
 refine JA.nil (JB.reg ?_)
 refine JA.frz 1 JF ?_
 iterate 2 (refine JA.o1 Y4 ?_)
 refine JA.nil (JB.reg ?_)
 iterate 3 (refine JA.o1 Y4 ?_)
 refine JA.c1 (JDr _ _ _) Y4 Y4 ?_
 refine JA.o1 Y4 ?_
 iterate 4 (refine JA.gop JF Y4 JF ?_)
 iterate 2 (refine JA.o1 Y4 ?_)
 refine JA.nil (JB.reg ?_)
 iterate 2 (refine JA.o1 Y4 ?_)
 iterate 3 (refine JA.gop JF Y4 JF ?_)
 refine JA.gcal JF (JPw (fun s=>!JA8 s) (ds:=[]) Jr (fun s=>JQQ s) w.rates h1) Jr Y4 Z4 Y4 ?_
 refine JA.gop JF Y4 JF ?_
 iterate 2 (refine JA.o1 Y4 ?_)
 iterate 3 (refine JA.gop JF Y4 JF ?_)
 refine JA.gcal JF (JPv (fun s=>!Zl w.rates.length s) (ds:=[.pt (JAp w)]) Jr (fun s=>JQR w h1 s) w.readings h2) Jr Y4 Z4 Y4 ?_
 refine JA.gop JF Y4 JF ?_
 iterate 2 (refine JA.o1 Y4 ?_)
 refine JA.nil ?_
 exact Ends.fin [] (rs:=[.tmp 2]) rfl Y4 (by simp only [go_sem,X.h,Bool.not_not]<;>first|rfl|exact QB)
theorem JLr (b c:Bds):Jf Tryz.prog 60 [JEp b,JEp c] (JEp ⟨max b.low c.low,min b.high c.high⟩) []:=by
 refine Jq Jj Tryz.func60 rfl (by simp only [List.length_cons,List.length_nil,Tryz.ntmps60];omega) JL rfl ?_
 refine JB.reg ?_
 iterate 3 (refine JA.o1 (by simp only [go_sem,JHS,JBR]<;>rfl) ?_)
 refine JA.nil (JB.reg ?_)
 iterate 12 (refine JA.o1 (by simp only [go_sem,JHS,JBR]<;>rfl) ?_)
 refine JA.nil ?_
 exact Ends.fin [] (rs:=[.cell 4 107]) rfl (by simp only [go_sem,JHS,JBR]<;>rfl) (by simp only [go_sem,JHS,JBR]<;>first|rfl|exact QB)
theorem JQG (b:Bds)(n:Int):Jf Tryz.prog 117 [JEp b,.int n] (.bool (Q0 n b.low b.high)) []:=by
 refine Jq Jj Tryz.func117 rfl (by simp only [List.length_cons,List.length_nil,Tryz.ntmps117];omega) JL rfl ?_
 refine JB.reg ?_
 iterate 2 (refine JA.o1 JEj ?_)
 refine JA.nil (JB.reg ?_)
 iterate 5 (refine JA.o1 JEj ?_)
 iterate 4 (refine JA.gop JF JEj JF ?_)
 iterate 2 (refine JA.o1 JEj ?_)
 refine JA.nil ?_
 exact Ends.fin [] (rs:=[.tmp 4]) rfl JEj (by simp only [go_sem,Q0]<;>first|rfl|exact QB)
theorem JLu (s:YB)(n:Int)(hs:0≤s.lo∧s.lo≤s.hi∧s.hi≤100000)(hn:-200000≤n∧n≤200000):Jf Tryz.prog 59 [JHh s,.int n] (JEp (JAe s n)) []:=by
 have m1:=JHM (a:=s.lo) (b:=n) (by omega) (by omega)
 have m2:=JHM (a:=s.hi) (b:=n) (by omega) (by omega)
 refine Jq Jj Tryz.func59 rfl (by simp only [List.length_cons,List.length_nil,Tryz.ntmps59];omega) JL rfl ?_
 refine JB.reg ?_
 iterate 2 (refine JA.o ?_)
 refine JA.nil (JB.assocS (JB.reg ?_))
 iterate 2 (refine JA.o ?_)
 refine JA.nil ?_
 refine JB.cndS JF (fun hb6=>?_) (fun hb6=>?_)
 ·skip
  have hr:JAe s n=⟨s.hi*n,s.lo*n⟩:=if_pos (of_decide_eq_true hb6)
  refine JB.assocS (JB.reg ?_)
  have X:=Fx.mk hr
  iterate 3 (refine JA.o1 JC ?_)
  refine JA.o1 Jx ?_
  iterate 3 (refine JA.o1 JC ?_)
  refine JA.o1 Jx ?_
  iterate 2 (refine JA.o1 JC ?_)
  refine JA.nil (JB.retS ?_)
  exact Ends.fin [] (rs:=[.cell 4 107]) rfl JC Qk
 ·skip
  have hr:JAe s n=⟨s.lo*n,s.hi*n⟩:=if_neg (of_decide_eq_false hb6)
  refine JB.skipS (JB.reg ?_)
  have X:=Fx.mk hr
  iterate 3 (refine JA.o1 JC ?_)
  refine JA.o1 Jx ?_
  iterate 3 (refine JA.o1 JC ?_)
  refine JA.o1 Jx ?_
  iterate 2 (refine JA.o1 JC ?_)
  refine JA.nil ?_
  exact Ends.fin [] (rs:=[.cell 4 107]) rfl JC Qk
theorem JEt (n:Int):Jf Tryz.prog 153 [.int n] (.bool false) []:=by
 refine Jq Jj Tryz.func153 rfl (by simp only [List.length_cons,List.length_nil,Tryz.ntmps153];omega) JL rfl ?_
 refine JB.reg ?_
 refine JA.o1 (by simp only [go_sem,bne_self_eq_false]<;>rfl) ?_
 refine JA.nil (JB.reg ?_)
 iterate 4 (refine JA.o1 (by simp only [go_sem,bne_self_eq_false]<;>rfl) ?_)
 refine JA.nil ?_
 exact Ends.fin [] (rs:=[.tmp 2]) rfl (by simp only [go_sem,bne_self_eq_false]<;>rfl) (by simp only [go_sem,bne_self_eq_false]<;>first|rfl|exact QB)
theorem JPs (a b:Int):Jf Tryz.prog 116 [.int a,.int b] (.int (JAg a b)) []:=by
 refine Jq Jj Tryz.func116 rfl (by simp only [List.length_cons,List.length_nil,Tryz.ntmps116];omega) JL rfl ?_
 refine JB.reg ?_
 refine JA.o ?_
 refine JA.nil (JB.reg ?_)
 refine JA.o ?_
 refine JA.c1 (JEt _) JF JF ?_
 refine JA.o ?_
 refine JA.nil (JB.reg ?_)
 refine JA.o ?_
 refine JA.c1 (JEt _) JF JF ?_
 refine JA.o ?_
 refine JA.nil (JB.assocS (JB.reg ?_))
 refine JA.o ?_
 refine JA.nil ?_
 refine JB.cndS JF (fun hb11=>?_) (fun hb11=>?_)
 ·exact absurd hb11 (by simp)
 ·skip
  refine JB.skipS (JB.assocS (JB.reg ?_))
  refine JA.o ?_
  refine JA.nil ?_
  refine JB.cndS JF (fun hb13=>?_) (fun hb13=>?_)
  ·exact absurd hb13 (by simp)
  ·skip
   refine JB.skipS (JB.assocS (JB.reg ?_))
   iterate 3 (refine JA.o ?_)
   refine JA.nil ?_
   refine JB.cndS JF (fun hb16=>?_) (fun hb16=>?_)
   ·skip
    have hr:JAg a b=-1:=if_pos (of_decide_eq_true hb16)
    refine JB.assocS (JB.reg ?_)
    have X:=Fx.mk hr
    refine JA.o1 JC ?_
    refine JA.nil (JB.retS ?_)
    exact Ends.fin [] (rs:=[.tmp 4]) rfl JC Qk
   ·skip
    refine JB.skipS (JB.assocS (JB.reg ?_))
    iterate 3 (refine JA.o ?_)
    refine JA.nil ?_
    refine JB.cndS JF (fun hb19=>?_) (fun hb19=>?_)
    ·skip
     have hr:JAg a b=1:=by have h1:=of_decide_eq_false hb16;have h2:=of_decide_eq_true hb19;rw [JAg,if_neg h1,if_pos h2]
     refine JB.assocS (JB.reg ?_)
     have X:=Fx.mk hr
     refine JA.o1 JC ?_
     refine JA.nil (JB.retS ?_)
     exact Ends.fin [] (rs:=[.tmp 4]) rfl JC Qk
    ·skip
     have hr:JAg a b=0:=by have h1:=of_decide_eq_false hb16;have h2:=of_decide_eq_false hb19;rw [JAg,if_neg h1,if_neg h2]
     refine JB.skipS (JB.reg ?_)
     have X:=Fx.mk hr
     refine JA.o1 JC ?_
     refine JA.nil ?_
     exact Ends.fin [] (rs:=[.tmp 4]) rfl JC Qk
theorem JQa (a b:Qo):Jf Tryz.prog 115 [JAB a,JAB b] (.int (JAg a.1.day b.1.day)) []:=by
 refine Jq Jj Tryz.func115 rfl (by simp only [List.length_cons,List.length_nil,Tryz.ntmps115];omega) JL rfl ?_
 refine JB.reg ?_
 iterate 3 (refine JA.o ?_)
 refine JA.nil (JB.reg ?_)
 iterate 6 (refine JA.o ?_)
 refine JA.c1 (JPs _ _) JF JF ?_
 refine JA.o ?_
 refine JA.nil ?_
 exact Ends.fin [] (rs:=[.tmp 4]) rfl JF Y3
theorem JIf (w:JP)(house:Int):Jf Tryz.prog 58 [JAU w,.int house] (.leaf (.d (.fn 113 [.pt (JAp w),.pt [.i house]]))) []:=by
 refine Jq Jj Tryz.func58 rfl (by simp only [List.length_cons,List.length_nil,Tryz.ntmps58];omega) JL rfl ?_
 refine JB.reg ?_
 iterate 3 (refine JA.o ?_)
 refine JA.nil (JB.reg ?_)
 refine JA.frz 2 JF ?_
 refine JA.frz 3 JF ?_
 iterate 2 (refine JA.o ?_)
 refine JA.nil ?_
 exact Ends.fin [] (rs:=[.tmp 4]) rfl JF Y3
end Go.Mw.Cd
namespace Go.Mw.Cd
open Go.Proofs
theorem JEs {g:FuncId}{ds:List D}(c:Qo→Qo→Int)(hg:JM Tryz.prog g=true)(hc:∀x y,Jf Tryz.prog g (JAB x::JAB y::ds.map fun x=>.leaf (.d x)) (.int (c x y)) [])(p s q:List Qo)(n:Nat)(hn:(p++s++q).length=n)(hn2:n≤1000):Qg Tryz.prog 184 [.leaf (.own 900 0 n n),.int p.length,.int (p.length+s.length),.leaf (.d (.fn g ds))] [(900,.arr 112 4 ((p++s++q).map YC))] (.ret (.tup []) [(900,.arr 112 4 ((p++QH (fun x y=>decide (c x y<0)) s++q).map YC))]):=by
 have hps:p.length+s.length+q.length=n:=by rw [←hn];simp;omega
 generalize hlt:(fun x y=>decide (c x y<0))=lt
 refine Jq Jj Tryz.func184 rfl (by simp only [List.length_cons,List.length_nil,Tryz.ntmps184];omega) JL rfl ?_
 refine JB.reg ?_
 refine JA.o ?_
 refine JA.o1 V68 ?_
 refine JA.o ?_
 refine JA.nil (JB.blk1 ?_)
 refine JB.forA [0,1,2,3,8] [900] (s.length) (fun k=>[.slot 8 (.int ((p.length:Int)+1+k)),.obj 900 (.arr 112 4 ((p++(QH lt (s.take (k+1))++s.drop (k+1))++q).map YC))]) (fun _=>True) (fun k=>by simp only [go_sem]<;>rfl) (by simp only [go_sem,Nat.zero_add,JRz,Int.natCast_zero,Int.add_zero]<;>rfl) ?_ (fun k hk hX=>?_)
 ·trivial
 ·skip
  refine JB.assocS (JB.reg ?_)
  iterate 3 (refine JA.o ?_)
  refine JA.nil ?_
  refine JB.cndS JF (fun hb14=>?_) (fun hb14=>?_)
  ·skip
   have hk1:k+1<s.length:=by have:=of_decide_eq_true hb14;omega
   have htl:(QH lt (s.take (k+1))).length=k+1:=by rw [Z8];simp;omega
   obtain ⟨x,hx⟩:∃x,s[k+1]? = some x:=⟨_,List.getElem?_eq_getElem hk1⟩
   have hdr:s.drop (k+1)=x::s.drop (k+2):=by
    obtain ⟨h1,rfl⟩:=List.getElem?_eq_some_iff.1 hx
    exact (List.getElem_cons_drop h1).symm
   have e0:Lt p (QH lt (s.take (k+1))) (s.drop (k+2)++q) x (k+1)=p++(QH lt (s.take (k+1))++s.drop (k+1))++q:=by
    have:=JPF (p:=p) (t:=QH lt (s.take (k+1))) (r:=s.drop (k+2)++q) (x:=x)
    rw [htl] at this
    rw [this,hdr];simp
   refine JB.skipS (JB.blk (JB.reg ?_))
   iterate 2 (refine JA.o ?_)
   refine JA.nil (JB.blk1 ?_)
   have X:=Fx.mk e0
   refine JB.forA [0,1,2,3,8,9] [900] (k+1) (fun j=>[.slot 9 (.int ((p.length:Int)+1+k-j)),.obj 900 (.arr 112 4 ((Lt p (QH lt (s.take (k+1))) (s.drop (k+2)++q) x (k+1-j)).map YC))]) (fun j=>Yp lt x (QH lt (s.take (k+1))) (k+1)=Yp lt x (QH lt (s.take (k+1))) (k+1-j)) (fun j=>by simp only [go_sem]<;>rfl) (by simp only [go_sem,X.h,Nat.sub_zero,Int.natCast_zero,Int.sub_zero]<;>rfl) ?_ (fun j hj Xj=>?_)
   ·rfl
   ·skip
    refine JB.assocS ?_
    by_cases hj1:j<k+1
    ·skip
     have hg1:decide ((p.length:Int)+1+k-j>p.length)=true:=by simp;omega
     obtain ⟨y,hy⟩:∃y,(QH lt (s.take (k+1)))[k-j]? = some y:=⟨_,List.getElem?_eq_getElem (by omega)⟩
     have hcj:k+1-j=k-j+1:=by omega
     have hcj2:k+1-(j+1)=k-j:=by omega
     have t1:((p.length:Int)+1+k-j).toNat=p.length+(k+1-j):=by omega
     have t2:((p.length:Int)+1+k-j-1).toNat=p.length+(k-j):=by omega
     have fl:(Lt p (QH lt (s.take (k+1))) (s.drop (k+2)++q) x (k+1-j)).length=n:=by rw [JHt (by omega),htl,List.length_append,List.length_drop];omega
     have fx:=JHu (p:=p) (t:=QH lt (s.take (k+1))) (r:=s.drop (k+2)++q) (x:=x) (c:=k+1-j) (by omega)
     have fy:(Lt p (QH lt (s.take (k+1))) (s.drop (k+2)++q) x (k+1-j))[p.length+(k-j)]? = some y:=by rw [hcj];exact JKy hy
     refine JB.opk 19 ?_
     have X:=(((((Fx.mk hg1).a t1).a t2).a fl).a fx).a fy
     iterate 4 (refine JG.o1 JC ?_)
     iterate 3 (refine JG.y1 JC ?_)
     refine JG.y1 QG ?_
     iterate 3 (refine JG.y1 JC ?_)
     refine JG.y1 Jx ?_
     refine JG.y1 QG ?_
     refine JG.y1 JC ?_
     refine JG.calw JF (hc x y) (by assumption) JC JC V53 (Yr) JC JF JF ?_
     refine JG.y1 JC ?_
     refine JG.o1 JC ?_
     refine JG.nil (QK.finT JL JL JL ?_)
     refine JB.cndS JC (fun hb34=>?_) (fun hb34=>?_)
     ·skip
      have hl:lt x y=true:=by rw [←hlt];exact hb34
      have hXn:Yp lt x (QH lt (s.take (k+1))) (k+1)=Yp lt x (QH lt (s.take (k+1))) (k+1-(j+1)):=by rw [Xj,hcj,JHb hy hl,hcj2]
      have fset:Lt p (QH lt (s.take (k+1))) (s.drop (k+2)++q) x (k+1-(j+1))=((Lt p (QH lt (s.take (k+1))) (s.drop (k+2)++q) x (k+1-j)).set (p.length+(k+1-j)) y).set (p.length+(k-j)) x:=by
       have:=JKx (p:=p) (r:=s.drop (k+2)++q) (x:=x) hy
       rw [hcj,hcj2];exact this.symm
      have hne:p.length+(k+1-j)≠p.length+(k-j):=by omega
      refine JB.skipS (JB.blk ?_)
      refine JB.opk1 20 ?_
      iterate 4 (refine JG.o1 V98 ?_)
      refine JG.o1 V43 ?_
      iterate 2 (refine JG.o1 V98 ?_)
      refine JG.o1 V43 ?_
      refine JG.o1 V40 ?_
      iterate 3 (refine JG.o1 V98 ?_)
      refine JG.o1 V40 ?_
      refine JG.o1 V98 ?_
      refine JG.o1 V40 ?_
      refine JG.o1 V98 ?_
      refine JG.o1 V40 ?_
      refine JG.o1 V98 ?_
      refine JG.nil (QK.finT JL JL JL ?_)
      refine JR.nrm (JB.reg1 ?_)
      refine JA.o1 V98 ?_
      refine JA.o1 V43 ?_
      refine JA.o1 V98 ?_
      refine JA.nil ?_
      refine JU.nxt ?_ ?_ ?_
      ·omega
      ·exact JN.kp [0,1,2,3,8,9] [900] (by simp only [go_sem,hg1,t1,t2,fl,fx,fy,List.getElem?_set_ne hne]<;>first|((repeat' (first|with_reducible_and_instances rfl|refine Q6 ?_ ?_ ?_|refine Q4 ?_|refine Q8 ?_|refine Q7 ?_ ?_|refine Qw ?_|refine Qy ?_|refine Q9 ?_|refine Q1 ?_ ?_|refine Q3 ?_ ?_|refine Q5 ?_|refine Qx ?_|(refine Qz ?_;omega)));(rw [fset,List.map_set,List.map_set];rfl))|rfl)
      ·exact hXn
     ·skip
      have hl:lt x y=false:=by rw [←hlt];exact hb34
      have hsc:Yp lt x (QH lt (s.take (k+1))) (k+1)=k+1-j:=by rw [Xj,hcj,JHa hy hl]
      have en:p++(QH lt (s.take (k+1+1))++s.drop (k+1+1))++q=Lt p (QH lt (s.take (k+1))) (s.drop (k+2)++q) x (k+1-j):=by
       have ht2:s.take (k+1+1)=s.take (k+1)++[x]:=by rw [List.take_succ,hx];rfl
       rw [←hsc,ht2,JDD]
       have:=JKw (lt:=lt) (p:=p) (t:=QH lt (s.take (k+1))) (r:=s.drop (k+2)++q) (x:=x)
       rw [htl] at this
       rw [this];simp
      refine JB.exitS (JU.ext (QA.hit (JR.nrm (JB.reg1 ?_))))
      have X:=X.a en
      refine JA.o1 JC ?_
      refine JA.o1 Jx ?_
      refine JA.o1 JC ?_
      refine JA.nil ?_
      refine JU.nxt ?_ ?_ ?_
      ·omega
      ·exact JN.kp [0,1,2,3,8] [900] Yi
      ·trivial
    ·skip
     have hg1:decide ((p.length:Int)+1+k-j>p.length)=false:=by simp;omega
     refine JB.opk 19 ?_
     have X:=Fx.mk hg1
     iterate 4 (refine JG.o1 JC ?_)
     iterate 12 (refine JG.s ?_)
     refine JG.o1 JC ?_
     refine JG.nil (QK.finT JL JL JL ?_)
     refine JB.cndS JC (fun hb34=>?_) (fun hb34=>?_)
     ·exact absurd hb34 (by simp)
     ·skip
      have hsc:Yp lt x (QH lt (s.take (k+1))) (k+1)=k+1-j:=by rw [Xj,show k+1-j=0 by omega];rfl
      have en:p++(QH lt (s.take (k+1+1))++s.drop (k+1+1))++q=Lt p (QH lt (s.take (k+1))) (s.drop (k+2)++q) x (k+1-j):=by
       have ht2:s.take (k+1+1)=s.take (k+1)++[x]:=by rw [List.take_succ,hx];rfl
       rw [←hsc,ht2,JDD]
       have:=JKw (lt:=lt) (p:=p) (t:=QH lt (s.take (k+1))) (r:=s.drop (k+2)++q) (x:=x)
       rw [htl] at this
       rw [this];simp
      refine JB.exitS (JU.ext (QA.hit (JR.nrm (JB.reg1 ?_))))
      have X:=X.a en
      refine JA.o1 JC ?_
      refine JA.o1 Jx ?_
      refine JA.o1 JC ?_
      refine JA.nil ?_
      refine JU.nxt ?_ ?_ ?_
      ·omega
      ·exact JN.kp [0,1,2,3,8] [900] Yi
      ·trivial
  ·skip
   have hk1:s.length≤k+1:=by have:=of_decide_eq_false hb14;omega
   have e:p++(QH lt (s.take (k+1))++s.drop (k+1))++q=p++QH lt s++q:=by rw [List.take_of_length_le hk1,List.drop_eq_nil_of_le hk1,List.append_nil]
   refine JB.exitS (JU.ext (QA.hit ?_))
   have X:=Fx.mk e
   exact Ends.fin0 [900] (rs:=[]) rfl JC Qk
end Go.Mw.Cd

/- Contracts of the functions that the book reaches: bits that are punched. -/
import Derived.Test.YtpmdcdglfeicaaaGreatDoorD1
import Derived.Test.YtpmdcdglfeicaaaGreatDoorB4
import Derived.Test.YtpmdcdglfeicaaaGreatDoorB8
import Derived.Test.YtpmdcdglfeicaaaGreatDoorB6
import Derived.WalkKit
import Derived.Defers
import Derived.Recover
import Derived.Test.YtpmdcdglfeicaaaGreatDoorB5
import Derived.Test.YtpmdcdglfeicaaaGreatDoorRows
import Derived.LaidMore
import Derived.Lay
import Derived.ChangeMaps5
set_option maxRecDepth 20000
set_option maxHeartbeats 16000000
set_option linter.unusedSimpArgs false
set_option linter.unusedVariables false
set_option linter.unusedSectionVars false
set_option linter.deprecated false
namespace Go.Mw
open Go.Proofs
open Go.Bk
attribute [-go_sem] YG
attribute [local go_sem] JCU JCd JCa JCc JCV JCb JCZ JCY JCX JCW
theorem JLB (o q:Nat)(l:List UInt8)(lr:AL)(x y z:D)(h:∀ns,AL.inn ns lr=true):(JDH o q l lr x y z).all (fun p=>p.2.inn (Ql (JDH o q l lr x y z)))=true:=by
 have h2:(Ql (JDH o q l lr x y z)).contains q=true:=by simp [Ql,JDH]
 generalize Ql (JDH o q l lr x y z)=ns at h2
 show (((Qn q l).inn ns&&(true&&(lr.inn ns&&true)))&&true)=true
 rw [JPH q l ns h2,h ns];rfl
theorem JQy (l:List UInt8)(c:UInt8)(hl:l.length≤1000000)(v:Int)(hv:v=c.toNat)(x y z:D) :
  Qq Tryz.prog 122 [.leaf (.ptr 910 0),.leaf (.d (.raw (.int .u8 v)))] [(910,.cells [Qn 901 l,.d (.raw (.int .i64 0)),.dead,.d x,.d y,.d z]),(901,.arr 5 1 (Jx l))]
   (.ret (.leaf (.d (.raw .nilIface))) [(910,.cells [Qn 901 (l++[c]),.d (.raw (.int .i64 0)),.dead,.d x,.d y,.d z]),(901,.arr 5 1 (Jx (l++[c])))]):=by subst hv;exact JQD l c hl x y z
theorem JGo (s:Bits)(b:Bool)(o:Int)(hs:s.length≤100000)(ho:0≤o∧o≤100000):Qq Tryz.prog 67 [.leaf (.ptr 910 0),.leaf (.d (.raw (.int .i64 (b.toNat:Nat))))] [(910,.cells [Qn 901 (pack s),.d (.raw (.int .i64 0)),.dead,.d (.raw (.int .u8 ((J8 (YZ s):Nat):Int))),.d (.raw (.int .i64 ((s).length:Int))),.d (.raw (.int .i64 o))]),(901,.arr 5 1 (Jx (pack s)))] (.ret (.tup []) [(910,.cells [Qn 901 (pack (s++[b])),.d (.raw (.int .i64 0)),.dead,.d (.raw (.int .u8 ((J8 (YZ (s++[b])):Nat):Int))),.d (.raw (.int .i64 (((s++[b])).length:Int))),.d (.raw (.int .i64 (o+(b.toNat:Nat))))]),(901,.arr 5 1 (Jx (pack (s++[b]))))]):=by
 have hv:=JVc s
 have hb1:b.toNat≤1:=by cases b<;>decide
 have hpl:=JDV s
 have hsh:=JPF hv
 have hor:=JPD hv b
 have hby:((2*J8 (YZ s)+b.toNat:Nat):Int)=((JB8 (YZ s++[b])).toNat:Int):=by
  unfold JB8;rw [JC5,JFl (by omega)]
 have htm:((s.length:Int)+1).tmod 8=(((s.length+1)%8:Nat):Int):=by rw [Int.tmod_eq_emod_of_nonneg (by omega)];omega
 have hlb:(s++[b]).length=s.length+1:=List.length_append
 have hz0:((J8 []:Nat):Int)=0:=rfl
 refine Js Jf Tryz.func67 rfl (by simp only [List.length_cons,List.length_nil,Tryz.ntmps67];omega) JJ rfl ?_
 refine JB.reg ?_
 have X:=(((Fx.mk hsh).a hor).a htm).a hlb
 iterate 7 (refine JA.o1 JAr ?_)
 refine JA.o1 V53 ?_
 iterate 4 (refine JA.o1 JAr ?_)
 refine JA.nil (JB.reg ?_)
 iterate 5 (refine JA.o1 JAr ?_)
 refine JA.o1 V53 ?_
 iterate 3 (refine JA.o1 JAr ?_)
 refine JA.nil (JB.reg ?_)
 iterate 4 (refine JA.o1 JAr ?_)
 refine JA.o1 V53 ?_
 iterate 3 (refine JA.o1 JAr ?_)
 refine JA.nil (JB.reg ?_)
 iterate 4 (refine JA.o1 JAr ?_)
 refine JA.o1 V53 ?_
 refine JA.o1 JAr ?_
 refine JA.nil ?_
 refine JB.cnd JAr (fun hb35=>?_) (fun hb35=>?_)
 ·skip
  have h8:(s.length+1)%8=0:=by have:=of_decide_eq_true hb35;omega
  obtain ⟨q1,q2⟩:=JU5 b h8
  refine JB.opk 10 ?_
  have X:=((X.a q1).a q2).a hz0
  iterate 7 (refine JF.o1 JAr ?_)
  refine JF.lendG (ds:=[]) [(910,910),(901,901)] JD (JQy (pack s) (JB8 (YZ s++[b])) (by omega) _ hby (.raw (.int .u8 ((2*J8 (YZ s)+b.toNat:Nat):Int))) (.raw (.int .i64 ((s.length:Int)+1))) (.raw (.int .i64 (o+(b.toNat:Nat))))) JY JD JD V27 rfl (by decide) (by first|rfl|exact JNH _ _ _ _ _ _|exact JLB _ _ _ _ _ _ _ (fun _=>rfl)) ZT V37 rfl JD JD JD ?_
  refine JF.nil (QO.fin QZ QZ ?_)
  refine JB.reg1 ?_
  iterate 4 (refine JA.o1 JAr ?_)
  refine JA.nil ?_
  exact Ends.fin0 [910,901] (rs:=[]) rfl JAr (by simp only [go_sem,X.h,reduceCtorEq,if_false]<;>first|rfl|((repeat' (first|with_reducible_and_instances rfl|refine Q8 ?_ ?_ ?_|refine Q7 ?_|refine YL ?_|refine Q9 ?_ ?_|refine Q3 ?_|refine Q4 ?_|refine YN ?_|refine Q6 ?_ ?_|refine YI ?_ ?_|refine YK ?_|refine YF ?_|(refine Q5 ?_;omega)));all_goals (first|omega|rfl)))
 ·skip
  have h8:(s.length+1)%8≠0:=by have:=of_decide_eq_false hb35;omega
  obtain ⟨q1,q2⟩:=JU6 b h8
  have X:=(X.a q1).a q2
  exact Ends.fin0 [910,901] (rs:=[]) rfl (by simp only [go_sem,X.h,reduceCtorEq,if_false,JC5]<;>rfl) (by simp only [go_sem,X.h,reduceCtorEq,if_false,JC5]<;>first|rfl|((repeat' (first|with_reducible_and_instances rfl|refine Q8 ?_ ?_ ?_|refine Q7 ?_|refine YL ?_|refine Q9 ?_ ?_|refine Q3 ?_|refine Q4 ?_|refine YN ?_|refine Q6 ?_ ?_|refine YI ?_ ?_|refine YK ?_|refine YF ?_|(refine Q5 ?_;omega)));all_goals (first|omega|rfl)))
theorem JGt (s:Bits)(n many:Nat)(o:Int)(hs:s.length+many≤100000)(ho:0≤o∧o+many≤100000)(hm:many≤63)(hn:n<9223372036854775808):Qq Tryz.prog 65 [.leaf (.ptr 910 0),.int n,.int many] [(910,.cells [Qn 901 (pack s),.d (.raw (.int .i64 0)),.dead,.d (.raw (.int .u8 ((J8 (YZ s):Nat):Int))),.d (.raw (.int .i64 ((s).length:Int))),.d (.raw (.int .i64 o))]),(901,.arr 5 1 (Jx (pack s)))] (.ret (.tup []) [(910,.cells [Qn 901 (pack (s++JX many n)),.d (.raw (.int .i64 0)),.dead,.d (.raw (.int .u8 ((J8 (YZ (s++JX many n)):Nat):Int))),.d (.raw (.int .i64 (((s++JX many n)).length:Int))),.d (.raw (.int .i64 (o+(JV (JX many n):Nat))))]),(901,.arr 5 1 (Jx (pack (s++JX many n))))]):=by
 have ht0:=JVN many n
 have hta:=JVK many n
 refine Js Jf Tryz.func65 rfl (by simp only [List.length_cons,List.length_nil,Tryz.ntmps65];omega) JJ rfl ?_
 refine JB.reg ?_
 refine JA.o ?_
 refine JA.o1 V68 ?_
 refine JA.o ?_
 refine JA.nil (JB.blk1 ?_)
 have X:=Fx.mk ht0
 refine JB.forA [0,1,6] [910,901] (many) (fun k=>[.slot 6 (.int ((many:Int)-1-k)),.obj 910 (.cells [Qn 901 (pack (s++JAI k many n)),.d (.raw (.int .i64 0)),.dead,.d (.raw (.int .u8 ((J8 (YZ (s++JAI k many n)):Nat):Int))),.d (.raw (.int .i64 (((s++JAI k many n)).length:Int))),.d (.raw (.int .i64 (o+(JV (JAI k many n):Nat))))]),.obj 901 (.arr 5 1 (Jx (pack (s++JAI k many n))))]) (fun _=>True) (fun k=>by simp only [go_sem]<;>rfl) (by simp only [go_sem,X.h,Int.natCast_zero,List.append_nil,Int.sub_zero,JHe,Int.add_zero]<;>rfl) ?_ (fun k hk hX=>?_)
 ·trivial
 ·skip
  refine JB.assocS (JB.reg ?_)
  iterate 2 (refine JA.o ?_)
  refine JA.nil ?_
  refine JB.cndS JD (fun hb10=>?_) (fun hb10=>?_)
  ·skip
   have hk:k<many:=by have:=of_decide_eq_true hb10;omega
   have hsh:=JPG .i64 rfl n ((many:Int)-1-k) (i:=many-1-k) (by omega) (by omega)
   have hlt:n / 2^(many-1-k)<9223372036854775808:=Nat.lt_of_le_of_lt (Nat.div_le_self _ _) hn
   have han:=JPC hlt
   have hbt:=JHy (n / 2^(many-1-k))
   have hst:=JVM (n:=n) hk
   have hol:=JAG (JAI k many n)
   have htl:=JVL k many n
   have hsl:(s++JAI k many n).length=s.length+k:=by rw [List.length_append,htl]
   refine JB.skipS (JB.blk (JB.reg1 ?_))
   have X:=(Fx.mk hsh).a han
   iterate 5 (refine JA.o1 JC ?_)
   refine JA.lendG [(910,910),(901,901)] JD (JGo (s++JAI k many n) (n / 2^(many-1-k)%2==1) (o+(JV (JAI k many n):Nat)) (by rw [hsl];omega) (by omega)) JY (.inl ⟨[],by simp only [go_sem]<;>rfl,rfl⟩) JD V5 rfl (by decide) JAQ ZT V29 Zc JD ?_
   refine JA.nil (JR.nrm (JB.reg1 ?_))
   refine JA.o1 JC ?_
   refine JA.o1 Jv ?_
   refine JA.o1 JC ?_
   refine JA.nil ?_
   refine JU.nxt ?_ ?_ ?_
   ·omega
   ·exact JN.kp [0,1,6] [910,901] (by simp only [go_sem,X.h]<;>first|((repeat' (first|with_reducible_and_instances rfl|refine Q8 ?_ ?_ ?_|refine Q7 ?_|refine YL ?_|refine Q9 ?_ ?_|refine Q3 ?_|refine Q4 ?_|refine YN ?_|refine Q6 ?_ ?_|refine YI ?_ ?_|refine YK ?_|refine YF ?_|(refine Q5 ?_;omega)));all_goals (first|omega|(rw [hst];simp [Zp,JCK,Int.add_assoc];done)))|rfl)
   ·trivial
  ·skip
   have hke:k=many:=by have:=of_decide_eq_false hb10;omega
   subst hke
   refine JB.exitS (JU.ext (Qp.hit ?_))
   have X:=Fx.mk hta
   exact Ends.fin0 [910,901] (rs:=[]) rfl JC Qs
end Go.Mw
namespace Go.Mw
open Go.Proofs
open Go.Bk
attribute [-go_sem] YG
attribute [local go_sem] JCU JCd JCa JCc JCV JCb JCZ JCY JCX JCW
theorem JPw (n:Nat)(h1:1≤n)(h2:n<9223372036854775808):Jb Tryz.prog 156 [.leaf (.d (.raw (.int .u64 n)))] (.int (bl n:Nat)) []:=
 by
  have:=JPv (n:Int) (by omega) (by omega)
  rwa [Int.toNat_natCast,JPR h1 (by omega)] at this
theorem JQK (s:Bits)(n:Nat)(o:Int)(hs:s.length≤90000)(ho:0≤o∧o≤90000)(h1:1≤n)(hn:n≤65535):Qq Tryz.prog 121 [.leaf (.ptr 910 0),.int n] [(910,.cells [Qn 901 (pack s),.d (.raw (.int .i64 0)),.dead,.d (.raw (.int .u8 ((J8 (YZ s):Nat):Int))),.d (.raw (.int .i64 ((s).length:Int))),.d (.raw (.int .i64 o))]),(901,.arr 5 1 (Jx (pack s)))] (.ret (.tup []) [(910,.cells [Qn 901 (pack (s++YS n)),.d (.raw (.int .i64 0)),.dead,.d (.raw (.int .u8 ((J8 (YZ (s++YS n)):Nat):Int))),.d (.raw (.int .i64 (((s++YS n)).length:Int))),.d (.raw (.int .i64 (o+(JV (YS n):Nat))))]),(901,.arr 5 1 (Jx (pack (s++YS n))))]):=by
 have hb1:=(JCe n).1
 have hb2:=JED (n:=n) (k:=16) (by omega) (by omega)
 have hg:YS n=JX (2*bl n-1) n:=rfl
 refine Js Jf Tryz.func121 rfl (by simp only [List.length_cons,List.length_nil,Tryz.ntmps121];omega) JJ rfl ?_
 refine JB.reg1 ?_
 have X:=Fx.mk hg
 iterate 3 (refine JA.o1 JC ?_)
 refine JA.o1 Jv ?_
 refine JA.c1 (JPw n h1 (by omega)) JC JC ?_
 iterate 2 (refine JA.o1 Jv ?_)
 refine JA.lendG [(910,910),(901,901)] JD (JGt s n (2*bl n-1) o (by omega) (by omega) (by omega) (by omega)) JY (.inl ⟨[],by simp only [go_sem]<;>rfl,rfl⟩) JD V2 rfl (by decide) JAQ ZT V29 Zc JD ?_
 refine JA.nil ?_
 exact Ends.fin0 [910,901] (rs:=[]) rfl JC Qs
theorem JR0 (n:Nat):(YS n).length=2*bl n-1:=Yd _ _
attribute [local irreducible] JX YS JV pack YZ J8 Qd YC ZL Qn Jx
theorem JLc (s:Bits)(x:Pl)(last o:Int)(hs:s.length≤80000)(hl:0≤last∧last≤65535)(hf:fits x last):Qq Tryz.prog 66 [.leaf (.ptr 910 0),plV x,.int last] [(910,.cells [Qn 901 (pack s),.d (.raw (.int .i64 0)),.dead,.d (.raw (.int .u8 ((J8 (YZ s):Nat):Int))),.d (.raw (.int .i64 ((s).length:Int))),.d (.raw (.int .i64 o))]),(901,.arr 5 1 (Jx (pack s)))] (.ret (.tup []) [(910,.cells [Qn 901 (pack (s++Qd x last)),.d (.raw (.int .i64 0)),.dead,.d (.raw (.int .u8 ((J8 (YZ (s++Qd x last)):Nat):Int))),.d (.raw (.int .i64 (((s++Qd x last)).length:Int))),.d (.raw (.int .i64 ((JV (Qd x last):Nat):Int)))]),(901,.arr 5 1 (Jx (pack (s++Qd x last))))]):=by
 obtain ⟨⟨f1,f2⟩,⟨f3,f4⟩,f5,f6⟩:=hf
 have hb1:=(JCe (x.num-last).toNat).1
 have hb2:=JED (n:=(x.num-last).toNat) (k:=16) (by omega) (by omega)
 have hgl:(YS (x.num-last).toNat).length=2*bl (x.num-last).toNat-1:=JR0 _
 have h3l:=Yd 3 x.cls.toNat
 have h18l:=Yd 18 x.day.toNat
 have g1:=JAG (YS (x.num-last).toNat)
 have g2:=JAG (JX 3 x.cls.toNat)
 have g3:=JAG (JX 18 x.day.toNat)
 have l1:(s++(YS (x.num-last).toNat)).length=s.length+(YS (x.num-last).toNat).length:=List.length_append
 have l2:((s++(YS (x.num-last).toNat))++(JX 3 x.cls.toNat)).length=(s++(YS (x.num-last).toNat)).length+3:=by rw [List.length_append,h3l]
 have l3:(((s++(YS (x.num-last).toNat))++(JX 3 x.cls.toNat))++(JX 18 x.day.toNat)).length=((s++(YS (x.num-last).toNat))++(JX 3 x.cls.toNat)).length+18:=by rw [List.length_append,h18l]
 have hob:JV (YC x last)=JV (YS (x.num-last).toNat)+JV (JX 3 x.cls.toNat)+JV (JX 18 x.day.toNat):=by unfold YC;rw [Zp,Zp];omega
 have htm:(0+(JV (YS (x.num-last).toNat):Nat)+(JV (JX 3 x.cls.toNat):Nat)+(JV (JX 18 x.day.toNat):Nat):Int).tmod 2=(((ZL (YC x last)).toNat:Nat):Int):=by
  unfold ZL;rw [JHy,hob,Int.tmod_eq_emod_of_nonneg (by omega)];omega
 have hss:s++Qd x last=(((s++(YS (x.num-last).toNat))++(JX 3 x.cls.toNat))++(JX 18 x.day.toNat))++[ZL (YC x last)]:=by unfold Qd YC;simp only [List.append_assoc]
 have hop:JV (Qd x last)=JV (YC x last)+(ZL (YC x last)).toNat:=by unfold Qd;rw [Zp,JCK]
 have hpl:(Qd x last).length=(YS (x.num-last).toNat).length+3+18+1:=by unfold Qd YC;simp only [List.length_append,List.length_singleton,h3l,h18l];try omega
 have l4:((((s++(YS (x.num-last).toNat))++(JX 3 x.cls.toNat))++(JX 18 x.day.toNat))++[ZL (YC x last)]).length=(((s++(YS (x.num-last).toNat))++(JX 3 x.cls.toNat))++(JX 18 x.day.toNat)).length+1:=List.length_append
 refine Js Jf Tryz.func66 rfl (by simp only [List.length_cons,List.length_nil,Tryz.ntmps66];omega) JJ rfl ?_
 refine JB.reg ?_
 have X:=((Fx.mk htm).a hss).a hop
 refine JA.o1 JC ?_
 refine JA.nil (JB.reg ?_)
 iterate 4 (refine JA.o1 JC ?_)
 refine JA.nil (JB.reg ?_)
 iterate 4 (refine JA.o1 JC ?_)
 refine JA.o1 Jv ?_
 refine JA.lendG [(910,910),(901,901)] JD (JQK s (x.num-last).toNat 0 (by omega) (by omega) (by omega) (by omega)) JY (.inl ⟨[],by simp only [go_sem]<;>rfl,rfl⟩) JD V5 rfl (by decide) JAQ ZT V29 Zc JD ?_
 refine JA.nil (JB.reg ?_)
 iterate 3 (refine JA.o1 JC ?_)
 refine JA.lendG [(910,910),(901,901)] JD (JGt (s++(YS (x.num-last).toNat)) x.cls.toNat 3 (0+(JV (YS (x.num-last).toNat):Nat):Int) (by omega) (by omega) (by omega) (by omega)) JY (.inl ⟨[],by simp only [go_sem]<;>rfl,rfl⟩) JD V2 rfl (by decide) JAQ ZT V29 Zc JD ?_
 refine JA.nil (JB.reg ?_)
 iterate 3 (refine JA.o1 JC ?_)
 refine JA.lendG [(910,910),(901,901)] JD (JGt ((s++(YS (x.num-last).toNat))++(JX 3 x.cls.toNat)) x.day.toNat 18 (0+(JV (YS (x.num-last).toNat):Nat)+(JV (JX 3 x.cls.toNat):Nat):Int) (by omega) (by omega) (by omega) (by omega)) JY (.inl ⟨[],by simp only [go_sem]<;>rfl,rfl⟩) JD V2 rfl (by decide) JAQ ZT V29 Zc JD ?_
 refine JA.nil (JB.reg1 ?_)
 iterate 5 (refine JA.o1 JC ?_)
 refine JA.o1 Jv ?_
 refine JA.lendG [(910,910),(901,901)] JD (JGo (((s++(YS (x.num-last).toNat))++(JX 3 x.cls.toNat))++(JX 18 x.day.toNat)) (ZL (YC x last)) (0+(JV (YS (x.num-last).toNat):Nat)+(JV (JX 3 x.cls.toNat):Nat)+(JV (JX 18 x.day.toNat):Nat):Int) (by omega) (by omega)) JY (.inl ⟨[],by simp only [go_sem]<;>rfl,rfl⟩) JD V5 rfl (by decide) JAQ ZT V29 Zc JD ?_
 refine JA.nil ?_
 exact Ends.fin0 [910,901] (rs:=[]) rfl JC (by simp only [go_sem,X.h]<;>first|rfl|((repeat' (first|with_reducible_and_instances rfl|refine Q8 ?_ ?_ ?_|refine Q7 ?_|refine YL ?_|refine Q9 ?_ ?_|refine Q3 ?_|refine Q4 ?_|refine YN ?_|refine Q6 ?_ ?_|refine YI ?_ ?_|refine YK ?_|refine YF ?_|(refine Q5 ?_;omega)));all_goals (first|omega|((repeat' (first|with_reducible_and_instances rfl|refine Q8 ?_ ?_ ?_|refine congrArg (Jh.ret _) ?_|refine Q7 ?_|refine Q9 ?_ ?_|refine congrArg (List.cons _) ?_|refine congrArg₂ List.cons ?_ ?_|refine congrArg (Prod.mk _) ?_|refine Q3 ?_|refine Q4 ?_|refine Q6 ?_ ?_|refine Q5 ?_));all_goals (first|omega|(trace_state;skip))))))
end Go.Mw
namespace Go.Mw
open Go.Proofs
open Go.Bk
attribute [-go_sem] YG
attribute [local go_sem] JCU JCd JCa JCc JCV JCb JCZ JCY JCX JCW
theorem JLF (l:Bs)(hl:l≠[])(x y z:D):Qq Tryz.prog 69 [.leaf (.ptr 910 0)] [(910,.cells [Qn 901 l,.d (.raw (.int .i64 0)),.dead,.d x,.d y,.d z]),(901,.arr 5 1 (Jx l))] (.ret (.leaf (.own 901 0 l.length l.length)) [(910,.cells [Qn 901 l,.d (.raw (.int .i64 0)),.dead,.d x,.d y,.d z]),(901,.arr 5 1 (Jx l))]):=by
 rw [JIY hl]
 have hbl:=ZH l
 refine Js Jf Tryz.func69 rfl (by simp only [List.length_cons,List.length_nil,Tryz.ntmps69];omega) JJ rfl ?_
 refine JB.reg ?_
 have X:=Fx.mk hbl
 refine JA.o1 JC ?_
 refine JA.nil ?_
 refine JB.opk 12 ?_
 iterate 8 (refine JF.o1 JC ?_)
 refine JF.o1 QE ?_
 refine JF.o1 JC ?_
 refine JF.nil (QO.fin QZ QZ ?_)
 exact Ends.fin [910,901] (rs:=[.tmp 2]) rfl JC Qs
theorem JLG (l:Bs)(hl:l≠[])(hn:l.length≤1000000):Qq Tryz.prog 68 [.leaf (.own 901 0 l.length l.length)] [(901,.arr 5 1 (Jx l))] (.ret (.leaf (.own 5 0 l.length l.length)) [(5,.arr 5 1 (Jx l)),(901,.arr 5 1 (Jx l))]):=by
 have hbl:=ZH l
 have hp:0<l.length:=List.length_pos_iff.2 hl
 have htk:(Jx l).take l.length=Jx l:=List.take_of_length_le (by omega)
 refine Js Jf Tryz.func68 rfl (by simp only [List.length_cons,List.length_nil,Tryz.ntmps68];omega) JJ rfl ?_
 refine JB.reg ?_
 have X:=(Fx.mk hbl).a htk
 refine JA.o1 JC ?_
 refine JA.nil (JB.assocS (JB.reg ?_))
 refine JA.o1 JC ?_
 refine JA.val (JUO Tryz.underlying53 JD JD hbl hp) rfl JD ?_ 
 refine JA.nil ?_
 refine JB.cndS JC (fun hb4=>?_) (fun hb4=>?_)
 ·exact absurd hb4 (by simp)
 ·skip
  refine JB.skipS (JB.reg ?_)
  iterate 2 (refine JA.o1 JC ?_)
  refine JA.o1 V4 ?_
  refine JA.o1 JC ?_
  refine JA.nil ?_
  exact Ends.fin [5,901] (rs:=[.tmp 2]) rfl JC Qs
abbrev JPg (l:Bs)(e:Int):AV:=.tup [(false,[.d (Y5 l)]),(false,[.d (.i e)])]
theorem JLZ (n:Nat)(hn:n≤1000):Qq Tryz.prog 65 [.leaf (.ptr 910 0),.int n,.int 8] [(910,.cells [.d (.raw (.slice none 0 0)),.d (.raw (.int .i64 0)),.dead,.d (.raw (.int .u8 0)),.d (.raw (.int .i64 0)),.d (.raw (.int .i64 0))]),(901,.arr 5 1 [])] (.ret (.tup []) [(910,.cells [Qn 901 (pack (JX 8 n)),.d (.raw (.int .i64 0)),.dead,.d (.raw (.int .u8 ((J8 (YZ (JX 8 n)):Nat):Int))),.d (.raw (.int .i64 (((JX 8 n)).length:Int))),.d (.raw (.int .i64 ((JV (JX 8 n):Nat):Int)))]),(901,.arr 5 1 (Jx (pack (JX 8 n))))]):=by
 have:=JGt [] n 8 0 (by simp) (by omega) (by omega) (by omega)
 rw [Int.zero_add] at this
 exact this
theorem JHg (l:List Pl):pack (Q2 (J3 l))≠[]:=fun h=>by
 have h1:=JDV (Q2 (J3 l))
 rw [h] at h1
 obtain ⟨k,hk⟩:=JM9 (J3 l)
 have h2:(J3 l).length≤(Q2 (J3 l)).length:=by unfold Q2;rw [List.length_append];omega
 have h3:8≤(J3 l).length:=by unfold J3;rw [List.length_append,Yd];omega
 simp only [List.length_nil] at h1
 omega
attribute [local irreducible] JX YS pack YZ J8 Qd YC ZL Jx
theorem JLP (l:List Pl)(hl:l.length≤1000):Jb Tryz.prog 25 [.leaf (.d (Yu l))] (JPg (Y0 l) (ZO l)) []:=by
 have hn1:=JAG (JX 8 l.length)
 rw [Yd] at hn1
 have hn8:=Yd 8 l.length
 refine Js Jf Tryz.func25 rfl (by simp only [List.length_cons,List.length_nil,Tryz.ntmps25];omega) JJ rfl ?_
 refine JB.reg ?_
 iterate 2 (refine JA.o ?_)
 refine JA.nil (JB.assocS (JB.reg ?_))
 refine JA.o ?_
 refine JA.c1 (JEE l hl) JD JD ?_
 refine JA.o ?_
 refine JA.nil (JB.assocS (JB.reg ?_))
 iterate 2 (refine JA.o ?_)
 refine JA.nil ?_
 refine JB.cndS JD (fun hb12=>?_) (fun hb12=>?_)
 ·skip
  have hne:ZO l≠0:=by simpa using hb12
  have hr:Y0 l=[]:=if_neg hne
  refine JB.assocS (JB.reg ?_)
  have X:=Fx.mk hr
  iterate 3 (refine JA.o1 (by simp only [go_sem,X.h,JB7]<;>rfl) ?_)
  refine JA.nild 2 1 JD JD ?_
  refine JA.nil (JB.retS ?_)
  exact Ends.fin [] (rs:=[.tmp 2,.tmp 3]) rfl (by simp only [go_sem,X.h,JB7]<;>rfl) (by simp only [go_sem,X.h,JB7]<;>first|rfl|((repeat' (first|with_reducible_and_instances rfl|refine Q8 ?_ ?_ ?_|refine Q7 ?_|refine YL ?_|refine Q9 ?_ ?_|refine Q3 ?_|refine Q4 ?_|refine YN ?_|refine Q6 ?_ ?_|refine YI ?_ ?_|refine YK ?_|refine YF ?_|(refine Q5 ?_;omega)));all_goals exact JB7))
 ·skip
  have he0:ZO l=0:=by simpa using hb12
  have hr:Y0 l=pack (Q2 (J3 l)):=if_pos he0
  obtain ⟨hch,hl60⟩:=JGx he0
  have hx65:∀x∈l,x.num≤65535:=fun x hx=>by
   have h:=List.all_eq_true.1 (JAn he0).2.1 x hx
   unfold JAH at h
   simp only [Bool.and_eq_true,ZC] at h
   omega
  have hca0:=JGw l 0 hch ⟨by omega,by omega⟩ hx65
  refine JB.skipS (JB.reg ?_)
  have X:=(Fx.mk hr).a he0
  refine JA.o1 JC ?_
  refine JA.nil (JB.reg ?_)
  refine JA.deadc 5 2 JD JD ?_
  refine JA.arr0 5901 5 1 JD (by omega) (by omega) JD ?_
  iterate 2 (refine JA.o1 JC ?_)
  refine JA.lendG [(910,5),(901,5901)] JD (JLZ l.length hl) JY (.inl ⟨[],by simp only [go_sem]<;>rfl,rfl⟩) JD V2 rfl (by decide) JAQ ZT V29 Zc JD ?_
  refine JA.nil (JB.reg ?_)
  refine JA.o1 JC ?_
  refine JA.nil (JB.assocS (JB.reg ?_))
  iterate 3 (refine JA.o1 JC ?_)
  refine JA.nil (JB.blk ?_)
  refine JB.forA [5,6,17,18,19] [5,5901] (l.length) (fun k=>[.slot 6 (.int (QY 0 (l.take k))),.slot 19 (.int k),.obj 5 (.cells [Qn 5901 (pack (JX 8 l.length++QB 0 (l.take k))),.d (.raw (.int .i64 0)),.dead,.d (.raw (.int .u8 ((J8 (YZ (JX 8 l.length++QB 0 (l.take k))):Nat):Int))),.d (.raw (.int .i64 (((JX 8 l.length++QB 0 (l.take k))).length:Int))),.d (.raw (.int .i64 (Zg 0 ((JV (JX 8 l.length):Nat):Int) (l.take k))))]),.obj 5901 (.arr 5 1 (Jx (pack (JX 8 l.length++QB 0 (l.take k)))))]) (fun _=>True) (fun k=>by simp only [go_sem]<;>rfl) (by simp only [go_sem,X.h,Int.natCast_zero,List.take_zero,QB,QY,Zg,List.append_nil]<;>rfl) ?_ (fun k hk hX=>?_)
  ·trivial
  ·skip
   refine JB.reg ?_
   refine JA.o1 JC ?_
   refine JA.nil ?_
   refine JB.cndS JC (fun hb20=>?_) (fun hb20=>?_)
   ·skip
    have hlt:=Yk hb20
    obtain ⟨x,hx⟩:=Yj hb20
    have hca:=hca0 k
    have htk:=Yf hx
    have hg:JX 8 l.length++QB 0 (l.take (k+1))=JX 8 l.length++QB 0 (l.take k)++Qd x (QY 0 (l.take k)):=by rw [htk,JFc,List.append_assoc]
    have hp:QY 0 (l.take (k+1))=x.num:=by rw [htk,JJC]
    have ho:Zg 0 ((JV (JX 8 l.length):Nat):Int) (l.take (k+1))=((JV (Qd x (QY 0 (l.take k))):Nat):Int):=by rw [htk,JJB]
    have hgl:(QB 0 (l.take (k+1))).length=(QB 0 (l.take k)).length+(Qd x (QY 0 (l.take k))).length:=by rw [htk,JFc,List.length_append]
    refine JB.skipS (JB.blk (JB.reg ?_))
    have X:=(((X.a hx).a hg).a hp).a ho
    refine JA.o1 QE ?_
    iterate 3 (refine JA.o1 JC ?_)
    refine JA.nil (JB.reg ?_)
    iterate 2 (refine JA.o1 JC ?_)
    refine JA.lendG [(910,5),(901,5901)] JD (JLc (JX 8 l.length++QB 0 (l.take k)) x (QY 0 (l.take k)) (Zg 0 ((JV (JX 8 l.length):Nat):Int) (l.take k)) (by rw [List.length_append];omega) hca.2.1 (hca.2.2.2 x hx)) JY (.inl ⟨[],by simp only [go_sem]<;>rfl,rfl⟩) JD V2 rfl (by decide) JAQ ZT V29 Zc JD ?_
    refine JA.nil (JB.reg1 ?_)
    iterate 3 (refine JA.o1 JC ?_)
    refine JA.nil (JR.nrm (JB.reg1 ?_))
    refine JA.o1 Jv ?_
    refine JA.o1 JC ?_
    refine JA.nil ?_
    refine JU.nxt ?_ ?_ ?_
    ·omega
    ·exact JN.kp [5,6,17,18,19] [5,5901] V7
    ·trivial
   ·skip
    have hke:=Yo hb20
    have htk:l.take k=l:=List.take_of_length_le hke
    have hca:=hca0 k
    rw [htk] at hca
    have hol:=hca.2.2.1 ((JV (JX 8 l.length):Nat):Int) (by omega)
    have hbb:JX 8 l.length++QB 0 l=J3 l:=rfl
    have hbl:(J3 l).length=8+(QB 0 l).length:=by rw [←hbb,List.length_append,hn8]
    have hpl:(Q2 (J3 l)).length=(J3 l).length+((8-(J3 l).length%8)%8):=by unfold Q2;rw [List.length_append,List.length_replicate]
    have hg0:=hca.1
    have hkl:k≤60:=by omega
    have hbl2:(JX 8 l.length).length+(QB 0 l).length=(J3 l).length:=by rw [←hbb,List.length_append]
    refine JB.exitS (JU.ext (JR.hit (JB.blk ?_)))
    have X:=((X.a htk).a hbb).a hbl2
    refine JB.forA [5] [5,5901] (((8-(J3 l).length%8)%8)) (fun j=>[.obj 5 (.cells [Qn 5901 (pack (J3 l++List.replicate j false)),.d (.raw (.int .i64 0)),.dead,.d (.raw (.int .u8 ((J8 (YZ (J3 l++List.replicate j false)):Nat):Int))),.d (.raw (.int .i64 (((J3 l++List.replicate j false)).length:Int))),.d (.raw (.int .i64 (Zg 0 ((JV (JX 8 l.length):Nat):Int) l)))]),.obj 5901 (.arr 5 1 (Jx (pack (J3 l++List.replicate j false))))]) (fun _=>True) (fun j=>by simp only [go_sem]<;>rfl) (by simp only [go_sem,X.h,List.replicate_zero,List.append_nil,List.length_nil,Nat.add_zero]<;>rfl) ?_ (fun j hj Xj=>?_)
    ·trivial
    ·skip
     skip
     have htm1:(((J3 l++List.replicate j false).length:Nat):Int).tmod 8=((((J3 l).length+j)%8:Nat):Int):=by rw [Int.tmod_eq_emod_of_nonneg (by omega)];simp
     have htm2:(((J3 l).length+(List.replicate j false).length:Nat):Int).tmod 8=((((J3 l).length+j)%8:Nat):Int):=by rw [Int.tmod_eq_emod_of_nonneg (by omega)];simp
     have htm3:(((J3 l).length+j:Nat):Int).tmod 8=((((J3 l).length+j)%8:Nat):Int):=by rw [Int.tmod_eq_emod_of_nonneg (by omega)];simp
     refine JB.assocS (JB.reg ?_)
     have X:=((X.a htm1).a htm2).a htm3
     iterate 2 (refine JA.o1 JC ?_)
     refine JA.o1 Jv ?_
     refine JA.o1 JC ?_
     refine JA.nil ?_
     refine JB.cndS JC (fun hb32=>?_) (fun hb32=>?_)
     ·skip
      have hj:j<((8-(J3 l).length%8)%8):=by have:=hb32;simp at this;omega
      have hst:J3 l++List.replicate (j+1) false=J3 l++List.replicate j false++[false]:=by rw [List.replicate_succ',List.append_assoc]
      refine JB.skipS (JB.blk1 (JB.reg1 ?_))
      refine JA.lendG [(910,5),(901,5901)] JD (JGo (J3 l++List.replicate j false) false (Zg 0 ((JV (JX 8 l.length):Nat):Int) l) (by rw [List.length_append,List.length_replicate];omega) (by omega)) JY (.inl ⟨[],by simp only [go_sem]<;>rfl,rfl⟩) JD V5 rfl (by decide) JAQ ZT V29 Zc JD ?_
      refine JA.nil (Qp.nrm ?_)
      refine JU.nxt ?_ ?_ ?_
      ·omega
      ·exact JN.kp [5] [5,5901] V6
      ·trivial
     ·skip
      have hj:j=((8-(J3 l).length%8)%8):=by have:=hb32;simp at this;omega
      have hje:J3 l++List.replicate j false=Q2 (J3 l):=by rw [hj];rfl
      have hlj:(J3 l).length+j=(Q2 (J3 l)).length:=by rw [hpl,hj]
      have hb0:=ZH (pack (Q2 (J3 l)))
      have htk0:(Jx (pack (Q2 (J3 l)))).take (pack (Q2 (J3 l))).length=Jx (pack (Q2 (J3 l))):=List.take_of_length_le (by omega)
      refine JB.exitS (JU.ext (JR.hit (JB.reg ?_)))
      have X:=(X.a hje).a hlj
      refine JA.o1 JC ?_
      have X:=(Fx.mk hje).a hlj
      refine JA.lendG [(910,5),(901,5901)] JD (JLF (pack (Q2 (J3 l))) (JHg l) (.raw (.int .u8 ((J8 (YZ (Q2 (J3 l))):Nat):Int))) (.raw (.int .i64 (((Q2 (J3 l))).length:Int))) (.raw (.int .i64 (Zg 0 ((JV (JX 8 l.length):Nat):Int) l)))) JY (.inl ⟨[],by simp only [go_sem]<;>rfl,rfl⟩) JC Y1 rfl (by decide) JAQ V51 V29 Zc JC ?_
      refine JA.lendG [(901,5901)] JD (JLG (pack (Q2 (J3 l))) (JHg l) (by rw [JDV];omega)) JY (.inl ⟨[],by simp only [go_sem]<;>rfl,rfl⟩) JD Y1 rfl (by decide) YB Zb YQ V52 JD ?_
      have X:=(Fx.mk hb0).a htk0
      refine JA.frz 37005 JC ?_
      have X:=(((((((((Fx.mk hr).a he0).a htk).a hbb).a hbl2).a htm1).a htm2).a htm3).a hje).a hlj
      iterate 2 (refine JA.o1 JC ?_)
      refine JA.nil ?_
      exact Ends.fin [] (rs:=[.tmp 2,.tmp 3]) rfl JC Qs
end Go.Mw
namespace Go.Mw
open Go.Proofs
open Go.Bk
attribute [-go_sem] YG
attribute [local go_sem] JCU JCd JCa JCc JCV JCb JCZ JCY JCX JCW
theorem JEK {α:Type}{l:List α}{k:Nat}{x:α}(h:l[k]? = some x):l.drop k=x::l.drop (k+1):=by
 obtain ⟨hk,rfl⟩:=List.getElem?_eq_some_iff.1 h
 exact List.drop_eq_getElem_cons hk
def Qf (s:Bits):List Int:=s.map fun b=>(b.toNat:Int)
theorem JBH (s:Bits):(Qf s).length=s.length:=by unfold Qf;simp
def JAx (s:Bits):List (List AV):=s.map fun b=>[.int (b.toNat:Nat)]
theorem JEC (s:Bits):(JAx s).length=s.length:=by unfold JAx;simp
theorem JPO {s:Bits}{k:Nat}{b:Bool}(h:s[k]? = some b):(JAx s).drop k=[.int (b.toNat:Nat)]::(JAx s).drop (k+1):=by
 refine JEK ?_
 unfold JAx
 rw [List.getElem?_map,h];rfl
theorem JPP {s:Bits}{k:Nat}{v:List AV}(h:(JAx s)[k]? = some v):∃b,s[k]? = some b∧v=[.int (b.toNat:Nat)]:=by
 unfold JAx at h
 rw [List.getElem?_map] at h
 cases hn:s[k]? with
 |none=>simp [hn] at h
 |some n=>exact ⟨n,rfl,by simpa [hn] using h.symm⟩
theorem JMs:∀(k n j:Nat),j<k→(JX k n)[j]? = some (n / 2^(k-1-j)%2==1)
 |0,_,_,h=>by omega
 |k+1,n,j,h=>by
  rw [JX]
  by_cases hj:j<k
  ·rw [List.getElem?_append_left (by rw [Yd];exact hj),JMs k (n / 2) j hj,Nat.div_div_eq_div_mul,Nat.mul_comm,←Nat.pow_succ,show (k-1-j).succ=k+1-1-j by omega]
  ·have e:j=k:=by omega
   subst e
   rw [List.getElem?_append_right (by rw [Yd];exact Nat.le_refl _),Yd]
   simp
theorem JOn:∀(b:Bs) (k j:Nat) (c:UInt8),b[k]? = some c→j<8→(Q0 b)[8*k+j]? = some (c.toNat / 2^(7-j)%2==1)
 |[],_,_,_,h,_=>by simp at h
 |d::b,0,j,c,h,hj=>by
  simp at h;subst h
  show (JX 8 d.toNat++Q0 b)[8*0+j]? = _
  rw [List.getElem?_append_left (by rw [Yd];omega),Nat.mul_zero,Nat.zero_add,JMs 8 _ j hj]
 |d::b,k+1,j,c,h,hj=>by
  show (JX 8 d.toNat++Q0 b)[8*(k+1)+j]? = _
  rw [List.getElem?_append_right (by rw [Yd];omega),Yd,show 8*(k+1)+j-8=8*k+j by omega]
  exact JOn b k j c (by simpa using h) hj
theorem JPb {b:Bs}{k:Nat}{c:UInt8}(h:b[k]? = some c):(Jx b)[k]? = some [.raw (.int .u8 c.toNat)]:=by
 unfold Jx
 rw [List.getElem?_map,h];rfl
theorem JPB {x:Nat}(h:x<256):YG .and .u8 (x:Int) 1=some (.int .u8 ((x%2:Nat):Int)):=by
 have e:IntKind.u8.wrap ((BitVec.ofInt 8 (x:Int) &&& BitVec.ofInt 8 1).toNat:Int)=((x%2:Nat):Int):=by
  have e:(BitVec.ofInt 8 (x:Int) &&& BitVec.ofInt 8 1).toNat=x%2:=by
   rw [BitVec.toNat_and]
   have h1:(BitVec.ofInt 8 (x:Int)).toNat=x:=by rw [BitVec.toNat_ofInt];omega
   have h2:(BitVec.ofInt 8 1).toNat=1:=by decide
   rw [h1,h2,Nat.and_one_is_mod]
  rw [e,IntKind.wrap_u8];omega
 exact congrArg (fun z=>some (Value.int .u8 z)) e
theorem JUS (x:Nat)(a:Int){i:Nat}(ha:a=i)(h:i≤8):YG .shr .u8 (x:Int) a=some (.int .u8 ((x / 2^i:Nat):Int)):=by
 subst ha
 show (if (i:Int)<0 then none else some (Value.int .u8 ((x:Int).fdiv (2^(min (i:Int).toNat 8)))))=_
 rw [if_neg (by omega),Int.toNat_natCast,Nat.min_eq_left h,Int.fdiv_eq_ediv_of_nonneg _ (Int.le_of_lt (Int.pow_pos (by decide)))]
 norm_cast
abbrev JR9 (b:Bs):D:=.fn 159 [.pt [Y5 b]]
theorem JQO (b:Bs):Jb Tryz.prog 126 [.leaf (.d (Y5 b))] (.leaf (.d (JR9 b))) []:=by
 refine Js Jf Tryz.func126 rfl (by simp only [List.length_cons,List.length_nil,Tryz.ntmps126];omega) JJ rfl ?_
 refine JB.reg ?_
 iterate 2 (refine JA.o ?_)
 refine JA.nil (JB.reg ?_)
 refine JA.frz 1 JD ?_
 iterate 2 (refine JA.o ?_)
 refine JA.frz 3 JD ?_
 refine JA.nil ?_
 exact Ends.fin [] (rs:=[.tmp 2]) rfl JD ZB
theorem JQP (b:Bs)(hb:b.length≤1000000):Qq Tryz.prog 159 [.leaf (.obj 900),.leaf (.d (.pt [Y5 b]))] [(900,.yl)] (lB (JAx (Q0 b))):=by
 have hbl:=ZH b
 have hul:=JGE b
 refine Js Jf Tryz.func159 rfl (by simp only [List.length_cons,List.length_nil,Tryz.ntmps159];omega) JJ rfl ?_
 refine JB.reg ?_
 have X:=Fx.mk hbl
 iterate 3 (refine JA.o1 JC ?_)
 refine JA.nil (JB.blk1 ?_)
 refine JB.forY [0,6,7,8] [900] (b.length) (fun k=>[.slot 8 (.int k)]) (fun k=>lB ((JAx (Q0 b)).drop (8*k))) (fun _=>True) (fun k=>by simp only [go_sem]<;>rfl) (by simp only [go_sem,X.h,Int.natCast_zero,Nat.mul_zero,List.drop_zero]<;>rfl) ?_ (fun k hk hX=>?_)
 ·trivial
 ·skip
  refine JB.reg ?_
  refine JA.o1 JC ?_
  refine JA.nil ?_
  refine JB.cndS JC (fun hb9=>?_) (fun hb9=>?_)
  ·skip
   have hlt:=Yk hb9
   obtain ⟨c,hx⟩:=Yj hb9
   have hxb:=JPb hx
   have hc:=c.toNat_lt
   refine JB.skipS (JB.blk (JB.reg ?_))
   have X:=X.a hxb
   refine JA.o1 QE ?_
   iterate 2 (refine JA.o1 JC ?_)
   refine JA.nil (JB.reg ?_)
   refine JA.o1 JC ?_
   refine JA.nil (JB.blk1 ?_)
   refine JB.forY [0,4,5,6,7,8] [900] (8) (fun j=>[.slot 5 (.int (7-j))]) (fun j=>lB ((JAx (Q0 b)).drop (8*k+j))) (fun _=>True) (fun j=>by simp only [go_sem]<;>rfl) (by simp only [go_sem,X.h,Int.natCast_zero,Int.sub_zero,Nat.add_zero]<;>rfl) ?_ (fun j hj Xj=>?_)
   ·trivial
   ·skip
    refine JB.assocS (JB.reg ?_)
    iterate 2 (refine JA.o1 JC ?_)
    refine JA.nil ?_
    refine JB.cndS JC (fun hb13=>?_) (fun hb13=>?_)
    ·skip
     have hj8:j<8:=by have:=of_decide_eq_true hb13;omega
     have hsh:=JUS c.toNat (7-(j:Int)) (i:=7-j) (by omega) (by omega)
     have hle:c.toNat / 2^(7-j)≤c.toNat:=Nat.div_le_self _ _
     have han:=JPB (x:=c.toNat / 2^(7-j)) (by omega)
     have htb:((c.toNat / 2^(7-j)%2:Nat):Int)=(((c.toNat / 2^(7-j)%2==1).toNat:Nat):Int):=by rw [JHy]
     have hdr:=JPO (JOn b k j c hx hj8)
     refine JB.skipS (JB.blk (JB.reg ?_))
     have X:=(X.a hsh).a han
     iterate 5 (refine JA.o1 JC ?_)
     refine JA.o1 Jv ?_
     have X:=Fx.mk htb
     refine JA.yld (args:=[.int ((c.toNat / 2^(7-j)%2==1).toNat:Nat)]) JD JD JC (by exact ⟨WkP.refl rfl,trivial⟩) (by simp only [hdr,JJA]<;>rfl) (fun t=>?_)
     have X:=(((Fx.mk hbl).a hxb).a hsh).a han
     refine JA.o1 JC ?_
     refine JA.nil ?_
     refine JB.cnd JC (fun hb23=>?_) (fun hb23=>?_)
     ·skip
      have ht:t=false:=by cases t<;>simp_all
      subst ht
      refine JR.ret (JU.ret (Qp.ret (JR.ret (JU.ret (Qp.ret ?_)))))
      exact Ends.fin [] (rs:=[]) rfl (by simp only [go_sem,X.h,cond_false]<;>rfl) (by simp only [go_sem,X.h,cond_false]<;>first|rfl|exact QP)
     ·skip
      have ht:t=true:=by cases t<;>simp_all
      subst ht
      refine JR.nrm (JB.reg1 ?_)
      refine JA.o1 (by simp only [go_sem,X.h,cond_true]<;>rfl) ?_
      refine JA.o1 (by simp only [go_sem,X.h,cond_true];(try simp (disch:=omega) only [IntWalk.i64_in,IntWalk.u64_in,IntWalk.i32_in,IntWalk.u8_in,if_neg,if_pos])<;> rfl) ?_
      refine JA.o1 (by simp only [go_sem,X.h,cond_true]<;>rfl) ?_
      refine JA.nil ?_
      refine JU.nxt ?_ ?_ ?_
      ·omega
      ·exact JN.kp [0,4,5,6,7,8] [900] (by simp only [go_sem,X.h,cond_true]<;>first|exact QP|rfl)
      ·trivial
    ·skip
     have hj8:j=8:=by have:=of_decide_eq_false hb13;omega
     subst hj8
     refine JB.exitS (JU.ext (Qp.hit (JR.nrm (JB.reg1 ?_))))
     refine JA.o1 Jv ?_
     refine JA.o1 JC ?_
     refine JA.nil ?_
     refine JU.nxt ?_ ?_ ?_
     ·omega
     ·exact JN.kp [0,6,7,8] [900] ZA
     ·trivial
  ·skip
   have hke:=Yo hb9
   have hdn:(JAx (Q0 b)).drop (8*k)=[]:=List.drop_eq_nil_of_le (by rw [JEC,hul];omega)
   refine JB.exitS (JU.ext (Qp.hit ?_))
   have X:=X.a hdn
   exact Ends.fin0 [] (rs:=[]) rfl (by simp only [go_sem,X.h,lB]<;>rfl) (by simp only [go_sem,X.h,lB]<;>first|rfl|exact QP)
theorem JE8 (b:Bs)(hb:b.length≤1000000):Qq Tryz.prog 73 [.leaf (.d (Y5 b))] [] (.ret (.leaf (.ptr 6 0)) [(6,.cells [.d (Qz (Qf (Q0 b))),.d (.i 0)])]):=by
 have hul:=JGE b
 have hil:=JBH (Q0 b)
 have hvl:=JEC (Q0 b)
 refine Js Jf Tryz.func73 rfl (by simp only [List.length_cons,List.length_nil,Tryz.ntmps73];omega) JJ rfl ?_
 refine JB.reg ?_
 refine JA.o ?_
 refine JA.nil (JB.reg ?_)
 iterate 4 (refine JA.o ?_)
 refine JA.nil (JB.assocS (JB.reg ?_))
 refine JA.nilC 6 0 1000 3 1 JD JD JD (by omega) (by omega) JD ?_
 refine JA.o ?_
 refine JA.c1 (JQO b) JD JD ?_
 refine JA.nil (JB.blk ?_)
 refine JB.rangeL 159 [.pt [Y5 b]] 900 (JAx (Q0 b)) [3,8] [3,6,1000] (fun k=>[.obj 6 (.cells [.own 1000 0 k k,.d (.i 0)]),.obj 1000 (.arr 3 1 (((Qf (Q0 b)).take k).map Qy))]) (fun _=>True) (fun k=>by simp only [go_sem]<;>rfl) V94 (fun _=>by rfl) (fun _=>by rfl) rfl JD JY (JQP b hb) QZ ?_ (fun k v hv hX=>?_) (fun hX=>?_)
 ·trivial
 ·skip
  obtain ⟨n,hn,rfl⟩:=JPP hv
  have hkl:=(List.getElem?_eq_some_iff.1 hn).1
  have htl:((Qf (Q0 b)).take k).length=k:=by rw [List.length_take];omega
  have hts:(Qf (Q0 b)).take (k+1)=(Qf (Q0 b)).take k++[((n.toNat:Nat):Int)]:=by
   refine Yf ?_
   unfold Qf
   rw [List.getElem?_map,hn];rfl
  refine ⟨rfl,?_⟩
  refine JB.reg1 ?_
  have X:=Fx.mk htl
  refine JA.o1 JC ?_
  refine JA.nil ?_
  refine ⟨rfl,?_⟩
  refine JB.blk1 ?_
  refine JB.opk1 13 ?_
  iterate 7 (refine JF.o1 JC ?_)
  refine JF.o1 V4 ?_
  iterate 3 (refine JF.o1 JC ?_)
  refine JF.nil (QO.fin QZ QZ ?_)
  refine Qp.nrm ?_
  refine JCO.nrm ?_ ?_
  ·exact JN.kl [3,6,1000] (by simp only [go_sem,X.h]<;>first|((repeat' (first|with_reducible_and_instances rfl|refine Q8 ?_ ?_ ?_|refine Q7 ?_|refine YL ?_|refine Q9 ?_ ?_|refine Q3 ?_|refine Q4 ?_|refine YN ?_|refine Q6 ?_ ?_|refine YI ?_ ?_|refine YK ?_|refine YF ?_|(refine Q5 ?_;omega)));(all_goals (first|omega|(rw [hts];simp [Qy];done))))|rfl)
  ·trivial
 ·skip
  rw [JEC] at *
  have htk:(Qf (Q0 b)).take (Q0 b).length=Qf (Q0 b):=List.take_of_length_le (by omega)
  have hta:List.take (Q0 b).length (List.map Qy (Qf (Q0 b)))=List.map Qy (Qf (Q0 b)):=List.take_of_length_le (by simp [hil])
  refine JR.nrm (JB.reg ?_)
  have X:=((Fx.mk htk).a hta).a hil
  refine JA.frz 1000 JC ?_
  iterate 2 (refine JA.o1 (by simp only [go_sem,JEC]<;>rfl) ?_)
  refine JA.nil ?_
  exact Ends.fin [6] (rs:=[.tmp 2]) rfl (by simp only [go_sem,JEC]<;>rfl) (by simp only [go_sem,JEC]<;>first|rfl|exact QP)
end Go.Mw
namespace Go.Mw
open Go.Proofs
open Go.Bk
attribute [-go_sem] YG
attribute [local go_sem] JCU JCd JCa JCc JCV JCb JCZ JCY JCX JCW
theorem JPL (b:Bool)(s:Bits):Qf (b::s)=(b.toNat:Int)::Qf s:=rfl
theorem JPM:Qf []=[]:=rfl
theorem JAd (b:Bool)(r:Bits)(o:Int)(ho:0≤o∧o≤1000000000):Qq Tryz.prog 76 [.leaf (.ptr 911 0)] [(911,.cells [.d (Qz (Qf (b::r))),.d (.i o)])] (.ret (.int (b.toNat:Nat)) [(911,.cells [.d (Qz (Qf r)),.d (.i (o+(b.toNat:Nat)))])]):=by
 have hb1:b.toNat≤1:=by cases b<;>decide
 have hgt:decide (((r.length+1:Nat):Int)>0)=true:=decide_eq_true (by omega)
 have hgt2:decide ((r.length:Int)+1>0)=true:=decide_eq_true (by omega)
 have hil:=JBH r
 rw [JPL]
 refine Js Jf Tryz.func76 rfl (by simp only [List.length_cons,List.length_nil,Tryz.ntmps76];omega) JJ rfl ?_
 refine JB.reg ?_
 have X:=((Fx.mk hil).a hgt).a hgt2
 refine JA.o1 V47 ?_
 refine JA.nil (JB.reg ?_)
 iterate 6 (refine JA.o1 V47 ?_)
 refine JA.c1 (YH true rfl) V47 V47 ?_
 refine JA.nil (JB.reg ?_)
 iterate 4 (refine JA.o1 V47 ?_)
 refine JA.o1 V20 ?_
 iterate 2 (refine JA.o1 V47 ?_)
 refine JA.nil (JB.reg ?_)
 iterate 5 (refine JA.o1 V47 ?_)
 refine JA.o1 V20 ?_
 iterate 3 (refine JA.o1 V47 ?_)
 refine JA.nil (JB.reg ?_)
 iterate 5 (refine JA.o1 V47 ?_)
 refine JA.o1 (by simp only [go_sem,X.h,List.map_cons,List.length_cons,List.length_map,List.getElem?_cons_zero,List.drop_succ_cons,List.drop_zero,Int.natCast_add,Int.natCast_one];(try simp (disch:=omega) only [IntWalk.i64_in,IntWalk.u64_in,IntWalk.i32_in,IntWalk.u8_in,if_neg,if_pos])<;> rfl) ?_
 iterate 3 (refine JA.o1 V47 ?_)
 refine JA.nil (JB.reg ?_)
 iterate 2 (refine JA.o1 V47 ?_)
 refine JA.nil ?_
 exact Ends.fin [911] (rs:=[.tmp 2]) rfl V47 (by simp only [go_sem,X.h,List.map_cons,List.length_cons,List.length_map,List.getElem?_cons_zero,List.drop_succ_cons,List.drop_zero,Int.natCast_add,Int.natCast_one]<;>first|rfl|exact QP)
theorem JJd (o:Int):Qr Tryz.prog J0 76 [.leaf (.ptr 911 0)] [(911,.cells [.d (Qz (Qf [])),.d (.i o)])]:=by
 rw [JPM]
 refine Yq Jf Tryz.func76 rfl (by simp only [List.length_cons,List.length_nil,Tryz.ntmps76];omega) JJ rfl ?_
 refine JB.reg ?_
 refine JA.o1 JIF ?_
 refine JA.nil ?_
 refine JB.pan (pv:=J0) 6 rfl ?_
 iterate 6 (refine JA.o1 JIF ?_)
 exact JA.panc (Z4 false rfl) JY JIF Qc rfl
theorem JOa {s:Bits}{k:Nat}{b:Bool}(h:s[k]? = some b):s.take (k+1)=s.take k++[b]:=Yf h
theorem JFm (s:Bits)(k:Nat):JV (s.take k)≤k:=by
 have:=JAG (s.take k)
 rw [List.length_take] at this;omega
theorem JOq {s:Bits}{k n:Nat}(h:s.length=n)(hk:k≤n)(hn:n≤62):J8 (s.take k)<4611686018427387904:=by
 have h1:=JBX (s.take k)
 have h2:2^(s.take k).length≤2^62:=Nat.pow_le_pow_right (by omega) (by rw [List.length_take];omega)
 have h3:(2:Nat)^62=4611686018427387904:=by decide
 omega
theorem JOr:J8 []=0:=rfl
theorem JAz (many:Nat)(s r:Bits)(o:Int)(hs:s.length=many)(hm:many≤62)(ho:0≤o∧o≤100000000):Qq Tryz.prog 74 [.leaf (.ptr 911 0),.int many] [(911,.cells [.d (Qz (Qf (s++r))),.d (.i o)])] (.ret (.int (J8 s:Nat)) [(911,.cells [.d (Qz (Qf r)),.d (.i (o+((JV s:Nat):Int)))])]):=by
 refine Js Jf Tryz.func74 rfl (by simp only [List.length_cons,List.length_nil,Tryz.ntmps74];omega) JJ rfl ?_
 refine JB.reg ?_
 refine JA.o ?_
 refine JA.nil (JB.assocS (JB.reg ?_))
 iterate 2 (refine JA.o ?_)
 refine JA.nil (JB.blk ?_)
 refine JB.forA [0,4,5,6] [911] (many) (fun k=>[.slot 4 (.int (J8 (s.take k):Nat)),.slot 6 (.int k),.obj 911 (.cells [.d (Qz (Qf (s.drop k++r))),.d (.i (o+((JV (s.take k):Nat):Int)))])]) (fun _=>True) (fun k=>by simp only [go_sem]<;>rfl) (by simp only [go_sem,Int.natCast_zero,List.take_zero,List.drop_zero,JHe,JOr,Int.add_zero]<;>rfl) ?_ (fun k hk hX=>?_)
 ·trivial
 ·skip
  refine JB.reg ?_
  refine JA.o ?_
  refine JA.nil ?_
  refine JB.cndS JD (fun hb7=>?_) (fun hb7=>?_)
  ·skip
   have hk:k<many:=by have:=of_decide_eq_true hb7;omega
   obtain ⟨b,hx⟩:∃b,s[k]? = some b:=⟨_,List.getElem?_eq_getElem (by omega)⟩
   have hdk:s.drop k=b::s.drop (k+1):=JEK hx
   have htk:=JOa hx
   have hov:=JFm s k
   have hon:JV (s.take (k+1))=JV (s.take k)+b.toNat:=by rw [htk,Zp,JCK]
   have hvl:J8 (s.take (k+1))=2*J8 (s.take k)+b.toNat:=by rw [htk,JC5]
   have hb1:b.toNat≤1:=by cases b<;>decide
   have hvb:=JOq hs (by omega) hm (k:=k)
   refine JB.skipS (JB.blk (JB.reg1 ?_))
   refine JA.o ?_
   refine JA.o1 V68 ?_
   refine JA.o ?_
   have X:=Fx.mk hdk
   refine JA.lendG [(911,911)] JD (JAd b (s.drop (k+1)++r) (o+((JV (s.take k):Nat):Int)) (by omega)) JY (.inl ⟨[],by simp only [go_sem]<;>rfl,rfl⟩) JBf Y1 rfl (by decide) YB V46 YQ YW JBf ?_
   refine JA.o1 V68 ?_
   refine JA.o ?_
   refine JA.nil (JR.nrm (JB.reg1 ?_))
   refine JA.o1 V68 ?_
   refine JA.o ?_
   refine JA.nil ?_
   refine JU.nxt ?_ ?_ ?_
   ·omega
   ·exact JN.kp [0,4,5,6] [911] V16
   ·trivial
  ·skip
   have hke:k=many:=by have:=of_decide_eq_false hb7;omega
   have htk:s.take k=s:=List.take_of_length_le (by omega)
   have hdk:s.drop k=[]:=List.drop_eq_nil_of_le (by omega)
   refine JB.exitS (JU.ext (JR.hit (JB.reg ?_)))
   have X:=(Fx.mk htk).a hdk
   iterate 2 (refine JA.o1 (by simp only [go_sem,X.h,List.nil_append]<;>rfl) ?_)
   refine JA.nil ?_
   exact Ends.fin [911] (rs:=[.tmp 4]) rfl (by simp only [go_sem,X.h,List.nil_append]<;>rfl) (by simp only [go_sem,X.h,List.nil_append]<;>first|rfl|exact QP)
theorem JHf (many:Nat)(s:Bits)(o:Int)(hs:s.length<many)(hm:many≤62)(ho:0≤o∧o≤100000000):Qr Tryz.prog J0 74 [.leaf (.ptr 911 0),.int many] [(911,.cells [.d (Qz (Qf s)),.d (.i o)])]:=by
 refine Yq Jf Tryz.func74 rfl (by simp only [List.length_cons,List.length_nil,Tryz.ntmps74];omega) JJ rfl ?_
 refine JB.reg ?_
 refine JA.o ?_
 refine JA.nil (JB.assocS (JB.reg ?_))
 iterate 2 (refine JA.o ?_)
 refine JA.nil (JB.blk ?_)
 refine JB.forA [0,4,5,6] [911] (s.length) (fun k=>[.slot 4 (.int (J8 (s.take k):Nat)),.slot 6 (.int k),.obj 911 (.cells [.d (Qz (Qf (s.drop k))),.d (.i (o+((JV (s.take k):Nat):Int)))])]) (fun _=>True) (fun k=>by simp only [go_sem]<;>rfl) (by simp only [go_sem,Int.natCast_zero,List.take_zero,List.drop_zero,JHe,JOr,Int.add_zero]<;>rfl) ?_ (fun k hk hX=>?_)
 ·trivial
 ·skip
  refine JB.reg ?_
  refine JA.o ?_
  refine JA.nil ?_
  refine JB.cndS JD (fun hb7=>?_) (fun hb7=>?_)
  ·skip
   have hk:k<many:=by have:=of_decide_eq_true hb7;omega
   refine JB.skipS (JB.blk ?_)
   by_cases hk2:k<s.length
   ·skip
    obtain ⟨b,hx⟩:∃b,s[k]? = some b:=⟨_,List.getElem?_eq_getElem (by omega)⟩
    have hdk:s.drop k=b::s.drop (k+1):=JEK hx
    have htk:=JOa hx
    have hov:=JFm s k
    have hon:JV (s.take (k+1))=JV (s.take k)+b.toNat:=by rw [htk,Zp,JCK]
    have hvl:J8 (s.take (k+1))=2*J8 (s.take k)+b.toNat:=by rw [htk,JC5]
    have hb1:b.toNat≤1:=by cases b<;>decide
    have hvb:=JOq rfl (by omega) (by omega) (k:=k) (s:=s)
    refine JB.reg1 ?_
    refine JA.o ?_
    refine JA.o1 V68 ?_
    refine JA.o ?_
    have X:=Fx.mk hdk
    refine JA.lendG [(911,911)] JD (JAd b (s.drop (k+1)) (o+((JV (s.take k):Nat):Int)) (by omega)) JY (.inl ⟨[],by simp only [go_sem]<;>rfl,rfl⟩) JC Y1 rfl (by decide) YB V58 YQ YW JC ?_
    refine JA.o1 V68 ?_
    refine JA.o ?_
    refine JA.nil (JR.nrm (JB.reg1 ?_))
    refine JA.o1 V68 ?_
    refine JA.o ?_
    refine JA.nil ?_
    refine JU.nxt ?_ ?_ ?_
    ·omega
    ·exact JN.kp [0,4,5,6] [911] V16
    ·trivial
   ·skip
    have hke:k=s.length:=by omega
    have hdk:s.drop k=[]:=List.drop_eq_nil_of_le (by omega)
    refine JB.pan1 (pv:=J0) 3 rfl ?_
    have X:=Fx.mk hdk
    refine JA.o1 JC ?_
    refine JA.o1 Jv ?_
    refine JA.o1 JC ?_
    exact JA.pang [(911,911)] 0 (JJd (o+((JV (s.take k):Nat):Int))) JY JD JC V77 (fun q x h=>by by_cases e:q=911<;>simp [look,e] at h;subst e;subst h;exact ⟨911,_,rfl,by simp only [go_sem,X.h]<;>rfl,QI.refl _,rfl⟩) V85 rfl
  ·skip
   exact absurd (of_decide_eq_false hb7) (by omega)
end Go.Mw
namespace Go.Mw
open Go.Proofs
open Go.Bk
attribute [-go_sem] YG
attribute [local go_sem] JCU JCd JCa JCc JCV JCb JCZ JCY JCX JCW
theorem JK2 {z:Nat}(h:z≤16):YG .shl .i64 1 (z:Int)=some (.int .i64 ((2^z:Nat):Int)):=by
 show (if (z:Int)<0 then none else some (Value.int .i64 (IntKind.i64.wrap (1*2^(min (z:Int).toNat 64)))))=_
 have h2:2^z≤2^16:=Nat.pow_le_pow_right (by omega) h
 rw [if_neg (by omega),Int.toNat_natCast,Nat.min_eq_left (by omega),Int.one_mul,IntWalk.i64_in]
 ·norm_cast
 ·have:((2:Int)^z)=((2^z:Nat):Int):=by norm_cast
  rw [this]
  generalize 2^z=q at h2
  omega
theorem JPE {z v:Nat}(h:z≤16)(hv:v<2^z):YG .or .i64 ((2^z:Nat):Int) (v:Int)=some (.int .i64 ((2^z+v:Nat):Int)):=by
 have h2:2^z≤2^16:=Nat.pow_le_pow_right (by omega) h
 have e:(BitVec.ofInt 64 ((2^z:Nat):Int) ||| BitVec.ofInt 64 (v:Int)).toNat=2^z+v:=by
  rw [BitVec.toNat_or]
  have h1:(BitVec.ofInt 64 ((2^z:Nat):Int)).toNat=2^z:=by rw [BitVec.toNat_ofInt];omega
  have h3:(BitVec.ofInt 64 (v:Int)).toNat=v:=by rw [BitVec.toNat_ofInt];omega
  have h4:=Nat.two_pow_add_eq_or_of_lt hv 1
  rw [Nat.mul_one] at h4
  rw [h1,h3,h4]
 have e2:IntKind.i64.wrap ((BitVec.ofInt 64 ((2^z:Nat):Int) ||| BitVec.ofInt 64 (v:Int)).toNat:Int)=((2^z+v:Nat):Int):=by
  rw [e,IntKind.wrap_i64];omega
 exact congrArg (fun z=>some (Value.int .i64 z)) e2
theorem JFy {z k:Nat}(h:k<z):List.replicate (z-k) false=false::List.replicate (z-(k+1)) false:=by
 rw [show z-k=(z-(k+1))+1 by omega,List.replicate_succ]
theorem JE7 (z:Nat)(a r:Bits)(o:Int)(hz:z≤16)(ha:a.length=z)(ho:0≤o∧o≤90000000):Qq Tryz.prog 127 [.leaf (.ptr 911 0)] [(911,.cells [.d (Qz (Qf (List.replicate z false++true::(a++r)))),.d (.i o)])] (.ret (.int ((2^z+J8 a:Nat):Int)) [(911,.cells [.d (Qz (Qf r)),.d (.i (o+1+((JV a:Nat):Int)))])]):=by
 have h10:((1:Int)==0)=false:=rfl
 have h00:((0:Int)==0)=true:=rfl
 have hva:=JBX a
 rw [ha] at hva
 have hs1:=JK2 hz
 have hs2:=JPE hz hva
 refine Js Jf Tryz.func127 rfl V98 JJ rfl ?_
 refine JB.reg ?_
 have X:=(((Fx.mk h00).a h10).a hs1).a hs2
 refine JA.o1 QU ?_
 refine JA.nil (JB.reg ?_)
 refine JA.o1 QU ?_
 refine JA.nil (JB.blk ?_)
 refine JB.forA [0,3] [911] (z) (fun k=>[.slot 3 (.int k),.obj 911 (.cells [.d (Qz (Qf (List.replicate (z-k) false++true::(a++r)))),.d (.i o)])]) (fun _=>True) (fun k=>by simp only [go_sem]<;>rfl) V65 ?_ (fun k hk hX=>?_)
 ·trivial
 ·skip
  refine JB.assocS ?_
  by_cases hk2:k<z
  ·skip
   have hrs:=JFy hk2
   have hle:decide ((k:Int)+1≤16)=true:=decide_eq_true (by omega)
   refine JB.reg ?_
   have X:=X.a hle
   refine JA.o1 QU ?_
   have X:=Fx.mk hrs
   refine JA.lendG [(911,911)] JD (JAd false (List.replicate (z-(k+1)) false++true::(a++r)) o (by omega)) JY (.inl ⟨[],by simp only [go_sem]<;>rfl,rfl⟩) JBf Y1 rfl (by decide) YB V46 YQ YW JBf ?_
   have X:=((((Fx.mk h00).a h10).a hs1).a hs2).a hle
   refine JA.o1 QU ?_
   refine JA.nil ?_
   refine JB.cndS QU (fun hb6=>?_) (fun hb6=>?_)
   ·skip
    refine JB.skipS (JB.blk1 (JB.reg ?_))
    refine JA.o1 QU ?_
    refine JA.o1 V31 ?_
    refine JA.o1 QU ?_
    refine JA.nil (JB.reg1 ?_)
    iterate 2 (refine JA.o1 QU ?_)
    refine JA.c1 (YH true rfl) QU QU ?_
    refine JA.nil (Qp.nrm ?_)
    refine JU.nxt ?_ ?_ ?_
    ·omega
    ·exact JN.kp [0,3] [911] V71
    ·trivial
   ·exact absurd hb6 (by simp)
  ·skip
   have hke:k=z:=by omega
   refine JB.reg ?_
   have X:=X.a hke
   refine JA.o1 QU ?_
   have X:=Fx.mk hke
   refine JA.lendG [(911,911)] JD (JAd true (a++r) o (by omega)) JY (.inl ⟨[],by simp only [go_sem]<;>rfl,rfl⟩) V88 Y1 rfl (by decide) YB V36 YQ YW V88 ?_
   have X:=((((Fx.mk h00).a h10).a hs1).a hs2).a hke
   refine JA.o1 QU ?_
   refine JA.nil ?_
   refine JB.cndS QU (fun hb6=>?_) (fun hb6=>?_)
   ·exact absurd hb6 (by simp)
   ·skip
    refine JB.exitS (JU.ext (JR.hit ?_))
    refine JB.opk 9 ?_
    iterate 4 (refine JF.o1 QU ?_)
    refine JF.lendG (ds:=[]) [(911,911)] JD (JAz z a r (o+1) ha (by omega) (by omega)) JY JD JD V27 rfl (by decide) JDB Zb (by intro p hp;simp only [List.mem_cons,List.not_mem_nil,or_false] at hp;rcases hp with rfl<;>(first|exact ⟨_,rfl,JEB _⟩|exact ⟨_,rfl,_,rfl,by simp [Jx]⟩|exact ⟨_,rfl,_,rfl⟩)) rfl JD JD JD ?_
    iterate 2 (refine JF.o1 QU ?_)
    refine JF.nil (QO.fin QZ QZ ?_)
    exact Ends.fin [911] (rs:=[.tmp 2]) rfl QU (by simp only [go_sem,X.h,Bool.toNat_false,Bool.toNat_true,Int.natCast_zero,Int.natCast_one,Int.add_zero]<;>first|rfl|exact QP)
theorem JSs (z:Nat)(o:Int)(hz:z≤16)(ho:0≤o∧o≤90000000):Qr Tryz.prog J0 127 [.leaf (.ptr 911 0)] [(911,.cells [.d (Qz (Qf (List.replicate z false))),.d (.i o)])]:=by
 have h10:((1:Int)==0)=false:=rfl
 have h00:((0:Int)==0)=true:=rfl
 refine Yq Jf Tryz.func127 rfl V98 JJ rfl ?_
 refine JB.reg ?_
 have X:=(Fx.mk h00).a h10
 refine JA.o1 QU ?_
 refine JA.nil (JB.reg ?_)
 refine JA.o1 QU ?_
 refine JA.nil (JB.blk ?_)
 refine JB.forA [0,3] [911] (z) (fun k=>[.slot 3 (.int k),.obj 911 (.cells [.d (Qz (Qf (List.replicate (z-k) false))),.d (.i o)])]) (fun _=>True) (fun k=>by simp only [go_sem]<;>rfl) V65 ?_ (fun k hk hX=>?_)
 ·trivial
 ·skip
  refine JB.assocS ?_
  by_cases hk2:k<z
  ·skip
   have hrs:=JFy hk2
   have hle:decide ((k:Int)+1≤16)=true:=decide_eq_true (by omega)
   refine JB.reg ?_
   have X:=X.a hle
   refine JA.o1 QU ?_
   have X:=Fx.mk hrs
   refine JA.lendG [(911,911)] JD (JAd false (List.replicate (z-(k+1)) false) o (by omega)) JY (.inl ⟨[],by simp only [go_sem]<;>rfl,rfl⟩) JC Y1 rfl (by decide) YB V58 YQ YW JC ?_
   have X:=((Fx.mk h00).a h10).a hle
   refine JA.o1 QU ?_
   refine JA.nil ?_
   refine JB.cndS QU (fun hb6=>?_) (fun hb6=>?_)
   ·skip
    refine JB.skipS (JB.blk1 (JB.reg ?_))
    refine JA.o1 QU ?_
    refine JA.o1 V31 ?_
    refine JA.o1 QU ?_
    refine JA.nil (JB.reg1 ?_)
    iterate 2 (refine JA.o1 QU ?_)
    refine JA.c1 (YH true rfl) QU QU ?_
    refine JA.nil (Qp.nrm ?_)
    refine JU.nxt ?_ ?_ ?_
    ·omega
    ·exact JN.kp [0,3] [911] V71
    ·trivial
   ·exact absurd hb6 (by simp)
  ·skip
   have hke:k=z:=by omega
   refine JB.pan (pv:=J0) 1 rfl ?_
   have X:=X.a hke
   refine JA.o1 QU ?_
   have X:=Fx.mk hke
   exact JA.pang [(911,911)] 0 (JJd o) JY JD (by simp only [go_sem,X.h,Nat.sub_self,List.replicate_zero]<;>rfl) V77 (fun q x h=>by by_cases e:q=911<;>simp [look,e] at h;subst e;subst h;exact ⟨911,_,rfl,by simp only [go_sem,X.h,Nat.sub_self,List.replicate_zero]<;>rfl,QI.refl _,rfl⟩) V85 rfl
theorem JSt (r:Bits)(o:Int)(ho:0≤o∧o≤90000000):Qr Tryz.prog J0 127 [.leaf (.ptr 911 0)] [(911,.cells [.d (Qz (Qf (List.replicate 17 false++r))),.d (.i o)])]:=by
 obtain ⟨z,hz⟩:∃z,z=17:=⟨_,rfl⟩
 rw [←hz]
 have h10:((1:Int)==0)=false:=rfl
 have h00:((0:Int)==0)=true:=rfl
 refine Yq Jf Tryz.func127 rfl V98 JJ rfl ?_
 refine JB.reg ?_
 have X:=(Fx.mk h00).a h10
 refine JA.o1 QU ?_
 refine JA.nil (JB.reg ?_)
 refine JA.o1 QU ?_
 refine JA.nil (JB.blk ?_)
 refine JB.forA [0,3] [911] (16) (fun k=>[.slot 3 (.int k),.obj 911 (.cells [.d (Qz (Qf (List.replicate (z-k) false++r))),.d (.i o)])]) (fun _=>True) (fun k=>by simp only [go_sem]<;>rfl) V65 ?_ (fun k hk hX=>?_)
 ·trivial
 ·skip
  refine JB.assocS ?_
  by_cases hk2:k<16
  ·skip
   have hk3:k<z:=by omega
   have hrs:=JFy hk3
   have hle:decide ((k:Int)+1≤16)=true:=decide_eq_true (by omega)
   refine JB.reg ?_
   have X:=X.a hle
   refine JA.o1 QU ?_
   have X:=Fx.mk hrs
   refine JA.lendG [(911,911)] JD (JAd false (List.replicate (z-(k+1)) false++r) o (by omega)) JY (.inl ⟨[],by simp only [go_sem]<;>rfl,rfl⟩) JBf Y1 rfl (by decide) YB V46 YQ YW JBf ?_
   have X:=((Fx.mk h00).a h10).a hle
   refine JA.o1 QU ?_
   refine JA.nil ?_
   refine JB.cndS QU (fun hb6=>?_) (fun hb6=>?_)
   ·skip
    refine JB.skipS (JB.blk1 (JB.reg ?_))
    refine JA.o1 QU ?_
    refine JA.o1 V31 ?_
    refine JA.o1 QU ?_
    refine JA.nil (JB.reg1 ?_)
    iterate 2 (refine JA.o1 QU ?_)
    refine JA.c1 (YH true rfl) QU QU ?_
    refine JA.nil (Qp.nrm ?_)
    refine JU.nxt ?_ ?_ ?_
    ·omega
    ·exact JN.kp [0,3] [911] V71
    ·trivial
   ·exact absurd hb6 (by simp)
  ·skip
   have hk3:k<z:=by omega
   have hrs:=JFy hk3
   have hle:decide ((k:Int)+1≤16)=false:=decide_eq_false (by omega)
   refine JB.reg ?_
   have X:=X.a hle
   refine JA.o1 QU ?_
   have X:=Fx.mk hrs
   refine JA.lendG [(911,911)] JD (JAd false (List.replicate (z-(k+1)) false++r) o (by omega)) JY (.inl ⟨[],by simp only [go_sem]<;>rfl,rfl⟩) JBf Y1 rfl (by decide) YB V46 YQ YW JBf ?_
   have X:=((Fx.mk h00).a h10).a hle
   refine JA.o1 QU ?_
   refine JA.nil ?_
   refine JB.cndS QU (fun hb6=>?_) (fun hb6=>?_)
   ·skip
    refine JB.skipS (JB.blk1 (JB.reg ?_))
    refine JA.o1 QU ?_
    refine JA.o1 V31 ?_
    refine JA.o1 QU ?_
    refine JA.nil ?_
    refine JB.pan1 (pv:=J0) 2 rfl ?_
    iterate 2 (refine JA.o1 QU ?_)
    exact JA.panc (Z4 false rfl) JY QU Qc rfl
   ·exact absurd hb6 (by simp)
theorem JSu (z:Nat)(a:Bits)(o:Int)(hz:z≤16)(ha:a.length<z)(ho:0≤o∧o≤90000000):Qr Tryz.prog J0 127 [.leaf (.ptr 911 0)] [(911,.cells [.d (Qz (Qf (List.replicate z false++true::a))),.d (.i o)])]:=by
 have h10:((1:Int)==0)=false:=rfl
 have h00:((0:Int)==0)=true:=rfl
 have hs1:=JK2 hz
 refine Yq Jf Tryz.func127 rfl V98 JJ rfl ?_
 refine JB.reg ?_
 have X:=((Fx.mk h00).a h10).a hs1
 refine JA.o1 QU ?_
 refine JA.nil (JB.reg ?_)
 refine JA.o1 QU ?_
 refine JA.nil (JB.blk ?_)
 refine JB.forA [0,3] [911] (z) (fun k=>[.slot 3 (.int k),.obj 911 (.cells [.d (Qz (Qf (List.replicate (z-k) false++true::a))),.d (.i o)])]) (fun _=>True) (fun k=>by simp only [go_sem]<;>rfl) V65 ?_ (fun k hk hX=>?_)
 ·trivial
 ·skip
  refine JB.assocS ?_
  by_cases hk2:k<z
  ·skip
   have hrs:=JFy hk2
   have hle:decide ((k:Int)+1≤16)=true:=decide_eq_true (by omega)
   refine JB.reg ?_
   have X:=X.a hle
   refine JA.o1 QU ?_
   have X:=Fx.mk hrs
   refine JA.lendG [(911,911)] JD (JAd false (List.replicate (z-(k+1)) false++true::a) o (by omega)) JY (.inl ⟨[],by simp only [go_sem]<;>rfl,rfl⟩) JBf Y1 rfl (by decide) YB V46 YQ YW JBf ?_
   have X:=(((Fx.mk h00).a h10).a hs1).a hle
   refine JA.o1 QU ?_
   refine JA.nil ?_
   refine JB.cndS QU (fun hb6=>?_) (fun hb6=>?_)
   ·skip
    refine JB.skipS (JB.blk1 (JB.reg ?_))
    refine JA.o1 QU ?_
    refine JA.o1 V31 ?_
    refine JA.o1 QU ?_
    refine JA.nil (JB.reg1 ?_)
    iterate 2 (refine JA.o1 QU ?_)
    refine JA.c1 (YH true rfl) QU QU ?_
    refine JA.nil (Qp.nrm ?_)
    refine JU.nxt ?_ ?_ ?_
    ·omega
    ·exact JN.kp [0,3] [911] V71
    ·trivial
   ·exact absurd hb6 (by simp)
  ·skip
   have hke:k=z:=by omega
   refine JB.reg ?_
   have X:=X.a hke
   refine JA.o1 QU ?_
   have X:=Fx.mk hke
   refine JA.lendG [(911,911)] JD (JAd true a o (by omega)) JY (.inl ⟨[],by simp only [go_sem]<;>rfl,rfl⟩) V88 Y1 rfl (by decide) YB V36 YQ YW V88 ?_
   have X:=(((Fx.mk h00).a h10).a hs1).a hke
   refine JA.o1 QU ?_
   refine JA.nil ?_
   refine JB.cndS QU (fun hb6=>?_) (fun hb6=>?_)
   ·exact absurd hb6 (by simp)
   ·skip
    refine JB.exitS (JU.ext (JR.hit ?_))
    refine JB.opp (pv:=J0) 9 4 [0,1,2,3] rfl QZ ?_
    iterate 4 (refine JF.o1 QU ?_)
    exact JF.pang [(911,911)] 0 (JHf z a (o+1) ha (by omega) (by omega)) JY JD JD V32 (fun q x h=>by by_cases e:q=911<;>simp [look,e] at h;subst e;subst h;exact ⟨911,_,rfl,by simp only [go_sem]<;>rfl,QI.refl _,rfl⟩) V85 QZ QZ rfl
end Go.Mw
namespace Go.Mw
open Go.Proofs
open Go.Bk
attribute [-go_sem] YG
attribute [local go_sem] JCU JCd JCa JCc JCV JCb JCZ JCY JCX JCW
theorem JA5 {s:Bits}{n:Nat}(h:s.length=n):JV s≤n:=h▸JAG s
theorem JDm {s:Bits}{n m:Nat}(h:s.length=n)(hm:2^n=m):J8 s<m:=by
 have:=JBX s
 rw [h,hm] at this;exact this
theorem JQJ (z:Nat)(a c d r:Bits)(e:Bool)(last o:Int)(hz:z≤16)(ha:a.length=z)(hc:c.length=3)(hd:d.length=18)(hl:0≤last∧last≤90000000)(hp:(1+JV a+JV c+JV d+e.toNat)%2=0):Qq Tryz.prog 75 [.leaf (.ptr 911 0),.int last] [(911,.cells [.d (Qz (Qf (List.replicate z false++true::(a++(c++(d++(e::r))))))),.d (.i o)])] (.ret (.val true [.d (.i (last+((2^z+J8 a:Nat):Int))),.d (.i (J8 c:Nat)),.d (.i (J8 d:Nat))]) [(911,.cells [.d (Qz (Qf r)),.d (.i (((1+JV a+JV c+JV d+e.toNat):Nat):Int))])]):=by
 have h1:=JA5 ha
 have h2:=JA5 hc
 have h3:=JA5 hd
 have hb1:e.toNat≤1:=by cases e<;>decide
 have v1:=JBX a
 rw [ha] at v1
 have hpz:2^z≤2^16:=Nat.pow_le_pow_right (by omega) hz
 have v2:=JDm hc (m:=8) (by decide)
 have v3:=JDm hd (m:=262144) (by decide)
 have hpz2:2^z+J8 a≤131072:=by omega
 generalize hq:2^z+J8 a=q at hpz2
 have hgam:=JE7 z a (c++(d++(e::r))) 0 hz ha (by omega)
 rw [hq] at hgam
 have hto:((0+1+((JV a:Nat):Int)+((JV c:Nat):Int)+((JV d:Nat):Int)+((e.toNat:Nat):Int)):Int)=((((1+JV a+JV c+JV d+e.toNat)):Nat):Int):=by omega
 have htm:(((((1+JV a+JV c+JV d+e.toNat)):Nat):Int)).tmod 2=((((1+JV a+JV c+JV d+e.toNat))%2:Nat):Int):=by rw [Int.tmod_eq_emod_of_nonneg (by omega)];omega
 have hev:(((((1+JV a+JV c+JV d+e.toNat)):Nat):Int).tmod 2==0)=true:=by rw [htm,hp];rfl
 refine Js Jf Tryz.func75 rfl JDu JJ rfl ?_
 refine JB.reg ?_
 have X:=(Fx.mk hto).a hev
 refine JA.o1 JC ?_
 refine JA.nil (JB.reg ?_)
 iterate 4 (refine JA.o1 JC ?_)
 refine JA.nil (JB.reg ?_)
 iterate 2 (refine JA.o1 JC ?_)
 refine JA.lendG [(911,911)] JD (hgam) JY (.inl ⟨[],by simp only [go_sem]<;>rfl,rfl⟩) JD Y1 rfl (by decide) YB Zb YQ YW JD ?_
 refine JA.o1 Jv ?_
 refine JA.o1 JC ?_
 refine JA.lendG [(911,911)] JD (JAz 3 c (d++(e::r)) (0+1+((JV a:Nat):Int)) hc (by omega) (by omega)) JY (.inl ⟨[],by simp only [go_sem]<;>rfl,rfl⟩) JD V5 rfl (by decide) YB Zb YQ YW JD ?_
 refine JA.o1 JC ?_
 refine JA.lendG [(911,911)] JD (JAz 18 d (e::r) (0+1+((JV a:Nat):Int)+((JV c:Nat):Int)) hd (by omega) (by omega)) JY (.inl ⟨[],by simp only [go_sem]<;>rfl,rfl⟩) JD V5 rfl (by decide) YB Zb YQ YW JD ?_
 iterate 2 (refine JA.o1 JC ?_)
 refine JA.nil (JB.reg ?_)
 refine JA.o1 JC ?_
 refine JA.lendG [(911,911)] JD (JAd e r (0+1+((JV a:Nat):Int)+((JV c:Nat):Int)+((JV d:Nat):Int)) (by omega)) JY (.inl ⟨[],by simp only [go_sem]<;>rfl,rfl⟩) JD Y1 rfl (by decide) YB Zb YQ YW JD ?_
 refine JA.nil (JB.reg ?_)
 iterate 4 (refine JA.o1 JC ?_)
 refine JA.o1 Jv ?_
 refine JA.o1 JC ?_
 refine JA.c1 (YH true rfl) JC JC ?_
 refine JA.nil (JB.reg ?_)
 iterate 2 (refine JA.o1 JC ?_)
 refine JA.nil ?_
 exact Ends.fin [911] (rs:=[.cell 4 70]) rfl JC Qs
theorem JJe (s:Bits)(last o:Int)(hl:0≤last∧last≤90000000)(h:Qr Tryz.prog J0 127 [.leaf (.ptr 911 0)] [(911,.cells [.d (Qz (Qf s)),.d (.i 0)])]):Qr Tryz.prog J0 75 [.leaf (.ptr 911 0),.int last] [(911,.cells [.d (Qz (Qf s)),.d (.i o)])]:=by
 refine Yq Jf Tryz.func75 rfl JDu JJ rfl ?_
 refine JB.reg ?_
 refine JA.o ?_
 refine JA.nil (JB.reg ?_)
 iterate 4 (refine JA.o ?_)
 refine JA.nil ?_
 refine JB.pan (pv:=J0) 2 rfl ?_
 iterate 2 (refine JA.o ?_)
 exact JA.pang [(911,911)] 0 (h) JY JD JD V77 (fun q x h=>by by_cases e:q=911<;>simp [look,e] at h;subst e;subst h;exact ⟨911,_,rfl,by simp only [go_sem]<;>rfl,QI.refl _,rfl⟩) V85 rfl
theorem JSz (z:Nat)(a c:Bits)(last o:Int)(hz:z≤16)(ha:a.length=z)(hc:c.length<3)(hl:0≤last∧last≤90000000):Qr Tryz.prog J0 75 [.leaf (.ptr 911 0),.int last] [(911,.cells [.d (Qz (Qf (List.replicate z false++true::(a++c)))),.d (.i o)])]:=by
 have h1:=JA5 ha
 have v1:=JBX a
 rw [ha] at v1
 have hpz:2^z≤2^16:=Nat.pow_le_pow_right (by omega) hz
 have hpz2:2^z+J8 a≤131072:=by omega
 have hgam:=JE7 z a c 0 hz ha (by omega)
 generalize hq:2^z+J8 a=q at hpz2
 rw [hq] at hgam
 refine Yq Jf Tryz.func75 rfl JDu JJ rfl ?_
 refine JB.reg ?_
 refine JA.o1 JAA ?_
 refine JA.nil (JB.reg ?_)
 iterate 4 (refine JA.o1 JAA ?_)
 refine JA.nil ?_
 refine JB.pan (pv:=J0) 5 rfl ?_
 iterate 2 (refine JA.o1 JAA ?_)
 refine JA.lendG [(911,911)] JD (hgam) JY (.inl ⟨[],by simp only [go_sem]<;>rfl,rfl⟩) JD Y1 rfl (by decide) YB Zb YQ YW JD ?_
 refine JA.o1 V63 ?_
 refine JA.o1 JAA ?_
 exact JA.pang [(911,911)] 0 (JHf 3 c (0+1+((JV a:Nat):Int)) hc (by omega) (by omega)) JY JD JD V32 (fun q x h=>by by_cases e:q=911<;>simp [look,e] at h;subst e;subst h;exact ⟨911,_,rfl,by simp only [go_sem]<;>rfl,QI.refl _,rfl⟩) V85 rfl
theorem JS0 (z:Nat)(a c d:Bits)(last o:Int)(hz:z≤16)(ha:a.length=z)(hc:c.length=3)(hd:d.length<18)(hl:0≤last∧last≤90000000):Qr Tryz.prog J0 75 [.leaf (.ptr 911 0),.int last] [(911,.cells [.d (Qz (Qf (List.replicate z false++true::(a++(c++d))))),.d (.i o)])]:=by
 have h1:=JA5 ha
 have v1:=JBX a
 rw [ha] at v1
 have hpz:2^z≤2^16:=Nat.pow_le_pow_right (by omega) hz
 have hpz2:2^z+J8 a≤131072:=by omega
 have h2:=JA5 hc
 have v2:=JDm hc (m:=8) (by decide)
 have hgam:=JE7 z a (c++d) 0 hz ha (by omega)
 generalize hq:2^z+J8 a=q at hpz2
 rw [hq] at hgam
 refine Yq Jf Tryz.func75 rfl JDu JJ rfl ?_
 refine JB.reg ?_
 refine JA.o1 JAA ?_
 refine JA.nil (JB.reg ?_)
 iterate 4 (refine JA.o1 JAA ?_)
 refine JA.nil ?_
 refine JB.pan (pv:=J0) 7 rfl ?_
 iterate 2 (refine JA.o1 JAA ?_)
 refine JA.lendG [(911,911)] JD (hgam) JY (.inl ⟨[],by simp only [go_sem]<;>rfl,rfl⟩) JD Y1 rfl (by decide) YB Zb YQ YW JD ?_
 refine JA.o1 V63 ?_
 refine JA.o1 JAA ?_
 refine JA.lendG [(911,911)] JD (JAz 3 c d (0+1+((JV a:Nat):Int)) hc (by omega) (by omega)) JY (.inl ⟨[],by simp only [go_sem]<;>rfl,rfl⟩) JD V5 rfl (by decide) YB Zb YQ YW JD ?_
 refine JA.o1 JAA ?_
 exact JA.pang [(911,911)] 0 (JHf 18 d (0+1+((JV a:Nat):Int)+((JV c:Nat):Int)) hd (by omega) (by omega)) JY JD JD V32 (fun q x h=>by by_cases e:q=911<;>simp [look,e] at h;subst e;subst h;exact ⟨911,_,rfl,by simp only [go_sem]<;>rfl,QI.refl _,rfl⟩) V85 rfl
theorem JS1 (z:Nat)(a c d:Bits)(last o:Int)(hz:z≤16)(ha:a.length=z)(hc:c.length=3)(hd:d.length=18)(hl:0≤last∧last≤90000000):Qr Tryz.prog J0 75 [.leaf (.ptr 911 0),.int last] [(911,.cells [.d (Qz (Qf (List.replicate z false++true::(a++(c++(d++[])))))),.d (.i o)])]:=by
 have h1:=JA5 ha
 have v1:=JBX a
 rw [ha] at v1
 have hpz:2^z≤2^16:=Nat.pow_le_pow_right (by omega) hz
 have hpz2:2^z+J8 a≤131072:=by omega
 have h2:=JA5 hc
 have h3:=JA5 hd
 have v2:=JDm hc (m:=8) (by decide)
 have v3:=JDm hd (m:=262144) (by decide)
 have hgam:=JE7 z a (c++(d++[])) 0 hz ha (by omega)
 generalize hq:2^z+J8 a=q at hpz2
 rw [hq] at hgam
 refine Yq Jf Tryz.func75 rfl JDu JJ rfl ?_
 refine JB.reg ?_
 refine JA.o1 JAA ?_
 refine JA.nil (JB.reg ?_)
 iterate 4 (refine JA.o1 JAA ?_)
 refine JA.nil (JB.reg ?_)
 iterate 2 (refine JA.o1 JAA ?_)
 refine JA.lendG [(911,911)] JD (hgam) JY (.inl ⟨[],by simp only [go_sem]<;>rfl,rfl⟩) JD Y1 rfl (by decide) YB Zb YQ YW JD ?_
 refine JA.o1 V63 ?_
 refine JA.o1 JAA ?_
 refine JA.lendG [(911,911)] JD (JAz 3 c (d++[]) (0+1+((JV a:Nat):Int)) hc (by omega) (by omega)) JY (.inl ⟨[],by simp only [go_sem]<;>rfl,rfl⟩) JD V5 rfl (by decide) YB Zb YQ YW JD ?_
 refine JA.o1 JAA ?_
 refine JA.lendG [(911,911)] JD (JAz 18 d [] (0+1+((JV a:Nat):Int)+((JV c:Nat):Int)) hd (by omega) (by omega)) JY (.inl ⟨[],by simp only [go_sem]<;>rfl,rfl⟩) JD V5 rfl (by decide) YB Zb YQ YW JD ?_
 iterate 2 (refine JA.o1 JAA ?_)
 refine JA.nil ?_
 refine JB.pan (pv:=J0) 1 rfl ?_
 refine JA.o1 JAA ?_
 exact JA.pang [(911,911)] 0 (JJd (0+1+((JV a:Nat):Int)+((JV c:Nat):Int)+((JV d:Nat):Int))) JY JD JD V77 (fun q x h=>by by_cases e:q=911<;>simp [look,e] at h;subst e;subst h;exact ⟨911,_,rfl,by simp only [go_sem]<;>rfl,QI.refl _,rfl⟩) V85 rfl
theorem JS2 (z:Nat)(a c d r:Bits)(e:Bool)(last o:Int)(hz:z≤16)(ha:a.length=z)(hc:c.length=3)(hd:d.length=18)(hl:0≤last∧last≤90000000)(hp:(1+JV a+JV c+JV d+e.toNat)%2≠0):Qr Tryz.prog J0 75 [.leaf (.ptr 911 0),.int last] [(911,.cells [.d (Qz (Qf (List.replicate z false++true::(a++(c++(d++(e::r))))))),.d (.i o)])]:=by
 have h1:=JA5 ha
 have h2:=JA5 hc
 have h3:=JA5 hd
 have hb1:e.toNat≤1:=by cases e<;>decide
 have v1:=JBX a
 rw [ha] at v1
 have hpz:2^z≤2^16:=Nat.pow_le_pow_right (by omega) hz
 have v2:=JDm hc (m:=8) (by decide)
 have v3:=JDm hd (m:=262144) (by decide)
 have hpz2:2^z+J8 a≤131072:=by omega
 generalize hq:2^z+J8 a=q at hpz2
 have hgam:=JE7 z a (c++(d++(e::r))) 0 hz ha (by omega)
 rw [hq] at hgam
 have hto:((0+1+((JV a:Nat):Int)+((JV c:Nat):Int)+((JV d:Nat):Int)+((e.toNat:Nat):Int)):Int)=((((1+JV a+JV c+JV d+e.toNat)):Nat):Int):=by omega
 have htm:(((((1+JV a+JV c+JV d+e.toNat)):Nat):Int)).tmod 2=((((1+JV a+JV c+JV d+e.toNat))%2:Nat):Int):=by rw [Int.tmod_eq_emod_of_nonneg (by omega)];omega
 have hev:(((((1+JV a+JV c+JV d+e.toNat)):Nat):Int).tmod 2==0)=false:=by rw [htm];simp;omega
 refine Yq Jf Tryz.func75 rfl JDu JJ rfl ?_
 refine JB.reg ?_
 have X:=(Fx.mk hto).a hev
 refine JA.o1 JC ?_
 refine JA.nil (JB.reg ?_)
 iterate 4 (refine JA.o1 JC ?_)
 refine JA.nil (JB.reg ?_)
 iterate 2 (refine JA.o1 JC ?_)
 refine JA.lendG [(911,911)] JD (hgam) JY (.inl ⟨[],by simp only [go_sem]<;>rfl,rfl⟩) JD Y1 rfl (by decide) YB Zb YQ YW JD ?_
 refine JA.o1 Jv ?_
 refine JA.o1 JC ?_
 refine JA.lendG [(911,911)] JD (JAz 3 c (d++(e::r)) (0+1+((JV a:Nat):Int)) hc (by omega) (by omega)) JY (.inl ⟨[],by simp only [go_sem]<;>rfl,rfl⟩) JD V5 rfl (by decide) YB Zb YQ YW JD ?_
 refine JA.o1 JC ?_
 refine JA.lendG [(911,911)] JD (JAz 18 d (e::r) (0+1+((JV a:Nat):Int)+((JV c:Nat):Int)) hd (by omega) (by omega)) JY (.inl ⟨[],by simp only [go_sem]<;>rfl,rfl⟩) JD V5 rfl (by decide) YB Zb YQ YW JD ?_
 iterate 2 (refine JA.o1 JC ?_)
 refine JA.nil (JB.reg ?_)
 refine JA.o1 JC ?_
 refine JA.lendG [(911,911)] JD (JAd e r (0+1+((JV a:Nat):Int)+((JV c:Nat):Int)+((JV d:Nat):Int)) (by omega)) JY (.inl ⟨[],by simp only [go_sem]<;>rfl,rfl⟩) JD Y1 rfl (by decide) YB Zb YQ YW JD ?_
 refine JA.nil ?_
 refine JB.pan (pv:=J0) 6 rfl ?_
 iterate 4 (refine JA.o1 JC ?_)
 refine JA.o1 Jv ?_
 refine JA.o1 JC ?_
 exact JA.panc (Z4 false rfl) JY JC Qc rfl
end Go.Mw
namespace Go.Bk
def JEP (x:Pl)(last:Int):Prop:=(1≤x.num-last∧x.num-last≤131071)∧(0≤x.cls∧x.cls≤7)∧0≤x.day∧x.day≤262143
theorem JL9 {last:Int}{s r:Bits}{x:Pl}(h:JA7 last s=some (x,r)):JEP x last:=by
 unfold JA7 at h
 obtain ⟨⟨z,s1⟩,h1,h⟩:=Option.bind_eq_some_iff.1 h
 obtain ⟨⟨v,s2⟩,h2,h⟩:=Option.bind_eq_some_iff.1 h
 obtain ⟨⟨c,s3⟩,h3,h⟩:=Option.bind_eq_some_iff.1 h
 obtain ⟨⟨d,s4⟩,h4,h⟩:=Option.bind_eq_some_iff.1 h
 obtain ⟨⟨p,s5⟩,h5,h⟩:=Option.bind_eq_some_iff.1 h
 simp only at h2 h3 h4 h5 h
 split at h
 ·simp only [Option.some.injEq,Prod.mk.injEq] at h
  obtain ⟨rfl,_⟩:=h
  have k1:=(JHQ _ _ _ _ h1).2
  have k2:=(JBW h2).2
  have k3:=(JBW h3).2
  have k4:=(JBW h4).2
  have hp:2^z≤2^16:=Nat.pow_le_pow_right (by omega) k1
  have hq:=Nat.two_pow_pos z
  refine ⟨⟨?_,?_⟩,⟨?_,?_⟩,?_,?_⟩<;>simp only<;>omega
 ·cases h
theorem JM0 (t:Bits):JV (true::t)=1+JV t:=by rw [JV,JV,List.count_cons_self];omega
theorem JNL {x:Pl}{last:Int}(h:JEP x last)(r:Bits):∃(z:Nat) (a c d:Bits) (e:Bool),z≤16∧a.length=z∧c.length=3∧d.length=18∧Qd x last++r=List.replicate z false++true::(a++(c++(d++(e::r)))) ∧
  (1+JV a+JV c+JV d+e.toNat)%2=0∧last+((2^z+J8 a:Nat):Int)=x.num∧((J8 c:Nat):Int)=x.cls∧((J8 d:Nat):Int)=x.day∧1+JV a+JV c+JV d+e.toNat=JV (Qd x last):=by
 obtain ⟨h1,h2,h3⟩:=h
 have hn:1≤(x.num-last).toNat:=by omega
 obtain ⟨b1,b2,b3⟩:=JCe (x.num-last).toNat
 have bk:=JED (n:=(x.num-last).toNat) (k:=17) (by omega) (by omega)
 have hv:2^(bl (x.num-last).toNat-1)+J8 (JX (bl (x.num-last).toNat-1) (x.num-last).toNat)=(x.num-last).toNat:=by
  rw [←JHZ,JAq _ _ (Nat.mod_lt _ (Nat.two_pow_pos _))]
  have hq:(x.num-last).toNat / 2^(bl (x.num-last).toNat-1)=1:=by
   have:=b3 hn
   have h4:(x.num-last).toNat<2*2^(bl (x.num-last).toNat-1):=by
    rw [Nat.mul_comm,←Nat.pow_succ,show (bl (x.num-last).toNat-1).succ=bl (x.num-last).toNat by omega];exact b2
   exact Nat.div_eq_of_lt_le (by omega) (by omega)
  have:=Nat.div_add_mod (x.num-last).toNat (2^(bl (x.num-last).toNat-1))
  rw [hq] at this;omega
 have ho:1+JV (JX (bl (x.num-last).toNat-1) (x.num-last).toNat)+JV (JX 3 x.cls.toNat)+JV (JX 18 x.day.toNat)+(ZL (YC x last)).toNat=JV (Qd x last):=by
  have hb:JV (YC x last)=1+JV (JX (bl (x.num-last).toNat-1) (x.num-last).toNat)+JV (JX 3 x.cls.toNat)+JV (JX 18 x.day.toNat):=by
   unfold YC
   rw [Zp,Zp,JHM hn,Zp,JJY,JM0,Nat.zero_add,←Nat.add_assoc]
  unfold Qd
  rw [Zp,JCK,hb]
 refine ⟨bl (x.num-last).toNat-1,JX (bl (x.num-last).toNat-1) (x.num-last).toNat,JX 3 x.cls.toNat,JX 18 x.day.toNat,ZL (YC x last),by omega,Yd _ _,Yd _ _,Yd _ _,?_,?_,?_,?_,?_,ho⟩
 ·unfold Qd
  rw [show YC x last++[ZL (YC x last)]++r=YC x last++(ZL (YC x last)::r) by simp]
  generalize ZL (YC x last)::r=q
  unfold YC
  rw [JHM hn];simp
 ·rw [ho];exact JMz _
 ·rw [hv];omega
 ·rw [JAq 3 _ (by omega)];omega
 ·rw [JAq 18 _ (by omega)];omega
attribute [local irreducible] JX YS
def JCf:Int→List Pl→Prop
 |_,[]=>True
 |last,x::l=>JEP x last∧JCf x.num l
theorem JHk:∀(n:Nat) (last:Int) (s r:Bits) (l:List Pl),JA8 n last s=some (l,r)→s=QB last l++r∧l.length=n∧JCf last l
 |0,last,s,r,l,h=>by cases h;exact ⟨rfl,rfl,trivial⟩
 |n+1,last,s,r,l,h=>by
  unfold JA8 at h
  obtain ⟨⟨x,s1⟩,h1,h⟩:=Option.bind_eq_some_iff.1 h
  obtain ⟨⟨l1,r1⟩,h2,h⟩:=Option.bind_eq_some_iff.1 h
  simp only [Option.some.injEq,Prod.mk.injEq] at h
  obtain ⟨rfl,rfl⟩:=h
  obtain ⟨e,hl,hc⟩:=JHk n x.num s1 r1 l1 h2
  exact ⟨by rw [JJl h1,e,QB,List.append_assoc],by simp [hl],JL9 h1,hc⟩
theorem JNN:∀(n:Nat) (last:Int) (s:Bits),JA8 n last s=none→∃l s1,s=QB last l++s1∧l.length<n∧JCf last l∧JA7 (QY last l) s1=none
 |0,last,s,h=>by cases h
 |n+1,last,s,h=>by
  unfold JA8 at h
  cases h1:JA7 last s with
  |none=>exact ⟨[],s,rfl,by simp,trivial,h1⟩
  |some p=>
   obtain ⟨x,s1⟩:=p
   rw [h1] at h
   simp only [Option.bind_some] at h
   cases h2:JA8 n x.num s1 with
   |some q=>rw [h2] at h;cases h
   |none=>
    obtain ⟨l,t,e,hl,hc,hp⟩:=JNN n x.num s1 h2
    exact ⟨x::l,t,by rw [JJl h1,e,QB,List.append_assoc],by simp;omega,⟨JL9 h1,hc⟩,hp⟩
theorem JMO:∀(f:Nat) (s:Bits),gz f s=none→(∃z≤f,s=List.replicate z false)∨∃r,s=List.replicate (f+1) false++r
 |f,[],_=>.inl ⟨0,Nat.zero_le _,rfl⟩
 |f,true::s,h=>by
  have:gz f (true::s)=some (0,s):=by cases f<;>rfl
  rw [this] at h;cases h
 |0,false::s,_=>.inr ⟨s,rfl⟩
 |f+1,false::s,h=>by
  rw [gz,Option.map_eq_none_iff] at h
  rcases JMO f s h with ⟨z,hz,e⟩|⟨r,e⟩
  ·exact .inl ⟨z+1,by omega,by rw [e];rfl⟩
  ·exact .inr ⟨r,by rw [e];rfl⟩
theorem JGD {k:Nat}{s:Bits}(h:takeB k s=none):s.length<k:=by
 unfold takeB at h
 split at h
 ·assumption
 ·cases h
theorem JHx {k n:Nat}{s r:Bits}(h:takeB k s=some (n,r)):∃a,a.length=k∧s=a++r∧n=J8 a:=by
 unfold takeB at h
 split at h
 ·cases h
 ·next hl=>cases h;exact ⟨s.take k,by rw [List.length_take];omega,(List.take_append_drop k s).symm,rfl⟩
theorem JFA:∀(l:List Pl) (a:Int),JCf a l→0≤a→∀(k:Nat),k≤l.length→(0≤QY a (l.take k)∧QY a (l.take k)≤a+131071*k)∧∀x,l[k]? = some x→JEP x (QY a (l.take k))∧QB (QY a (l.take k)) (l.drop k)=Qd x (QY a (l.take k))++QB x.num (l.drop (k+1))∧QY a (l.take (k+1))=x.num
 |[],a,_,ha,k,_=>by simp [QY,ha];omega
 |y::l,a,hc,ha,0,_=>by
  refine ⟨by simp [QY,ha],fun x hx=>?_⟩
  simp at hx;subst hx
  exact ⟨hc.1,by simp [QB,QY],by simp [QY]⟩
 |y::l,a,hc,ha,k+1,hk=>by
  obtain ⟨⟨f1,f2⟩,_,_⟩:=hc.1
  obtain ⟨h1,h2⟩:=JFA l y.num hc.2 (by omega) k (by simpa using hk)
  refine ⟨?_,fun x hx=>?_⟩
  ·rw [List.take_succ_cons,QY];omega
  ·obtain ⟨g1,g2,g3⟩:=h2 x (by simpa using hx)
   exact ⟨g1,g2,g3⟩
def ZX (a:Int)(l:List Pl)(o:Int):Nat→Int
 |0=>o
 |k+1=>match l[k]? with
  |some x=>((JV (Qd x (QY a (l.take k))):Nat):Int)
  |none=>o
theorem JHc {a:Int}{l:List Pl}{o:Int}(ho:0≤o∧o≤100000)(hb:∀k x,l[k]? = some x→JEP x (QY a (l.take k))):∀k,0≤ZX a l o k∧ZX a l o k≤100000
 |0=>ho
 |k+1=>by
  rw [ZX]
  cases hx:l[k]? with
  |none=>exact ho
  |some x=>
   obtain ⟨z,a',c,d,e,hz,ha,hc,hd,_,_,_,_,_,h⟩:=JNL (hb k x hx) []
   have h1:=JAG a'
   have h2:=JAG c
   have h3:=JAG d
   have h4:e.toNat≤1:=by cases e<;>decide
   show 0≤((JV (Qd x (QY a (l.take k))):Nat):Int)∧((JV (Qd x (QY a (l.take k))):Nat):Int)≤100000
   omega
end Go.Bk
namespace Go.Mw
open Go.Proofs
open Go.Bk
attribute [-go_sem] YG
attribute [local go_sem] JCU JCd JCa JCc JCV JCb JCZ JCY JCX JCW
theorem JGp {x:Pl}{last:Int}(r:Bits)(o:Int)(h:JEP x last)(hl:0≤last∧last≤90000000):Qq Tryz.prog 75 [.leaf (.ptr 911 0),.int last] [(911,.cells [.d (Qz (Qf (Qd x last++r))),.d (.i o)])] (.ret (plV x) [(911,.cells [.d (Qz (Qf r)),.d (.i ((JV (Qd x last):Nat):Int))])]):=by
 obtain ⟨z,a,c,d,e,hz,ha,hc,hd,e1,hp,e2,e3,e4,e5⟩:=JNL h r
 have:=JQJ z a c d r e last o hz ha hc hd hl hp
 rw [e2,e3,e4,e5] at this
 rw [e1]
 exact this
theorem JS3 {s:Bits}{last:Int}(o:Int)(hl:0≤last∧last≤90000000)(h:JA7 last s=none):Qr Tryz.prog J0 75 [.leaf (.ptr 911 0),.int last] [(911,.cells [.d (Qz (Qf s)),.d (.i o)])]:=by
 unfold JA7 at h
 cases h1:gz 16 s with
 |none=>
  rcases JMO 16 s h1 with ⟨z,hz,e⟩|⟨r,e⟩
  ·subst e;exact JJe _ last o hl (JSs z 0 hz (by omega))
  ·subst e;exact JJe _ last o hl (JSt r 0 (by omega))
 |some p=>
  obtain ⟨z,s1⟩:=p
  obtain ⟨e1,hz⟩:=JHQ _ _ _ _ h1
  rw [h1] at h
  simp only [Option.bind_some] at h
  cases h2:takeB z s1 with
  |none=>subst e1;exact JJe _ last o hl (JSu z s1 0 hz (JGD h2) (by omega))
  |some q=>
   obtain ⟨v,s2⟩:=q
   obtain ⟨a,ha,e2,v1⟩:=JHx h2
   rw [h2] at h
   simp only [Option.bind_some] at h
   cases h3:takeB 3 s2 with
   |none=>subst e1 e2;exact JSz z a s2 last o hz ha (JGD h3) hl
   |some q=>
    obtain ⟨v',s3⟩:=q
    obtain ⟨c,hc,e3,v2⟩:=JHx h3
    rw [h3] at h
    simp only [Option.bind_some] at h
    cases h4:takeB 18 s3 with
    |none=>subst e1 e2 e3;exact JS0 z a c s3 last o hz ha hc (JGD h4) hl
    |some q=>
     obtain ⟨v'',s4⟩:=q
     obtain ⟨d,hd,e4,v3⟩:=JHx h4
     rw [h4] at h
     simp only [Option.bind_some] at h
     cases h5:takeB 1 s4 with
     |none=>
      have:s4=[]:=List.eq_nil_of_length_eq_zero (by have:=JGD h5;omega)
      subst e1 e2 e3 e4 this
      exact JS1 z a c d last o hz ha hc hd hl
     |some q=>
      obtain ⟨v4,r⟩:=q
      obtain ⟨u,hu,e5,v5⟩:=JHx h5
      obtain ⟨e,rfl⟩:∃e,u=[e]:=List.length_eq_one_iff.1 hu
      rw [h5] at h
      simp only [Option.bind_some] at h
      have hs:s.take (s.length-r.length)=List.replicate z false++true::(a++(c++(d++[e]))):=by
       have:s=(List.replicate z false++true::(a++(c++(d++[e]))))++r:=by rw [e1,e2,e3,e4,e5];simp
       rw [this,List.length_append,Nat.add_sub_cancel,List.take_left]
      have ho:JV (s.take (s.length-r.length))=1+JV a+JV c+JV d+e.toNat:=by
       rw [hs,Zp,JJY,JM0,Zp,Zp,Zp,JCK];omega
      rw [ho] at h
      split at h
      ·cases h
      ·next hp=>
       subst e1 e2 e3 e4 e5
       exact JS2 z a c d r e last o hz ha hc hd hl hp
theorem JHP (a:Int):QB a []=[]:=by rw [QB]
theorem JSK (a:Int):QY a []=a:=by rw [QY]
theorem JSe (a:Int)(l:List Pl)(o:Int):ZX a l o 0=o:=by rw [ZX]
theorem JQj (b:Bs)(hb:b.length≤1000000)(n:Nat)(l:List Pl)(r:Bits)(hu:Q0 b=JX 8 n++(QB 0 l++r))(hn:n<256)(hln:l.length=n)(hc:JCf 0 l)(h8:r.length<8)(hpe:ZO l=0)(ho:JV r=0):Qq Tryz.prog 72 [.leaf (.d (.pt [Y5 b]))] [] (.ret (.leaf (.d (Yu l))) []):=by
 have hnf:=JE8 b hb
 rw [hu] at hnf
 have hv8:J8 (JX 8 n)=n:=JAq 8 n (by omega)
 have hn8:=Yd 8 n
 have ho8:=JAG (JX 8 n)
 rw [hn8] at ho8
 have hca:=JFA l 0 hc (by omega)
 have hob:=JHc (a:=0) (l:=l) (o:=(0+((JV (JX 8 n):Nat):Int))) (by omega) (fun k x hx=>((hca k (Nat.le_of_lt (List.getElem?_eq_some_iff.1 hx).1)).2 x hx).1)
 refine Js Jf Tryz.func72 rfl JEr JJ rfl ?_
 refine JB.reg ?_
 have X:=Fx.mk hv8
 refine JA.o1 JC ?_
 refine JA.nil (JB.reg ?_)
 refine JA.o1 JC ?_
 refine JA.cal (hnf) JY JC Qc (fr1 JD) JC ?_
 refine JA.o1 JC ?_
 refine JA.nil (JB.reg ?_)
 refine JA.o1 JC ?_
 refine JA.nil (JB.assocS (JB.reg ?_))
 refine JA.nilo 1 1000 70 3 JD JD (by omega) (by omega) JD ?_
 refine JA.o1 JC ?_
 refine JA.lendG [(911,7006)] JD (JAz 8 (JX 8 n) (QB 0 l++r) 0 hn8 (by omega) (by omega)) JY (.inl ⟨[],by simp only [go_sem]<;>rfl,rfl⟩) JD V5 rfl (by decide) YB Zb YQ YW JD ?_
 refine JA.o1 JC ?_
 refine JA.nil (JB.blk ?_)
 refine JB.forA [1,2,3,8,9] [7006,1000] (l.length) (fun k=>[.slot 3 (.int (QY 0 (l.take k))),.slot 9 (.int k),.slot 1 (.leaf (.own 1000 0 k k)),.obj 7006 (.cells [.d (Qz (Qf (QB (QY 0 (l.take k)) (l.drop k)++r))),.d (.i (ZX 0 l (0+((JV (JX 8 n):Nat):Int)) k))]),.obj 1000 (.arr 70 3 ((l.take k).map Y7))]) (fun _=>True) (fun k=>by simp only [go_sem]<;>rfl) V78 ?_ (fun k hk hX=>?_)
 ·trivial
 ·skip
  refine JB.reg ?_
  refine JA.o1 JC ?_
  refine JA.nil ?_
  refine JB.cndS JC (fun hb10=>?_) (fun hb10=>?_)
  ·skip
   have hlt:=(show k<l.length by have:=of_decide_eq_true hb10;omega)
   obtain ⟨x,hx⟩:∃x,l[k]? = some x:=⟨_,List.getElem?_eq_getElem (by omega)⟩
   obtain ⟨hlp,hcx⟩:=hca k (by omega)
   obtain ⟨g1,g2,g3⟩:=hcx x hx
   have hok:ZX 0 l (0+((JV (JX 8 n):Nat):Int)) (k+1)=((JV (Qd x (QY 0 (l.take k))):Nat):Int):=by rw [ZX,hx]
   have htl:(l.take k).length=k:=by rw [List.length_take];omega
   have hts:=Yf hx
   have hkb:=hob k
   refine JB.skipS (JB.blk (JB.reg ?_))
   have X:=((X.a g3).a hok).a htl
   iterate 2 (refine JA.o1 JC ?_)
   have X:=Fx.mk g2
   refine JA.lendG [(911,7006)] JD (JGp (QB x.num (l.drop (k+1))++r) (ZX 0 l (0+((JV (JX 8 n):Nat):Int)) k) g1 (by omega)) JY (.inl ⟨[],by simp only [go_sem]<;>rfl,rfl⟩) JCQ V5 rfl (by decide) YB V45 YQ YW JCQ ?_
   have X:=(((Fx.mk hv8).a g3).a hok).a htl
   iterate 2 (refine JA.o1 JC ?_)
   refine JA.nil ?_
   refine JB.opk1 10 ?_
   iterate 3 (refine JF.o1 JC ?_)
   refine JF.o1 V4 ?_
   iterate 4 (refine JF.o1 JC ?_)
   refine JF.nil (QO.fin QZ QZ ?_)
   refine JR.nrm (JB.reg1 ?_)
   refine JA.o1 Jv ?_
   refine JA.o1 JC ?_
   refine JA.nil ?_
   refine JU.nxt ?_ ?_ ?_
   ·omega
   ·exact JN.kp [1,2,3,8,9] [7006,1000] V17
   ·trivial
  ·skip
   have hke:k=l.length:=by have:=of_decide_eq_false hb10;omega
   subst hke
   have htk:l.take l.length=l:=List.take_of_length_le (by omega)
   have hdk:l.drop l.length=[]:=List.drop_eq_nil_of_le (by omega)
   have hta:List.take l.length (List.map Y7 l)=List.map Y7 l:=List.take_of_length_le (by simp)
   have hir:=JBH r
   have gn:=JHP
   have hl8:decide ((r.length:Int)<8)=true:=decide_eq_true (by omega)
   have h00:((0:Int)==0)=true:=rfl
   refine JB.exitS (JU.ext (JR.hit (JB.reg ?_)))
   have X:=Fx.mk hta
   refine JA.frz 1000 JC ?_
   have X:=(((((((Fx.mk htk).a hdk).a gn).a hta).a hir).a hl8).a hpe).a h00
   iterate 7 (refine JA.o1 Qi ?_)
   refine JA.y1 Qi ?_
   refine JA.calw JD (JEE l (by omega)) JY Qi Qi Qc (YX) Qi ?_
   refine JA.y1 Qi ?_
   refine JA.o1 Qi ?_
   refine JA.c1 (YH true rfl) Qi Qi ?_
   refine JA.nil (JB.reg ?_)
   iterate 4 (refine JA.o1 Qi ?_)
   refine JA.nil (JB.blk ?_)
   refine JB.forA [1,2] [7006] (r.length) (fun j=>[.obj 7006 (.cells [.d (Qz (Qf (r.drop j))),.d (.i ((JV (r.take j):Nat):Int))])]) (fun _=>True) (fun j=>by simp only [go_sem]<;>rfl) V75 ?_ (fun j hj Xj=>?_)
   ·trivial
   ·skip
    refine JB.assocS (JB.reg ?_)
    iterate 6 (refine JA.o1 Qi ?_)
    refine JA.nil ?_
    refine JB.cndS Qi (fun hb41=>?_) (fun hb41=>?_)
    ·skip
     have hbl:=JBH (r.drop j)
     rw [List.length_drop] at hbl
     have hjl:j<r.length:=by have:=of_decide_eq_true hb41;omega
     obtain ⟨e,he⟩:∃e,r[j]? = some e:=⟨_,List.getElem?_eq_getElem (by omega)⟩
     have hdk:r.drop j=e::r.drop (j+1):=JEK he
     have htk2:JV (r.take (j+1))=JV (r.take j)+e.toNat:=by rw [Yf he,Zp,JCK]
     have hoj:=JFm r j
     refine JB.skipS (JB.blk1 (JB.reg1 ?_))
     refine JA.o1 Qi ?_
     have X:=Fx.mk hdk
     refine JA.lendG [(911,7006)] JD (JAd e (r.drop (j+1)) ((JV (r.take j):Nat):Int) (by omega)) JY (.inl ⟨[],by simp only [go_sem]<;>rfl,rfl⟩) JC Y1 rfl (by decide) YB V58 YQ YW JC ?_
     refine JA.nil (Qp.nrm ?_)
     refine JU.nxt ?_ ?_ ?_
     ·omega
     ·exact JN.kp [1,2] [7006] V10
     ·trivial
    ·skip
     have hbl:=JBH (r.drop j)
     rw [List.length_drop] at hbl
     have hje:j=r.length:=by have:=of_decide_eq_false hb41;omega
     have hrt:r.take j=r:=List.take_of_length_le (by omega)
     refine JB.exitS (JU.ext (JR.hit (JB.reg ?_)))
     have X:=(X.a hrt).a ho
     iterate 5 (refine JA.o1 V89 ?_)
     refine JA.c1 (YH true rfl) V89 V89 ?_
     refine JA.nil (JB.reg ?_)
     iterate 2 (refine JA.o1 V89 ?_)
     refine JA.nil ?_
     exact Ends.fin [] (rs:=[.tmp 1]) rfl V89 (by simp only [go_sem,X.h,List.nil_append,List.length_map,Int.natCast_zero]<;>first|rfl|exact QP)
theorem JTE (b:Bs)(hb:b.length≤1000000)(hu:(Q0 b).length<8):Qr Tryz.prog J0 72 [.leaf (.d (.pt [Y5 b]))] []:=by
 refine Yq Jf Tryz.func72 rfl JEr JJ rfl ?_
 refine JB.reg ?_
 refine JA.o ?_
 refine JA.nil (JB.reg ?_)
 refine JA.o ?_
 refine JA.cal (JE8 b hb) JY JD Qc (fr1 JD) JD ?_
 refine JA.o ?_
 refine JA.nil (JB.reg ?_)
 refine JA.o ?_
 refine JA.nil (JB.assocS ?_)
 refine JB.pan (pv:=J0) 1 rfl ?_
 refine JA.o ?_
 exact JA.pang [(911,7006)] 0 (JHf 8 (Q0 b) 0 hu (by omega) (by omega)) JY JD JD V32 (fun q x h=>by by_cases e:q=911<;>simp [look,e] at h;subst e;subst h;exact ⟨7006,_,rfl,by simp only [go_sem]<;>rfl,QI.refl _,rfl⟩) V85 rfl
theorem JTF (b:Bs)(hb:b.length≤1000000)(n:Nat)(l:List Pl)(r:Bits)(hu:Q0 b=JX 8 n++(QB 0 l++r))(hn:n<256)(hln:l.length<n)(hc:JCf 0 l)(hp:JA7 (QY 0 l) r=none):Qr Tryz.prog J0 72 [.leaf (.d (.pt [Y5 b]))] []:=by
 have hnf:=JE8 b hb
 rw [hu] at hnf
 have hv8:J8 (JX 8 n)=n:=JAq 8 n (by omega)
 have hn8:=Yd 8 n
 have ho8:=JAG (JX 8 n)
 rw [hn8] at ho8
 have hca:=JFA l 0 hc (by omega)
 have hob:=JHc (a:=0) (l:=l) (o:=(0+((JV (JX 8 n):Nat):Int))) (by omega) (fun k x hx=>((hca k (Nat.le_of_lt (List.getElem?_eq_some_iff.1 hx).1)).2 x hx).1)
 refine Yq Jf Tryz.func72 rfl JEr JJ rfl ?_
 refine JB.reg ?_
 have X:=Fx.mk hv8
 refine JA.o1 JC ?_
 refine JA.nil (JB.reg ?_)
 refine JA.o1 JC ?_
 refine JA.cal (hnf) JY JC Qc (fr1 JD) JC ?_
 refine JA.o1 JC ?_
 refine JA.nil (JB.reg ?_)
 refine JA.o1 JC ?_
 refine JA.nil (JB.assocS (JB.reg ?_))
 refine JA.nilo 1 1000 70 3 JD JD (by omega) (by omega) JD ?_
 refine JA.o1 JC ?_
 refine JA.lendG [(911,7006)] JD (JAz 8 (JX 8 n) (QB 0 l++r) 0 hn8 (by omega) (by omega)) JY (.inl ⟨[],by simp only [go_sem]<;>rfl,rfl⟩) JD V5 rfl (by decide) YB Zb YQ YW JD ?_
 refine JA.o1 JC ?_
 refine JA.nil (JB.blk ?_)
 refine JB.forA [1,2,3,8,9] [7006,1000] (l.length) (fun k=>[.slot 3 (.int (QY 0 (l.take k))),.slot 9 (.int k),.slot 1 (.leaf (.own 1000 0 k k)),.obj 7006 (.cells [.d (Qz (Qf (QB (QY 0 (l.take k)) (l.drop k)++r))),.d (.i (ZX 0 l (0+((JV (JX 8 n):Nat):Int)) k))]),.obj 1000 (.arr 70 3 ((l.take k).map Y7))]) (fun _=>True) (fun k=>by simp only [go_sem]<;>rfl) V78 ?_ (fun k hk hX=>?_)
 ·trivial
 ·skip
  refine JB.reg ?_
  refine JA.o1 JC ?_
  refine JA.nil ?_
  refine JB.cndS JC (fun hb10=>?_) (fun hb10=>?_)
  ·skip
   have hkn:k<n:=by have:=of_decide_eq_true hb10;omega
   refine JB.skipS (JB.blk ?_)
   by_cases hk2:k<l.length
   ·skip
    have hlt:=hk2
    obtain ⟨x,hx⟩:∃x,l[k]? = some x:=⟨_,List.getElem?_eq_getElem (by omega)⟩
    obtain ⟨hlp,hcx⟩:=hca k (by omega)
    obtain ⟨g1,g2,g3⟩:=hcx x hx
    have hok:ZX 0 l (0+((JV (JX 8 n):Nat):Int)) (k+1)=((JV (Qd x (QY 0 (l.take k))):Nat):Int):=by rw [ZX,hx]
    have htl:(l.take k).length=k:=by rw [List.length_take];omega
    have hts:=Yf hx
    have hkb:=hob k
    refine JB.reg ?_
    have X:=((X.a g3).a hok).a htl
    iterate 2 (refine JA.o1 JC ?_)
    have X:=Fx.mk g2
    refine JA.lendG [(911,7006)] JD (JGp (QB x.num (l.drop (k+1))++r) (ZX 0 l (0+((JV (JX 8 n):Nat):Int)) k) g1 (by omega)) JY (.inl ⟨[],by simp only [go_sem]<;>rfl,rfl⟩) JCQ V5 rfl (by decide) YB V45 YQ YW JCQ ?_
    have X:=(((Fx.mk hv8).a g3).a hok).a htl
    iterate 2 (refine JA.o1 JC ?_)
    refine JA.nil ?_
    refine JB.opk1 10 ?_
    iterate 3 (refine JF.o1 JC ?_)
    refine JF.o1 V4 ?_
    iterate 4 (refine JF.o1 JC ?_)
    refine JF.nil (QO.fin QZ QZ ?_)
    refine JR.nrm (JB.reg1 ?_)
    refine JA.o1 Jv ?_
    refine JA.o1 JC ?_
    refine JA.nil ?_
    refine JU.nxt ?_ ?_ ?_
    ·omega
    ·exact JN.kp [1,2,3,8,9] [7006,1000] V17
    ·trivial
   ·skip
    have hke:k=l.length:=by omega
    subst hke
    have htk:l.take l.length=l:=List.take_of_length_le (by omega)
    have hdk:l.drop l.length=[]:=List.drop_eq_nil_of_le (by omega)
    have gn:=JHP
    obtain ⟨hlp,_⟩:=hca l.length (by omega)
    rw [htk] at hlp
    refine JB.pan (pv:=J0) 2 rfl ?_
    have X:=((Fx.mk htk).a hdk).a gn
    iterate 2 (refine JA.o1 (by simp only [go_sem,X.h,List.nil_append]<;>rfl) ?_)
    have X:=((Fx.mk hdk).a gn).a htk
    exact JA.pang [(911,7006)] 0 (JS3 (ZX 0 l (0+((JV (JX 8 n):Nat):Int)) l.length) (by omega) hp) JY JD (by simp only [go_sem,X.h,List.nil_append,Int.zero_add]<;>rfl) V32 (fun q x h=>by by_cases e:q=911<;>simp [look,e] at h;subst e;subst h;exact ⟨7006,_,rfl,by simp only [go_sem,X.h,List.nil_append,Int.zero_add]<;>rfl,QI.refl _,rfl⟩) V85 rfl
  ·skip
   exact absurd (of_decide_eq_false hb10) (by omega)
theorem JTG (b:Bs)(hb:b.length≤1000000)(n:Nat)(l:List Pl)(r:Bits)(hu:Q0 b=JX 8 n++(QB 0 l++r))(hn:n<256)(hln:l.length=n)(hc:JCf 0 l)(hbad:¬(r.length<8∧ZO l=0∧JV r=0)):Qr Tryz.prog J0 72 [.leaf (.d (.pt [Y5 b]))] []:=by
 have hnf:=JE8 b hb
 rw [hu] at hnf
 have hv8:J8 (JX 8 n)=n:=JAq 8 n (by omega)
 have hn8:=Yd 8 n
 have ho8:=JAG (JX 8 n)
 rw [hn8] at ho8
 have hca:=JFA l 0 hc (by omega)
 have hob:=JHc (a:=0) (l:=l) (o:=(0+((JV (JX 8 n):Nat):Int))) (by omega) (fun k x hx=>((hca k (Nat.le_of_lt (List.getElem?_eq_some_iff.1 hx).1)).2 x hx).1)
 refine Yq Jf Tryz.func72 rfl JEr JJ rfl ?_
 refine JB.reg ?_
 have X:=Fx.mk hv8
 refine JA.o1 JC ?_
 refine JA.nil (JB.reg ?_)
 refine JA.o1 JC ?_
 refine JA.cal (hnf) JY JC Qc (fr1 JD) JC ?_
 refine JA.o1 JC ?_
 refine JA.nil (JB.reg ?_)
 refine JA.o1 JC ?_
 refine JA.nil (JB.assocS (JB.reg ?_))
 refine JA.nilo 1 1000 70 3 JD JD (by omega) (by omega) JD ?_
 refine JA.o1 JC ?_
 refine JA.lendG [(911,7006)] JD (JAz 8 (JX 8 n) (QB 0 l++r) 0 hn8 (by omega) (by omega)) JY (.inl ⟨[],by simp only [go_sem]<;>rfl,rfl⟩) JD V5 rfl (by decide) YB Zb YQ YW JD ?_
 refine JA.o1 JC ?_
 refine JA.nil (JB.blk ?_)
 refine JB.forA [1,2,3,8,9] [7006,1000] (l.length) (fun k=>[.slot 3 (.int (QY 0 (l.take k))),.slot 9 (.int k),.slot 1 (.leaf (.own 1000 0 k k)),.obj 7006 (.cells [.d (Qz (Qf (QB (QY 0 (l.take k)) (l.drop k)++r))),.d (.i (ZX 0 l (0+((JV (JX 8 n):Nat):Int)) k))]),.obj 1000 (.arr 70 3 ((l.take k).map Y7))]) (fun _=>True) (fun k=>by simp only [go_sem]<;>rfl) V78 ?_ (fun k hk hX=>?_)
 ·trivial
 ·skip
  refine JB.reg ?_
  refine JA.o1 JC ?_
  refine JA.nil ?_
  refine JB.cndS JC (fun hb10=>?_) (fun hb10=>?_)
  ·skip
   have hlt:=(show k<l.length by have:=of_decide_eq_true hb10;omega)
   obtain ⟨x,hx⟩:∃x,l[k]? = some x:=⟨_,List.getElem?_eq_getElem (by omega)⟩
   obtain ⟨hlp,hcx⟩:=hca k (by omega)
   obtain ⟨g1,g2,g3⟩:=hcx x hx
   have hok:ZX 0 l (0+((JV (JX 8 n):Nat):Int)) (k+1)=((JV (Qd x (QY 0 (l.take k))):Nat):Int):=by rw [ZX,hx]
   have htl:(l.take k).length=k:=by rw [List.length_take];omega
   have hts:=Yf hx
   have hkb:=hob k
   refine JB.skipS (JB.blk (JB.reg ?_))
   have X:=((X.a g3).a hok).a htl
   iterate 2 (refine JA.o1 JC ?_)
   have X:=Fx.mk g2
   refine JA.lendG [(911,7006)] JD (JGp (QB x.num (l.drop (k+1))++r) (ZX 0 l (0+((JV (JX 8 n):Nat):Int)) k) g1 (by omega)) JY (.inl ⟨[],by simp only [go_sem]<;>rfl,rfl⟩) JCQ V5 rfl (by decide) YB V45 YQ YW JCQ ?_
   have X:=(((Fx.mk hv8).a g3).a hok).a htl
   iterate 2 (refine JA.o1 JC ?_)
   refine JA.nil ?_
   refine JB.opk1 10 ?_
   iterate 3 (refine JF.o1 JC ?_)
   refine JF.o1 V4 ?_
   iterate 4 (refine JF.o1 JC ?_)
   refine JF.nil (QO.fin QZ QZ ?_)
   refine JR.nrm (JB.reg1 ?_)
   refine JA.o1 Jv ?_
   refine JA.o1 JC ?_
   refine JA.nil ?_
   refine JU.nxt ?_ ?_ ?_
   ·omega
   ·exact JN.kp [1,2,3,8,9] [7006,1000] V17
   ·trivial
  ·skip
   have hke:k=l.length:=by have:=of_decide_eq_false hb10;omega
   subst hke
   have htk:l.take l.length=l:=List.take_of_length_le (by omega)
   have hdk:l.drop l.length=[]:=List.drop_eq_nil_of_le (by omega)
   have hta:List.take l.length (List.map Y7 l)=List.map Y7 l:=List.take_of_length_le (by simp)
   have hir:=JBH r
   have gn:=JHP
   have h00:((0:Int)==0)=true:=rfl
   refine JB.exitS (JU.ext (JR.hit ?_))
   by_cases h8:r.length<8
   ·skip
    have hl8:decide ((r.length:Int)<8)=true:=decide_eq_true (by omega)
    by_cases hpe:ZO l=0
    ·skip
     have ho:JV r≠0:=fun e=>hbad ⟨h8,hpe,e⟩
     refine JB.reg ?_
     have X:=Fx.mk hta
     refine JA.frz 1000 JC ?_
     have X:=(((((((Fx.mk htk).a hdk).a gn).a hta).a hir).a h00).a hl8).a hpe
     iterate 7 (refine JA.o1 Qi ?_)
     refine JA.y1 Qi ?_
     refine JA.calw JD (JEE l (by omega)) JY Qi Qi Qc (YX) Qi ?_
     refine JA.y1 Qi ?_
     refine JA.o1 Qi ?_
     refine JA.c1 (YH true rfl) Qi Qi ?_
     refine JA.nil (JB.reg ?_)
     iterate 4 (refine JA.o1 Qi ?_)
     refine JA.nil (JB.blk ?_)
     refine JB.forA [1,2] [7006] (r.length) (fun j=>[.obj 7006 (.cells [.d (Qz (Qf (r.drop j))),.d (.i ((JV (r.take j):Nat):Int))])]) (fun _=>True) (fun j=>by simp only [go_sem]<;>rfl) V75 ?_ (fun j hj Xj=>?_)
     ·trivial
     ·skip
      refine JB.assocS (JB.reg ?_)
      iterate 6 (refine JA.o1 Qi ?_)
      refine JA.nil ?_
      refine JB.cndS Qi (fun hb41=>?_) (fun hb41=>?_)
      ·skip
       have hbl:=JBH (r.drop j)
       rw [List.length_drop] at hbl
       have hjl:j<r.length:=by have:=of_decide_eq_true hb41;omega
       obtain ⟨e,he⟩:∃e,r[j]? = some e:=⟨_,List.getElem?_eq_getElem (by omega)⟩
       have hdk:r.drop j=e::r.drop (j+1):=JEK he
       have htk2:JV (r.take (j+1))=JV (r.take j)+e.toNat:=by rw [Yf he,Zp,JCK]
       have hoj:=JFm r j
       refine JB.skipS (JB.blk1 (JB.reg1 ?_))
       refine JA.o1 Qi ?_
       have X:=Fx.mk hdk
       refine JA.lendG [(911,7006)] JD (JAd e (r.drop (j+1)) ((JV (r.take j):Nat):Int) (by omega)) JY (.inl ⟨[],by simp only [go_sem]<;>rfl,rfl⟩) JC Y1 rfl (by decide) YB V58 YQ YW JC ?_
       refine JA.nil (Qp.nrm ?_)
       refine JU.nxt ?_ ?_ ?_
       ·omega
       ·exact JN.kp [1,2] [7006] (by simp only [go_sem,htk,hdk,gn,List.nil_append,hta,hir,h00,List.length_map,hl8,hpe]<;>first|((repeat' (first|with_reducible_and_instances rfl|refine Q8 ?_ ?_ ?_|refine Q7 ?_|refine YL ?_|refine Q9 ?_ ?_|refine Q3 ?_|refine Q4 ?_|refine YN ?_|refine Q6 ?_ ?_|refine YI ?_ ?_|refine YK ?_|refine YF ?_|(refine Q5 ?_;omega)));all_goals (first|omega|(rw [htk2];omega)))|rfl)
       ·trivial
      ·skip
       have hbl:=JBH (r.drop j)
       rw [List.length_drop] at hbl
       have hje:j=r.length:=by have:=of_decide_eq_false hb41;omega
       have hrt:r.take j=r:=List.take_of_length_le (by omega)
       have hof:(((JV r:Nat):Int)==0)=false:=by simp;omega
       refine JB.exitS (JU.ext (JR.hit ?_))
       refine JB.pan (pv:=J0) 5 rfl ?_
       have X:=(X.a hrt).a hof
       iterate 5 (refine JA.o1 Qi ?_)
       exact JA.panc (Z4 false rfl) JY Qi Qc rfl
    ·skip
     have hpf:(ZO l==0)=false:=by simpa using hpe
     refine JB.pan (pv:=J0) 11 rfl ?_
     have X:=Fx.mk hta
     refine JA.frz 1000 JC ?_
     have X:=(((((((Fx.mk htk).a hdk).a gn).a hta).a hir).a h00).a hl8).a hpf
     iterate 7 (refine JA.o1 Qi ?_)
     refine JA.y1 Qi ?_
     refine JA.calw JD (JEE l (by omega)) JY Qi Qi Qc (YX) Qi ?_
     refine JA.y1 Qi ?_
     refine JA.o1 Qi ?_
     exact JA.panc (Z4 false rfl) JY Qi Qc rfl
   ·skip
    have hl8:decide ((r.length:Int)<8)=false:=decide_eq_false (by omega)
    refine JB.pan (pv:=J0) 11 rfl ?_
    have X:=Fx.mk hta
    refine JA.frz 1000 JC ?_
    have X:=((((((Fx.mk htk).a hdk).a gn).a hta).a hir).a h00).a hl8
    iterate 7 (refine JA.o1 Qi ?_)
    iterate 3 (refine JA.s ?_)
    refine JA.o1 Qi ?_
    exact JA.panc (Z4 false rfl) JY Qi Qc rfl
end Go.Mw
namespace Go.Mw
open Go.Proofs Go.Bk
theorem JQe {b:Bs}{l:List Pl}(hb:b.length≤1000000)(h:ZN b=some l):Qq Tryz.prog 72 [.leaf (.d (.pt [Y5 b]))] [] (.ret (.leaf (.d (Yu l))) []):=by
 unfold ZN at h
 obtain ⟨⟨n,s⟩,h1,h⟩:=Option.bind_eq_some_iff.1 h
 obtain ⟨⟨l',r⟩,h2,h⟩:=Option.bind_eq_some_iff.1 h
 simp only at h2 h
 split at h
 ·next hc=>
  cases h
  obtain ⟨e1,hn⟩:=JBW h1
  obtain ⟨e2,hl,hw⟩:=JHk _ _ _ _ _ h2
  exact JQj b hb n l r (by rw [e1,e2]) hn hl hw hc.1 hc.2.1 hc.2.2
 ·cases h
theorem JM6 {b:Bs}(hb:b.length≤1000000)(h:ZN b=none):Qr Tryz.prog J0 72 [.leaf (.d (.pt [Y5 b]))] []:=by
 unfold ZN at h
 cases h1:takeB 8 (Q0 b) with
 |none=>exact JTE b hb (JGD h1)
 |some p=>
  obtain ⟨n,s⟩:=p
  obtain ⟨e1,hn⟩:=JBW h1
  rw [h1] at h
  simp only [Option.bind_some] at h
  cases h2:JA8 n 0 s with
  |none=>
   obtain ⟨l,r,e2,hl,hw,hp⟩:=JNN _ _ _ h2
   exact JTF b hb n l r (by rw [e1,e2]) hn hl hw hp
  |some q=>
   obtain ⟨l,r⟩:=q
   obtain ⟨e2,hl,hw⟩:=JHk _ _ _ _ _ h2
   rw [h2] at h
   simp only [Option.bind_some] at h
   have hu:Q0 b=JX 8 n++(QB 0 l++r):=by rw [e1,e2]
   refine JTG b hb n l r hu hn hl hw fun hc=>?_
   rw [if_pos hc] at h;cases h
end Go.Mw
namespace Go.Mw
open Go.Proofs Go.RowKit
theorem JOc (a b v:Value):#[a,b]++(((Array.replicate 16 undef).setIfInBounds 3 v).setIfInBounds 0 v)=#[a,b,v,undef,undef,v,undef,undef,undef,undef,undef,undef,undef,undef,undef,undef,undef,undef]:=by kernel_rfl
theorem JSB (p q:Addr)(w:World):CallsD Tryz.prog 125 #[.pointer (some p),.pointer (some q)] .returning w fun e u' w'=>e=.returned (.tuple #[])∧u'=.returning∧w'=w:=by
 refine callsD_of_wpS Tryz.func125 rfl fun c₀ cs hu=>?_
 apply wpS_seq
 apply wpS_region
 simp [wpOpsS,go_sem,recoverD,hu,Tryz.ntmps125,Exit.thenS]
 rw [JOc]
 refine wpS_of_wp ?_
 have hnil:∀w:World,(binOp BinOp.neq 20 .nilIface .nilIface).run Tryz.prog w=.ok (.bool false) w:=fun _=>by kernel_rfl
 have heg:∀w:World,(eqGuard BinOp.neq 20 (Operand.tmp 6) (Operand.const .nilIface) .nilIface .nilIface).run Tryz.prog w=.ok () w:=fun _=>by kernel_rfl
 go_wp2
 cases c₀
 simp_all [bodyPostS,results,Tryz.results125,Exit.thenS]
theorem JVu (p q:Nat)(w:World){cp cq:Value}{tp tq:TypeId}(hp:w.heap[p]? = some (.cells #[cp] tp (0,0)))(hq:w.heap[q]? = some (.cells #[cq] tq (0,0)))(hpq:p≠q) :
  CallsD Tryz.prog 125 #[.pointer (some ⟨p,0,none⟩),.pointer (some ⟨q,0,none⟩)] (.panicking [{ v:=J0,recovered:=false }]) w fun e u' w'=>e=.returned (.tuple #[])∧u'=.panicking [{ v:=J0,recovered:=true }] ∧
   w'=(((w.setCell ⟨p,0,none⟩ (.slice none 0 0)).setCell ⟨q,0,none⟩ (.int .i64 8)).alloc (.cells #[.int .i64 8] 172)).drew:=by
 have mixed:=JJV
 refine callsD_of_wpS Tryz.func125 rfl fun c₀ cs hu=>?_
 apply wpS_seq
 apply wpS_region
 simp [wpOpsS,go_sem,recoverD,hu,Tryz.ntmps125,Exit.thenS]
 rw [JOc]
 refine wpS_of_wp ?_
 have hnil:∀w:World,(binOp BinOp.neq 20 J0 .nilIface).run Tryz.prog w=.ok (.bool true) w:=fun _=>by kernel_rfl
 have hta:∀w:World,(Instr.typeAssert J0 20 172 true).run Tryz.prog w=.ok (.tuple #[.agg #[.int .i64 8],.bool true]) w:=fun _=>by kernel_rfl
 have heg:∀w:World,(eqGuard BinOp.neq 20 (Operand.tmp 6) (Operand.const .nilIface) J0 .nilIface).run Tryz.prog w=.ok () w:=fun _=>by kernel_rfl
 generalize hv:J0=v at hnil hta heg ⊢
 have hlp:=(Array.getElem?_eq_some_iff.1 hp).1
 have hlq:=(Array.getElem?_eq_some_iff.1 hq).1
 have hpa:∀o,(w.alloc o).drew.heap[p]? = some (.cells #[cp] tp (0,0)):=fun o=>(Below.heap_alloc w o p hlp).trans hp
 have hqa:∀o,(w.alloc o).drew.heap[q]? = some (.cells #[cq] tq (0,0)):=fun o=>(Below.heap_alloc w o q hlq).trans hq
 have hna:∀o,(w.alloc o).drew.heap[w.heap.size]? = some o:=fun o=>heap_alloc_new w o
 have cpa:∀o,(w.alloc o).drew.cell? ⟨p,0,none⟩=some cp:=fun o=>by rw [Lib.cell_of_heap (hpa o)];rfl
 have cqa:∀o,(w.alloc o).drew.cell? ⟨q,0,none⟩=some cq:=fun o=>by rw [Lib.cell_of_heap (hqa o)];rfl
 have cna:(w.alloc (.cells #[.int .i64 8] 172)).drew.cell? ⟨w.heap.size,0,none⟩=some (.int .i64 8):=by rw [Lib.cell_of_heap (hna _)];rfl
 have fpa:∀o,(w.alloc o).drew.frozen? ⟨p,0,none⟩=false:=fun o=>Lib.frozen_of_heap (hpa o) _
 have fqa:∀o,(w.alloc o).drew.frozen? ⟨q,0,none⟩=false:=fun o=>Lib.frozen_of_heap (hqa o) _
 have cp0:w.cell? ⟨p,0,none⟩=some cp:=by rw [Lib.cell_of_heap hp];rfl
 have cq0:w.cell? ⟨q,0,none⟩=some cq:=by rw [Lib.cell_of_heap hq];rfl
 have fp0:w.frozen? ⟨p,0,none⟩=false:=Lib.frozen_of_heap hp _
 have fq0:w.frozen? ⟨q,0,none⟩=false:=Lib.frozen_of_heap hq _
 have hqp:q≠p:=fun h=>hpq h.symm
 go_wp2
 go_region
 exact ⟨rfl,_,rfl,_,results_none rfl _ _ _,rfl,rfl,rfl⟩
theorem JTs (x:Value)(w:World)(G:Value→World→Prop)
  (hf:Calls Tryz.prog 72 #[x] ((w.alloc (.cells #[.slice none 0 0] 52)).alloc (.cells #[.int .i64 0] 35)) fun e w'=>∃p n c,e=.returned (.slice p n c)∧G (.slice p n c) w' ∧
   w'.heap[w.heap.size]? = some (.cells #[.slice none 0 0] 52 (0,0))∧w'.heap[w.heap.size+1]? = some (.cells #[.int .i64 0] 35 (0,0))) :
  Calls Tryz.prog 71 #[.func (.func 72) #[] #[x]] w fun e w'=>∃r w2,G r w2∧e=.returned (.tuple #[r,.int .i64 0])∧w'=(w2.setCell ⟨w.heap.size,0,none⟩ r).setCell ⟨w.heap.size+1,0,none⟩ (.int .i64 0):=by
 have hmf:∀(fn:Fn) (first cap:Array Value) (w:World),(Instr.makeFunc fn first cap).run Tryz.prog w=.ok (.func fn first cap) w:=fun _ _ _ _=>rfl
 go_enter_defers Tryz.func71,Tryz.ntmps71
 go_wp2_with (go_at_call 72;refine hf.mono ?_)
 rintro e w2 ⟨p,n,c,rfl,hG,h1,h2⟩
 have c1:w2.cell? ⟨w.heap.size,0,none⟩=some (.slice none 0 0):=by rw [Lib.cell_of_heap h1];rfl
 have c2:w2.cell? ⟨w.heap.size+1,0,none⟩=some (.int .i64 0):=by rw [Lib.cell_of_heap h2];rfl
 have f1:w2.frozen? ⟨w.heap.size,0,none⟩=false:=Lib.frozen_of_heap h1 _
 have f2:w2.frozen? ⟨w.heap.size+1,0,none⟩=false:=Lib.frozen_of_heap h2 _
 go_wp2
 have hne:w.heap.size≠w.heap.size+1:=by omega
 have g1:((w2.setCell ⟨w.heap.size,0,none⟩ (.slice p n c)).setCell ⟨w.heap.size+1,0,none⟩ (.int .i64 0)).heap[w.heap.size]? = some (.cells #[.slice p n c] 52 (0,0)):=
  (Below.heap_setCell _ ⟨w.heap.size+1,0,none⟩ _ _ hne).trans ((Lib.heap_setCell_same (i:=0) h1 (.slice p n c)).trans rfl)
 have g2:((w2.setCell ⟨w.heap.size,0,none⟩ (.slice p n c)).setCell ⟨w.heap.size+1,0,none⟩ (.int .i64 0)).heap[w.heap.size+1]? = some (.cells #[.int .i64 0] 35 (0,0)):=
  (Lib.heap_setCell_same (i:=0) ((Below.heap_setCell w2 ⟨w.heap.size,0,none⟩ _ _ (fun h=>hne h.symm)).trans h2) (.int .i64 0)).trans rfl
 have d1:((w2.setCell ⟨w.heap.size,0,none⟩ (.slice p n c)).setCell ⟨w.heap.size+1,0,none⟩ (.int .i64 0)).cell? ⟨w.heap.size,0,none⟩=some (.slice p n c):=by rw [Lib.cell_of_heap g1];rfl
 have d2:((w2.setCell ⟨w.heap.size,0,none⟩ (.slice p n c)).setCell ⟨w.heap.size+1,0,none⟩ (.int .i64 0)).cell? ⟨w.heap.size+1,0,none⟩=some (.int .i64 0):=by rw [Lib.cell_of_heap g2];rfl
 refine leaves_cons (f:=125) (args:=#[.pointer (some ⟨w.heap.size,0,none⟩),.pointer (some ⟨w.heap.size+1,0,none⟩)]) (by simp) (by simp [go_sem]) ?_
 refine (JSB ⟨w.heap.size,0,none⟩ ⟨w.heap.size+1,0,none⟩ _).mono ?_
 rintro e u' w'' ⟨rfl,rfl,rfl⟩
 generalize hW:(w2.setCell ⟨w.heap.size,0,none⟩ (.slice p n c)).setCell ⟨w.heap.size+1,0,none⟩ (.int .i64 0)=W at d1 d2 ⊢
 simp [Leaves,settle,results,Tryz.results71,go_sem,d1,d2]
 exact ⟨_,w2,hG,rfl,hW.symm⟩
theorem JTt (x:Value)(w:World)(G:World→Prop)
  (hf:Calls Tryz.prog 72 #[x] ((w.alloc (.cells #[.slice none 0 0] 52)).alloc (.cells #[.int .i64 0] 35)) fun e w'=>e=.panicked (Z3 J0)∧G w' ∧
   w'.heap[w.heap.size]? = some (.cells #[.slice none 0 0] 52 (0,0))∧w'.heap[w.heap.size+1]? = some (.cells #[.int .i64 0] 35 (0,0))) :
  Calls Tryz.prog 71 #[.func (.func 72) #[] #[x]] w fun e w'=>∃w2,G w2∧e=.returned (.tuple #[.slice none 0 0,.int .i64 8])∧w'=(((w2.setCell ⟨w.heap.size,0,none⟩ (.slice none 0 0)).setCell ⟨w.heap.size+1,0,none⟩ (.int .i64 8)).alloc (.cells #[.int .i64 8] 172)).drew:=by
 have hmf:∀(fn:Fn) (first cap:Array Value) (w:World),(Instr.makeFunc fn first cap).run Tryz.prog w=.ok (.func fn first cap) w:=fun _ _ _ _=>rfl
 go_enter_defers Tryz.func71,Tryz.ntmps71
 go_wp2_with (go_at_call 72;refine hf.mono ?_)
 rintro e w2 ⟨rfl,hG,h1,h2⟩
 go_wp2
 have hne:w.heap.size≠w.heap.size+1:=by omega
 have hl2:=(Array.getElem?_eq_some_iff.1 h2).1
 have g1:((w2.setCell ⟨w.heap.size,0,none⟩ (.slice none 0 0)).setCell ⟨w.heap.size+1,0,none⟩ (.int .i64 8)).heap[w.heap.size]? = some (.cells #[.slice none 0 0] 52 (0,0)):=
  (Below.heap_setCell _ ⟨w.heap.size+1,0,none⟩ _ _ hne).trans ((Lib.heap_setCell_same (i:=0) h1 (.slice none 0 0)).trans rfl)
 have g2:((w2.setCell ⟨w.heap.size,0,none⟩ (.slice none 0 0)).setCell ⟨w.heap.size+1,0,none⟩ (.int .i64 8)).heap[w.heap.size+1]? = some (.cells #[.int .i64 8] 35 (0,0)):=
  (Lib.heap_setCell_same (i:=0) ((Below.heap_setCell w2 ⟨w.heap.size,0,none⟩ _ _ (fun h=>hne h.symm)).trans h2) (.int .i64 8)).trans rfl
 have hs:((w2.setCell ⟨w.heap.size,0,none⟩ (.slice none 0 0)).setCell ⟨w.heap.size+1,0,none⟩ (.int .i64 8)).heap.size=w2.heap.size:=by rw [ZZ,ZZ]
 refine leaves_cons (f:=125) (args:=#[.pointer (some ⟨w.heap.size,0,none⟩),.pointer (some ⟨w.heap.size+1,0,none⟩)]) (by simp) (by simp [go_sem]) ?_
 refine (JVu w.heap.size (w.heap.size+1) w2 h1 h2 hne).mono ?_
 rintro e u' w'' ⟨rfl,rfl,rfl⟩
 generalize hW:(w2.setCell ⟨w.heap.size,0,none⟩ (.slice none 0 0)).setCell ⟨w.heap.size+1,0,none⟩ (.int .i64 8)=W at g1 g2 hs ⊢
 have k1:(W.alloc (.cells #[.int .i64 8] 172)).drew.heap[w.heap.size]? = some (.cells #[.slice none 0 0] 52 (0,0)):=(Below.heap_alloc W _ _ (by omega)).trans g1
 have k2:(W.alloc (.cells #[.int .i64 8] 172)).drew.heap[w.heap.size+1]? = some (.cells #[.int .i64 8] 35 (0,0)):=(Below.heap_alloc W _ _ (by omega)).trans g2
 have d1:(W.alloc (.cells #[.int .i64 8] 172)).drew.cell? ⟨w.heap.size,0,none⟩=some (.slice none 0 0):=by rw [Lib.cell_of_heap k1];rfl
 have d2:(W.alloc (.cells #[.int .i64 8] 172)).drew.cell? ⟨w.heap.size+1,0,none⟩=some (.int .i64 8):=by rw [Lib.cell_of_heap k2];rfl
 generalize hV:(W.alloc (.cells #[.int .i64 8] 172)).drew=V at d1 d2 ⊢
 simp [Leaves,settle,results,Tryz.results71,go_sem,d1,d2]
 trace_state
 exact ⟨w2,hG,by rw [hW,hV]⟩
end Go.Mw
namespace Go.Mw
open Go.Proofs
open Go.Bk
theorem JNd:JEo Tryz.prog 71 72 52 35:=fun x w G h=>JTs x w G h
theorem JNf:JIA Tryz.prog 71 72 J0 52 35 172:=fun x w G h=>JTt x w G h
def rdE (r:Option (List Pl)):AV:=match r with
 |some l=>.tup [(false,[.d (Yu l)]),(false,[.d (.i 0)])]
 |none=>.tup [(false,[.d (Yu [])]),(false,[.d (.i 8)])]
theorem JQp (b:Bs)(hb:b.length≤1000000):Jb Tryz.prog 71 [.leaf (.d (.fn 72 [.pt [Y5 b]]))] (rdE (ZN b)) []:=by
 cases h:ZN b with
 |some l=>exact JLk JNd (fun _ _ _ h=>JOD h) (JQe hb h)
 |none=>exact JGy JNf (fun _ _=>RepD.nil _ _ _) (JM6 hb h)
theorem JLL (b:Bs)(hb:b.length≤1000000):Jb Tryz.prog 27 [.leaf (.d (Y5 b))] (rdE (ZN b)) []:=by
 have hcr:=JQp b hb
 generalize ZN b=q at hcr ⊢
 rcases q with _|l
 ·skip
  dsimp only [rdE] at hcr ⊢
  refine Js Jf Tryz.func27 rfl JGL JJ rfl ?_
  refine JB.reg ?_
  iterate 3 (refine JA.o ?_)
  refine JA.nil (JB.reg ?_)
  refine JA.frz 1 JD ?_
  refine JA.o ?_
  refine JA.frz 4 JD ?_
  refine JA.c1 (hcr) JD JD ?_
  iterate 4 (refine JA.o ?_)
  refine JA.nil ?_
  exact Ends.fin [] (rs:=[.tmp 2,.tmp 3]) rfl JD ZB
 ·skip
  dsimp only [rdE] at hcr ⊢
  refine Js Jf Tryz.func27 rfl JGL JJ rfl ?_
  refine JB.reg ?_
  iterate 3 (refine JA.o ?_)
  refine JA.nil (JB.reg ?_)
  refine JA.frz 1 JD ?_
  refine JA.o ?_
  refine JA.frz 4 JD ?_
  refine JA.c1 (hcr) JD JD ?_
  iterate 4 (refine JA.o ?_)
  refine JA.nil ?_
  exact Ends.fin [] (rs:=[.tmp 2,.tmp 3]) rfl JD ZB
end Go.Mw
namespace Go.Bk
def JAN (s:List Sh)(p:List Pl)(g:List Pg):Bool:=
 s.any (fun x=>decide (10<x.tries.length)) || (g.any (fun x=>decide (24<x.reads.length)) || (decide (18<s.length) || (decide (70<p.length) || decide (40<g.length))))
theorem JSR {s:List Sh}{p:List Pl}{g:List Pg}(h:JAN s p g=false):(s.length≤18∧∀x∈s,x.tries.length≤10)∧p.length≤70∧g.length≤40∧∀x∈g,x.reads.length≤24:=by
 unfold JAN at h
 simp only [Bool.or_eq_false_iff,decide_eq_false_iff_not,List.any_eq_false,decide_eq_true_eq] at h
 obtain ⟨h1,h2,h3,h4,h5⟩:=h
 exact ⟨⟨by omega,fun x hx=>by have:=h1 x hx;omega⟩,by omega,by omega,fun x hx=>by have:=h2 x hx;omega⟩
theorem JKw {α:Type}{f:α→Bool}{l:List α}{k:Nat}{x:α}(h:l[k]? = some x)(hx:f x=true):l.any f=true:=List.any_eq_true.2 ⟨x,List.mem_of_getElem? h,hx⟩
theorem JOb {α:Type}{f:α→Bool}{l:List α}{k:Nat}{x:α}(h:l[k]? = some x)(hk:(l.take k).any f=false)(hx:f x=false):(l.take (k+1)).any f=false:=by
 rw [List.take_add_one,h,List.any_append,hk];simp [hx]
theorem JF5 {α:Type}{a b:List α}{k:Nat}{x:α}(hx:a[k]? = some x)(hy:b[k]? = some x)(h:a.take k=b.take k):a.take (k+1)=b.take (k+1):=by
 rw [List.take_add_one,List.take_add_one,hx,hy,h]
theorem JF4 {α:Type}{a b:List α}{k:Nat}(hl:a.length=b.length)(hk:a.length≤k)(h:a.take k=b.take k):a=b:=by
 rwa [List.take_of_length_le hk,List.take_of_length_le (by omega)] at h
end Go.Bk
namespace Go.Mw
open Go.Proofs
open Go.Bk
attribute [local go_sem] decide_true beq_self_eq_true bne_self_eq_false
def exS:List Sh:=[⟨42,[⟨100,500,495⟩,⟨1000,2000,2010⟩]⟩]
def exP:List Pl:=[⟨5,2,9⟩,⟨6,2,9⟩]
def exG:List Pg:=[⟨7,[100,110,120,130,135]⟩,⟨8,[5]⟩,⟨9,[]⟩]
def JRe:Bs:=[35,48,48,48,48,52,50,32,54,10,32,32,32,49,48,48,32,32,32,32,32,53,48,48,32,32,32,32,32,52,57,53,32,52,10,32,32,49,48,48,48,32,32,32,32,50,48,48,48,32,32,32,32,50,48,49,48,32,54,10]
def JHF:Bs:=[2,42,0,2,116,0,4,128]
def JRY:Bs:=[55,32,49,48,48,32,51,120,49,48,32,53,10,56,32,53,10,57,10]
theorem JRf:JC2 exS=0:=by decide +kernel
theorem JRg:JH5 exS=JRe:=by decide +kernel
theorem JRb:ZO exP=0:=by decide +kernel
theorem JRd:Y0 exP=JHF:=by decide +kernel
theorem JRc:ZN JHF=some exP:=by decide +kernel
theorem JRZ:Yl exG=0:=by decide +kernel
theorem JRa:JBB exG=JRY:=by decide +kernel
theorem JQI:Jb Tryz.prog 62 [] (.leaf (.d (Z6 exS))) []:=by
 refine Js Jf Tryz.func62 rfl (by simp only [List.length_cons,List.length_nil,Tryz.ntmps62];omega) JJ rfl ?_
 refine JB.reg ?_
 refine JA.o ?_
 refine JA.nil (JB.reg ?_)
 iterate 3 (refine JA.o ?_)
 refine JA.frz 3 JD ?_
 iterate 2 (refine JA.o ?_)
 refine JA.frz 5 JD ?_
 refine JA.o ?_
 refine JA.nil ?_
 exact Ends.fin [] (rs:=[.tmp 0]) rfl JD ZB
theorem JLT:Jb Tryz.prog 63 [] (.leaf (.d (Yu exP))) []:=by
 refine Js Jf Tryz.func63 rfl (by simp only [List.length_cons,List.length_nil,Tryz.ntmps63];omega) JJ rfl ?_
 refine JB.reg ?_
 refine JA.o ?_
 refine JA.nil (JB.reg ?_)
 iterate 3 (refine JA.o ?_)
 refine JA.frz 3 JD ?_
 refine JA.o ?_
 refine JA.nil ?_
 exact Ends.fin [] (rs:=[.tmp 0]) rfl JD ZB
theorem JQH:Jb Tryz.prog 33 [] (.leaf (.d (Yt exG))) []:=by
 refine Js Jf Tryz.func33 rfl (by simp only [List.length_cons,List.length_nil,Tryz.ntmps33];omega) JJ rfl ?_
 refine JB.reg ?_
 refine JA.o ?_
 refine JA.nil (JB.reg ?_)
 refine JA.o ?_
 refine JA.frz 1 JD ?_
 iterate 2 (refine JA.o ?_)
 refine JA.frz 3 JD ?_
 iterate 2 (refine JA.o ?_)
 refine JA.nildA 5 1 1 JD rfl JD ?_
 refine JA.o ?_
 refine JA.frz 6 JD ?_
 refine JA.o ?_
 refine JA.nil ?_
 exact Ends.fin [] (rs:=[.tmp 0]) rfl JD ZB
end Go.Mw
namespace Go.Mw
open Go.Proofs
open Go.Bk
attribute [local go_sem] decide_true beq_self_eq_true bne_self_eq_false
theorem JIe (a b:List Pl)(ha:a.length≤1000000)(hb:b.length≤1000000):Jb Tryz.prog 29 [.leaf (.d (Yu a)),.leaf (.d (Yu b))] (.bool (decide (a=b))) []:=by
 refine Js Jf Tryz.func29 rfl (by simp only [List.length_cons,List.length_nil,Tryz.ntmps29];omega) JJ rfl ?_
 refine JB.reg ?_
 refine JA.o ?_
 refine JA.nil (JB.assocS (JB.reg ?_))
 iterate 5 (refine JA.o ?_)
 refine JA.nil ?_
 refine JB.cndS JD (fun hb10=>?_) (fun hb10=>?_)
 ·skip
  have hne:¬a=b:=fun h=>by subst h;simp at hb10
  have hr:decide (a=b)=false:=decide_eq_false hne
  refine JB.assocS (JB.reg ?_)
  have X:=Fx.mk hr
  refine JA.o1 JC ?_
  refine JA.nil (JB.retS ?_)
  exact Ends.fin [] (rs:=[.tmp 4]) rfl JC Qs
 ·skip
  have hll:a.length=b.length:=by simp at hb10;omega
  refine JB.skipS (JB.assocS (JB.reg ?_))
  refine JA.o ?_
  refine JA.nil (JB.blk ?_)
  refine JB.forA [0,1,5] [] (a.length) (fun k=>[.slot 5 (.int k)]) (fun k=>a.take k=b.take k) (fun k=>by simp only [go_sem]<;>rfl) JDy ?_ (fun k hk hX=>?_)
  ·rfl
  ·skip
   refine JB.assocS (JB.reg ?_)
   iterate 4 (refine JA.o ?_)
   refine JA.nil ?_
   refine JB.cndS JD (fun hb14=>?_) (fun hb14=>?_)
   ·skip
    have hlt:=Yk hb14
    obtain ⟨x,hx⟩:=Yj hb14
    obtain ⟨y,hy⟩:∃y,b[k]? = some y:=⟨_,List.getElem?_eq_getElem (by omega)⟩
    refine JB.skipS (JB.blk ?_)
    refine JB.opk 11 ?_
    have X:=(Fx.mk hx).a hy
    iterate 2 (refine JF.o1 JC ?_)
    refine JF.o1 QE ?_
    iterate 3 (refine JF.o1 JC ?_)
    refine JF.o1 QE ?_
    iterate 2 (refine JF.o1 JC ?_)
    refine JF.nil (QO.fin QZ QZ ?_)
    refine JB.cnd JC (fun hb25=>?_) (fun hb25=>?_)
    ·skip
     have hne:¬a=b:=fun h=>by subst h;rw [hx] at hy;cases hy;simp at hb25
     have hr:decide (a=b)=false:=decide_eq_false hne
     refine JB.reg ?_
     have X:=X.a hr
     refine JA.o1 JC ?_
     refine JA.nil (JR.ret (JU.ret (JR.ret ?_)))
     exact Ends.fin [] (rs:=[.tmp 4]) rfl JC Qs
    ·skip
     have hxy:x=y:=by
      obtain ⟨x1,x2,x3⟩:=x
      obtain ⟨y1,y2,y3⟩:=y
      simp at hb25
      obtain ⟨e1,e2,e3⟩:=hb25
      subst e1 e2 e3;rfl
     subst hxy
     refine JR.nrm (JB.reg1 ?_)
     refine JA.o1 JC ?_
     refine JA.o1 Jv ?_
     refine JA.o1 JC ?_
     refine JA.nil ?_
     refine JU.nxt ?_ ?_ ?_
     ·omega
     ·exact JN.kp [0,1,5] [] ZA
     ·exact JF5 hx hy hX
   ·skip
    have heq:=JF4 hll (Yo hb14) hX
    have hr:decide (a=b)=true:=decide_eq_true heq
    refine JB.exitS (JU.ext (JR.hit (JB.reg ?_)))
    have X:=Fx.mk hr
    refine JA.o1 JC ?_
    refine JA.nil ?_
    exact Ends.fin [] (rs:=[.tmp 4]) rfl JC Qs
theorem JQX (s:List Sh)(p:List Pl)(g:List Pg)(hs:s.length≤9223372036854775807)(hp:p.length≤9223372036854775807)(hg:g.length≤9223372036854775807):Jb Tryz.prog 23 [.leaf (.d (Z6 s)),.leaf (.d (Yu p)),.leaf (.d (Yt g))] (.bool (JAN s p g)) []:=by
 refine Js Jf Tryz.func23 rfl (by simp only [List.length_cons,List.length_nil,Tryz.ntmps23];omega) JJ rfl ?_
 refine JB.reg ?_
 refine JA.o ?_
 refine JA.nil (JB.assocS (JB.reg ?_))
 iterate 3 (refine JA.o ?_)
 refine JA.nil (JB.blk ?_)
 refine JB.forA [0,1,2,11,12,13] [] (s.length) (fun k=>[.slot 13 (.int k)]) (fun k=>(s.take k).any (fun x=>decide (10<x.tries.length))=false) (fun k=>by simp only [go_sem]<;>rfl) JDy ?_ (fun k hk hX=>?_)
 ·rfl
 ·skip
  refine JB.reg ?_
  refine JA.o ?_
  refine JA.nil ?_
  refine JB.cndS JD (fun hb14=>?_) (fun hb14=>?_)
  ·skip
   have hlt:=Yk hb14
   obtain ⟨x,hx⟩:=Yj hb14
   refine JB.skipS (JB.blk (JB.reg ?_))
   have X:=Fx.mk hx
   refine JA.o1 QE ?_
   iterate 3 (refine JA.o1 JC ?_)
   refine JA.nil (JB.reg ?_)
   iterate 4 (refine JA.o1 JC ?_)
   refine JA.nil ?_
   refine JB.cnd JC (fun hb20=>?_) (fun hb20=>?_)
   ·skip
    have hl:10<x.tries.length:=by have:=of_decide_eq_true hb20;omega
    have hA:s.any (fun x=>decide (10<x.tries.length))=true:=JKw hx (decide_eq_true hl)
    have hr:JAN s p g=true:=by unfold JAN;rw [hA];rfl
    refine JB.reg ?_
    have X:=X.a hr
    refine JA.o1 JC ?_
    refine JA.nil (JR.ret (JU.ret (JR.ret ?_)))
    exact Ends.fin [] (rs:=[.tmp 6]) rfl JC Qs
   ·skip
    have hl:¬ 10<x.tries.length:=by have:=of_decide_eq_false hb20;omega
    refine JR.nrm (JB.reg1 ?_)
    refine JA.o1 Jv ?_
    refine JA.o1 JC ?_
    refine JA.nil ?_
    refine JU.nxt ?_ ?_ ?_
    ·omega
    ·exact JN.kp [0,1,2,11,12,13] [] ZA
    ·exact JOb hx hX (decide_eq_false hl)
  ·skip
   have hA:s.any (fun x=>decide (10<x.tries.length))=false:=by rw [List.take_of_length_le (Yo hb14)] at hX;exact hX
   refine JB.exitS (JU.ext (JR.hit (JB.assocS (JB.reg ?_))))
   iterate 3 (refine JA.o ?_)
   refine JA.nil (JB.blk ?_)
   refine JB.forA [0,1,2,22,23,24] [] (g.length) (fun j=>[.slot 24 (.int j)]) (fun j=>(g.take j).any (fun x=>decide (24<x.reads.length))=false) (fun j=>by simp only [go_sem]<;>rfl) JDy ?_ (fun j hj Xj=>?_)
   ·rfl
   ·skip
    refine JB.reg ?_
    refine JA.o ?_
    refine JA.nil ?_
    refine JB.cndS JD (fun hb25=>?_) (fun hb25=>?_)
    ·skip
     have hlt2:=Yk hb25
     obtain ⟨y,hy⟩:=Yj hb25
     refine JB.skipS (JB.blk (JB.reg ?_))
     have X:=Fx.mk hy
     refine JA.o1 QE ?_
     iterate 3 (refine JA.o1 JC ?_)
     refine JA.nil (JB.reg ?_)
     iterate 4 (refine JA.o1 JC ?_)
     refine JA.nil ?_
     refine JB.cnd JC (fun hb31=>?_) (fun hb31=>?_)
     ·skip
      have hl2:24<y.reads.length:=by have:=of_decide_eq_true hb31;omega
      have hB:g.any (fun x=>decide (24<x.reads.length))=true:=JKw hy (decide_eq_true hl2)
      have hr:JAN s p g=true:=by unfold JAN;rw [hA,hB];rfl
      refine JB.reg ?_
      have X:=X.a hr
      refine JA.o1 JC ?_
      refine JA.nil (JR.ret (JU.ret (JR.ret ?_)))
      exact Ends.fin [] (rs:=[.tmp 6]) rfl JC Qs
     ·skip
      have hl2:¬ 24<y.reads.length:=by have:=of_decide_eq_false hb31;omega
      refine JR.nrm (JB.reg1 ?_)
      refine JA.o1 Jv ?_
      refine JA.o1 JC ?_
      refine JA.nil ?_
      refine JU.nxt ?_ ?_ ?_
      ·omega
      ·exact JN.kp [0,1,2,22,23,24] [] ZA
      ·exact JOb hy Xj (decide_eq_false hl2)
    ·skip
     have hB:g.any (fun x=>decide (24<x.reads.length))=false:=by rw [List.take_of_length_le (Yo hb25)] at Xj;exact Xj
     refine JB.exitS (JU.ext (JR.hit ?_))
     by_cases g1:18<s.length
     ·skip
      have q1:decide ((s.length:Int)>18)=true:=by first|exact decide_eq_true (by omega)|exact decide_eq_false (by omega)
      have hr:JAN s p g=true:=by unfold JAN;rw [hA,hB,decide_eq_true g1];rfl
      refine JB.reg ?_
      have X:=(Fx.mk q1).a hr
      iterate 4 (refine JA.o1 JC ?_)
      iterate 3 (refine JA.s ?_)
      iterate 2 (refine JA.o1 JC ?_)
      iterate 3 (refine JA.s ?_)
      iterate 2 (refine JA.o1 JC ?_)
      refine JA.nil ?_
      exact Ends.fin [] (rs:=[.tmp 6]) rfl JC Qs
     ·skip
      have q1:decide ((s.length:Int)>18)=false:=by first|exact decide_eq_true (by omega)|exact decide_eq_false (by omega)
      by_cases g2:70<p.length
      ·skip
       have q2:decide ((p.length:Int)>70)=true:=by first|exact decide_eq_true (by omega)|exact decide_eq_false (by omega)
       have hr:JAN s p g=true:=by unfold JAN;rw [hA,hB,decide_eq_false g1,decide_eq_true g2];rfl
       refine JB.reg ?_
       have X:=((Fx.mk q1).a q2).a hr
       iterate 4 (refine JA.o1 JC ?_)
       iterate 3 (refine JA.y1 JC ?_)
       iterate 2 (refine JA.o1 JC ?_)
       iterate 3 (refine JA.s ?_)
       iterate 2 (refine JA.o1 JC ?_)
       refine JA.nil ?_
       exact Ends.fin [] (rs:=[.tmp 6]) rfl JC Qs
      ·skip
       have q2:decide ((p.length:Int)>70)=false:=by first|exact decide_eq_true (by omega)|exact decide_eq_false (by omega)
       have q3:decide ((g.length:Int)>40)=decide (40<g.length):=by by_cases h:40<g.length<;>simp [h]<;>omega
       have hr:JAN s p g=decide (40<g.length):=by unfold JAN;rw [hA,hB,decide_eq_false g1,decide_eq_false g2];rfl
       refine JB.reg ?_
       have X:=(((Fx.mk q1).a q2).a q3).a hr
       iterate 4 (refine JA.o1 JC ?_)
       iterate 3 (refine JA.y1 JC ?_)
       iterate 2 (refine JA.o1 JC ?_)
       iterate 3 (refine JA.y1 JC ?_)
       iterate 2 (refine JA.o1 JC ?_)
       refine JA.nil ?_
       exact Ends.fin [] (rs:=[.tmp 6]) rfl JC Qs
theorem JGn:Jb Tryz.prog 24 [] (.bool true) []:=by
 have k1:=JLQ exS (by decide) (by decide)
 rw [JRg,JRf] at k1
 have k2:=JLP exP (by decide)
 rw [JRd,JRb] at k2
 have k3:=JLO exG (by decide) (by decide)
 rw [JRa,JRZ] at k3
 have k4:=JLL JHF (by decide)
 rw [JRc] at k4
 have k5:=JIe exP exP (by decide) (by decide)
 rw [decide_eq_true (show exP=exP from rfl)] at k5
 have z0:((0:Int)==0)=true:=rfl
 refine Js Jf Tryz.func24 rfl (by simp only [List.length_cons,List.length_nil,Tryz.ntmps24];omega) JJ rfl ?_
 refine JB.reg ?_
 have X:=Fx.mk z0
 refine JA.o1 JC ?_
 refine JA.nil (JB.reg ?_)
 refine JA.c1 (JQI) JC JC ?_
 refine JA.c1 (k1) JC JC ?_
 iterate 5 (refine JA.o1 JC ?_)
 refine JA.nil (JB.reg ?_)
 refine JA.c1 (JLT) JC JC ?_
 refine JA.c1 (k2) JC JC ?_
 iterate 5 (refine JA.o1 JC ?_)
 refine JA.nil (JB.reg ?_)
 refine JA.c1 (JQH) JC JC ?_
 refine JA.c1 (k3) JC JC ?_
 iterate 5 (refine JA.o1 JC ?_)
 refine JA.nil (JB.reg ?_)
 refine JA.o1 JC ?_
 refine JA.c1 (k4) JC JC ?_
 iterate 5 (refine JA.o1 JC ?_)
 refine JA.nil (JB.reg ?_)
 iterate 3 (refine JA.o1 JC ?_)
 iterate 2 (refine JA.y1 JC ?_)
 iterate 2 (refine JA.o1 JC ?_)
 refine JA.y1 JC ?_
 refine JA.val (JF7 Tryz.underlying53 Tryz.underlying5 Tryz.underlying9 (l:=JHF) (.inl JD)) JD JD ?_
 refine JA.y1 JC ?_
 iterate 2 (refine JA.o1 JC ?_)
 iterate 2 (refine JA.y1 JC ?_)
 iterate 2 (refine JA.o1 JC ?_)
 iterate 2 (refine JA.y1 JC ?_)
 iterate 2 (refine JA.o1 JC ?_)
 iterate 2 (refine JA.y1 JC ?_)
 iterate 2 (refine JA.o1 JC ?_)
 refine JA.y1 JC ?_
 refine JA.calw JD (JLT) JY JC JC (by exact trivial) (YX) JC ?_
 refine JA.calw JD (k5) JY JC JC V30 (YX) JC ?_
 iterate 2 (refine JA.o1 JC ?_)
 iterate 2 (refine JA.y1 JC ?_)
 iterate 2 (refine JA.o1 JC ?_)
 refine JA.nil ?_
 exact Ends.fin [] (rs:=[.tmp 0]) rfl JC Qs
end Go.Mw
namespace Go.Mw
open Go.Proofs Go.RowKit Go.ChangeShapes Go.WideShapes Go.Bk
theorem JNr {α:Type}{f:α→List D}:∀ {rows:List (List D)},(∀r∈rows,∃x,r=f x)→∃l:List α,rows=l.map f
 |[],_=>⟨[],rfl⟩
 |r::rows,h=>by
  obtain ⟨x,rfl⟩:=h r (by simp)
  obtain ⟨l,rfl⟩:=JNr (rows:=rows) fun q hq=>h q (List.mem_cons_of_mem _ hq)
  exact ⟨x::l,rfl⟩
section
variable {H:Type} {enc:TypeId × Value→H} {W:World} {v:Value} {d:DataW H} {ps:List MemPlace}
abbrev JBa (enc:TypeId × Value→H)(W:World)(t:TypeId)(Q:List D→Prop):Prop:=Reads enc Tryz.prog W 0 (fun _=>true) true t Q
theorem JJp:JBa enc W 3 (fun ds=>∃n:Int,ds=Qy n):=JHm (ks:=[.int .i64]) JJ fun r h=>by
 obtain ⟨a,r,rfl,⟨n,hn,_⟩,h⟩:=JAv h
 have:=JEA h
 subst hn this
 exact ⟨n,rfl⟩
theorem JTl:JBa enc W 146 (fun ds=>∃x:Tr,ds=JFD x):=JHm (ks:=[.int .i64,.int .i64,.int .i64]) JJ fun r h=>by
 obtain ⟨a,r,rfl,⟨n,hn,_⟩,h⟩:=JAv h
 obtain ⟨b,r,rfl,⟨m,hm,_⟩,h⟩:=JAv h
 obtain ⟨c,r,rfl,⟨k,hk,_⟩,h⟩:=JAv h
 have:=JEA h
 subst hn hm hk this
 exact ⟨⟨n,m,k⟩,rfl⟩
theorem JTj:JBa enc W 70 (fun ds=>∃x:Pl,ds=Y7 x):=JHm (ks:=[.int .i64,.int .i64,.int .i64]) JJ fun r h=>by
 obtain ⟨a,r,rfl,⟨n,hn,_⟩,h⟩:=JAv h
 obtain ⟨b,r,rfl,⟨m,hm,_⟩,h⟩:=JAv h
 obtain ⟨c,r,rfl,⟨k,hk,_⟩,h⟩:=JAv h
 have:=JEA h
 subst hn hm hk this
 exact ⟨⟨n,m,k⟩,rfl⟩
theorem JEd {t e:TypeId}{k:Nat}{α:Type}{f:α→List D}(ht:Tryz.prog.underlying t=some (.slice e))(hr:JBa enc W e (fun ds=>∃x:α,ds=f x))(hc:Tryz.prog.cellsOf e=k)(h0:0<k):JBa enc W t (fun ds=>∃l:List α,ds=[D.sl k (l.map f)]):=fun fuel cs x h=>by
 obtain ⟨ds,⟨rows,rfl,hr⟩,ha⟩:=JTv ht hr hc h0 fuel cs x h
 obtain ⟨l,rfl⟩:=JNr (f:=f) (rows:=rows) hr
 exact ⟨_,⟨l,rfl⟩,ha⟩
theorem JTk:JBa enc W 68 (fun ds=>∃x:Sh,ds=JBn x):=fun fuel cs x h=>by
 obtain ⟨n,ha⟩:=JOX (P:=Tryz.prog) (t:=68) (ts:=[3,66]) JJ h
 obtain ⟨a,r,rfl,h1,ha⟩:=JAv ha
 obtain ⟨b,r,rfl,h2,ha⟩:=JAv ha
 have:=JEA ha
 subst this
 obtain ⟨d1,⟨x1,e1⟩,q1⟩:=JHn JJp h1
 obtain ⟨d2,⟨x2,e2⟩,q2⟩:=JHn (JEd (k:=3) JJ JTl JJ (by decide)) h2
 cases e1;cases e2
 exact ⟨_,⟨⟨x1,x2⟩,rfl⟩,q1,q2,trivial⟩
theorem JTi:JBa enc W 31 (fun ds=>∃x:Pg,ds=Yx x):=fun fuel cs x h=>by
 obtain ⟨n,ha⟩:=JOX (P:=Tryz.prog) (t:=31) (ts:=[3,29]) JJ h
 obtain ⟨a,r,rfl,h1,ha⟩:=JAv ha
 obtain ⟨b,r,rfl,h2,ha⟩:=JAv ha
 have:=JEA ha
 subst this
 obtain ⟨d1,⟨x1,e1⟩,q1⟩:=JHn JJp h1
 obtain ⟨d2,⟨x2,e2⟩,q2⟩:=JHn (JEd (k:=1) JJ JJp JJ (by decide)) h2
 cases e1;cases e2
 exact ⟨_,⟨⟨x1,x2⟩,rfl⟩,q1,q2,trivial⟩
theorem JTh:JBa enc W 53 (fun ds=>∃l:Bs,ds=[Y5 l]):=fun fuel cs x h=>by
 have hr:JBa enc W 5 (fun ds=>∃c:UInt8,ds=[.raw (.int .u8 c.toNat)]):=JHm (ks:=[.int .u8]) JJ fun r h=>by
  obtain ⟨a,r,rfl,⟨n,hn,hw⟩,h⟩:=JAv h
  have:=JEA h
  subst hn this
  have h2:0≤n∧n≤255:=by
   simp only [Lit.wf,Bool.and_eq_true,decide_eq_true_eq] at hw
   have e1:IntKind.u8.min=0:=by decide
   have e2:IntKind.u8.max=255:=by decide
   omega
  refine ⟨UInt8.ofNat n.toNat,?_⟩
  have:((UInt8.ofNat n.toNat).toNat:Int)=n:=by rw [UInt8.toNat_ofNat'];omega
  show [D.raw (.int .u8 n)]=[D.raw (.int .u8 ((UInt8.ofNat n.toNat).toNat:Int))]
  rw [this]
 obtain ⟨ds,⟨l,rfl⟩,ha⟩:=JEd (k:=1) (f:=fun c:UInt8=>[D.raw (.int .u8 c.toNat)]) JJ hr JJ (by decide) fuel cs x h
 exact ⟨_,⟨l,rfl⟩,ha⟩
theorem JHd {t:TypeId}{Q:List D→Prop}(hr:JBa enc W t Q){b0:Nat}{r:Reach}{e:TypeId}(ht:Tryz.prog.underlying t=some (.slice e))(hv:Value.okWide Tryz.prog W r b0 t v)(h:DataW.Trod enc Tryz.prog W 0 (fun _=>true) true t v d ps) :
  ∃x:D,Q [x]∧Jk (fun b _=>b<W.heap.size) Yc (look []) W (.leaf (.d x)) v:=by
 obtain ⟨fuel,hf⟩:=h
 have hc:∃a n c,v=.slice a n c:=by
  unfold Value.okWide at hv
  rw [ht] at hv
  simp only [Cell.okWide,ht] at hv
  cases v<;>first|exact ⟨_,_,_,rfl⟩|(simp [Cell.ok,ht] at hv)
 obtain ⟨a,n,c,rfl⟩:=hc
 have hcs:(Value.slice a n c).cells.toList=[Value.slice a n c]:=rfl
 rw [hcs] at hf
 obtain ⟨ds,hq,ha⟩:=hr _ _ _ hf
 match ds,ha with
 |[x],ha=>exact ⟨x,hq,_,rfl,ha.1⟩
theorem JUR {b0:Nat}{r:Reach}(hv:Value.okWide Tryz.prog W r b0 61 v)(h:DataW.Trod enc Tryz.prog W 0 (fun _=>true) true 61 v d ps) :
  ∃l:List Sh,l.length≤9223372036854775807∧Jk (fun b _=>b<W.heap.size) Yc (look []) W (.leaf (.d (Z6 l))) v:=by
 obtain ⟨x,⟨l,e⟩,hr⟩:=JHd (e:=68) (JEd (k:=2) JJ JTk JJ (by decide)) JJ hv h
 cases e
 exact ⟨l,by have:=JHr (P:=Tryz.prog) (e:=68) JJ hv h hr;rwa [List.length_map] at this,hr⟩
theorem JTc {b0:Nat}{r:Reach}(hv:Value.okWide Tryz.prog W r b0 52 v)(h:DataW.Trod enc Tryz.prog W 0 (fun _=>true) true 52 v d ps) :
  ∃l:List Pl,l.length≤9223372036854775807∧Jk (fun b _=>b<W.heap.size) Yc (look []) W (.leaf (.d (Yu l))) v:=by
 obtain ⟨x,⟨l,e⟩,hr⟩:=JHd (e:=70) (JEd (k:=3) JJ JTj JJ (by decide)) JJ hv h
 cases e
 exact ⟨l,by have:=JHr (P:=Tryz.prog) (e:=70) JJ hv h hr;rwa [List.length_map] at this,hr⟩
theorem JTS {b0:Nat}{r:Reach}(hv:Value.okWide Tryz.prog W r b0 28 v)(h:DataW.Trod enc Tryz.prog W 0 (fun _=>true) true 28 v d ps) :
  ∃l:List Pg,l.length≤9223372036854775807∧Jk (fun b _=>b<W.heap.size) Yc (look []) W (.leaf (.d (Yt l))) v:=by
 obtain ⟨x,⟨l,e⟩,hr⟩:=JHd (e:=31) (JEd (k:=2) JJ JTi JJ (by decide)) JJ hv h
 cases e
 exact ⟨l,by have:=JHr (P:=Tryz.prog) (e:=31) JJ hv h hr;rwa [List.length_map] at this,hr⟩
theorem JPh {b0:Nat}{r:Reach}(hv:Value.okWide Tryz.prog W r b0 53 v)(h:DataW.Trod enc Tryz.prog W 0 (fun _=>true) true 53 v d ps) :
  ∃l:Bs,l.length≤9223372036854775807∧Jk (fun b _=>b<W.heap.size) Yc (look []) W (.leaf (.d (Y5 l))) v:=by
 obtain ⟨x,⟨l,e⟩,hr⟩:=JHd (e:=5) JTh JJ hv h
 cases e
 exact ⟨l,by have:=JHr (P:=Tryz.prog) (e:=5) JJ hv h hr;rwa [ZH] at this,hr⟩
theorem JVE {b0:Nat}{r:Reach}(hv:Value.okWide Tryz.prog W r b0 9 v)(h:DataW.Trod enc Tryz.prog W 0 (fun _=>true) true 9 v d ps) :
  ∃l:Bs,l.length≤9223372036854775807∧Jk (fun b _=>b<W.heap.size) Yc (look []) W (.str l) v:=by
 obtain ⟨s,rfl,_,_,hs⟩:=Go.ChangeMaps.open_string JJ hv h
 refine ⟨s.data.toList,?_,_,rfl,?_⟩
 ·have hmx:maxLen=9223372036854775807:=by decide
  have:s.data.toList.length=s.size:=rfl
  rw [this,←hmx];exact hs
 ·rw [JK8];exact .raw _ rfl
end
end Go.Mw

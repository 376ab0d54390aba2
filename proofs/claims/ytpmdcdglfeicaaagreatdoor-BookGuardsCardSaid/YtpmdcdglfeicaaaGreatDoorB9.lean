/- Contracts of the functions that the book reaches: bits that are punched. -/
import Derived.Test.YtpmdcdglfeicaaaGreatDoorD1
import Derived.Test.YtpmdcdglfeicaaaGreatDoorB4
import Derived.Test.YtpmdcdglfeicaaaGreatDoorB8
import Derived.Test.YtpmdcdglfeicaaaGreatDoorB6
import Derived.WalkKit
import Derived.Defers
import Derived.Recover
import Derived.Test.YtpmdcdglfeicaaaGreatDoorB5
import Derived.Test.YtpmdcdglfeicaaaGreatDoorRows
import Derived.LaidMore
import Derived.Lay
import Derived.ChangeMaps5
set_option maxRecDepth 20000
set_option maxHeartbeats 16000000
set_option linter.unusedSimpArgs false
set_option linter.unusedVariables false
set_option linter.unusedSectionVars false
set_option linter.deprecated false
namespace Go.Mw
open Go.Proofs
open Go.Bk
attribute [-go_sem] Q1
attribute [local go_sem] JCC JCL JCI JCK JCD JCJ JCH JCG JCF JCE
theorem JLY (o q:Nat)(l:List UInt8)(lr:AL)(x y z:D)(h:∀ns,AL.inn ns lr=true):(JDJ o q l lr x y z).all (fun p=>p.2.inn (Qh (JDJ o q l lr x y z)))=true:=by
 have h2:(Qh (JDJ o q l lr x y z)).contains q=true:=by simp [Qh,JDJ]
 generalize Qh (JDJ o q l lr x y z)=ns at h2
 show (((Qu q l).inn ns&&(true&&(lr.inn ns&&true)))&&true)=true
 rw [JPi q l ns h2,h ns];rfl
theorem JRQ (l:List UInt8)(c:UInt8)(hl:l.length≤1000000)(v:Int)(hv:v=c.toNat)(x y z:D) :
  Qr Tryz.prog 122 [.leaf (.ptr 910 0),.leaf (.d (.raw (.int .u8 v)))] [(910,.cells [Qu 901 l,.d (.raw (.int .i64 0)),.dead,.d x,.d y,.d z]),(901,.arr 5 1 (Jr l))]
   (.ret (.leaf (.d (.raw .nilIface))) [(910,.cells [Qu 901 (l++[c]),.d (.raw (.int .i64 0)),.dead,.d x,.d y,.d z]),(901,.arr 5 1 (Jr (l++[c])))]):=by subst hv;exact JQk l c hl x y z
theorem JIY (s:Bits)(b:Bool)(o:Int)(hs:s.length≤100000)(ho:0≤o∧o≤100000):Qr Tryz.prog 67 [.leaf (.ptr 910 0),.leaf (.d (.raw (.int .i64 (b.toNat:Nat))))] [(910,.cells [Qu 901 (pack s),.d (.raw (.int .i64 0)),.dead,.d (.raw (.int .u8 ((QG (Yc s):Nat):Int))),.d (.raw (.int .i64 ((s).length:Int))),.d (.raw (.int .i64 o))]),(901,.arr 5 1 (Jr (pack s)))] (.ret (.tup []) [(910,.cells [Qu 901 (pack (s++[b])),.d (.raw (.int .i64 0)),.dead,.d (.raw (.int .u8 ((QG (Yc (s++[b])):Nat):Int))),.d (.raw (.int .i64 (((s++[b])).length:Int))),.d (.raw (.int .i64 (o+(b.toNat:Nat))))]),(901,.arr 5 1 (Jr (pack (s++[b]))))]):=by
 have hv:=JWR s
 have hb1:b.toNat≤1:=by cases b<;>decide
 have hpl:=JF0 s
 have hsh:=JPe hv
 have hor:=JPb hv b
 have hby:((2*QG (Yc s)+b.toNat:Nat):Int)=((JCN (Yc s++[b])).toNat:Int):=by
  unfold JCN;rw [JDA,JC2 (by omega)]
 have htm:((s.length:Int)+1).tmod 8=(((s.length+1)%8:Nat):Int):=by rw [Int.tmod_eq_emod_of_nonneg (by omega)];omega
 have hlb:(s++[b]).length=s.length+1:=List.length_append
 have hz0:((QG []:Nat):Int)=0:=rfl
 refine Js Jc Tryz.func67 rfl (by simp only [List.length_cons,List.length_nil,Tryz.ntmps67];omega) JI rfl ?_
 refine JB.reg ?_
 have X:=(((Fx.mk hsh).a hor).a htm).a hlb
 iterate 7 (refine JA.o1 JAz ?_)
 refine JA.o1 V55 ?_
 iterate 4 (refine JA.o1 JAz ?_)
 refine JA.nil (JB.reg ?_)
 iterate 5 (refine JA.o1 JAz ?_)
 refine JA.o1 V55 ?_
 iterate 3 (refine JA.o1 JAz ?_)
 refine JA.nil (JB.reg ?_)
 iterate 4 (refine JA.o1 JAz ?_)
 refine JA.o1 V55 ?_
 iterate 3 (refine JA.o1 JAz ?_)
 refine JA.nil (JB.reg ?_)
 iterate 4 (refine JA.o1 JAz ?_)
 refine JA.o1 V55 ?_
 refine JA.o1 JAz ?_
 refine JA.nil ?_
 refine JB.cnd JAz (fun hb35=>?_) (fun hb35=>?_)
 ·skip
  have h8:(s.length+1)%8=0:=by have:=of_decide_eq_true hb35;omega
  obtain ⟨q1,q2⟩:=JVm b h8
  refine JB.opk 10 ?_
  have X:=((X.a q1).a q2).a hz0
  iterate 7 (refine JF.o1 JAz ?_)
  refine JF.lendG (ds:=[]) [(910,910),(901,901)] JD (JRQ (pack s) (JCN (Yc s++[b])) (by omega) _ hby (.raw (.int .u8 ((2*QG (Yc s)+b.toNat:Nat):Int))) (.raw (.int .i64 ((s.length:Int)+1))) (.raw (.int .i64 (o+(b.toNat:Nat))))) JV JD JD V28 rfl (by decide) (by first|rfl|exact JNj _ _ _ _ _ _|exact JLY _ _ _ _ _ _ _ (fun _=>rfl)) ZZ V41 rfl JD JD JD ?_
  refine JF.nil (Qs.fin QB QB ?_)
  refine JB.reg1 ?_
  iterate 4 (refine JA.o1 JAz ?_)
  refine JA.nil ?_
  exact Ends.fin0 [910,901] (rs:=[]) rfl JAz (by simp only [go_sem,X.h,reduceCtorEq,if_false]<;>first|rfl|((repeat' (first|with_reducible_and_instances rfl|refine Q8 ?_ ?_ ?_|refine Q7 ?_|refine YN ?_|refine Q9 ?_ ?_|refine Q2 ?_|refine Q3 ?_|refine YO ?_|refine Q6 ?_ ?_|refine YK ?_ ?_|refine YM ?_|refine YH ?_|(refine Q4 ?_;omega)));all_goals (first|omega|rfl)))
 ·skip
  have h8:(s.length+1)%8≠0:=by have:=of_decide_eq_false hb35;omega
  obtain ⟨q1,q2⟩:=JVn b h8
  have X:=(X.a q1).a q2
  exact Ends.fin0 [910,901] (rs:=[]) rfl (by simp only [go_sem,X.h,reduceCtorEq,if_false,JDA]<;>rfl) (by simp only [go_sem,X.h,reduceCtorEq,if_false,JDA]<;>first|rfl|((repeat' (first|with_reducible_and_instances rfl|refine Q8 ?_ ?_ ?_|refine Q7 ?_|refine YN ?_|refine Q9 ?_ ?_|refine Q2 ?_|refine Q3 ?_|refine YO ?_|refine Q6 ?_ ?_|refine YK ?_ ?_|refine YM ?_|refine YH ?_|(refine Q4 ?_;omega)));all_goals (first|omega|rfl)))
theorem JGz (s:Bits)(n many:Nat)(o:Int)(hs:s.length+many≤100000)(ho:0≤o∧o+many≤100000)(hm:many≤63)(hn:n<9223372036854775808):Qr Tryz.prog 65 [.leaf (.ptr 910 0),.int n,.int many] [(910,.cells [Qu 901 (pack s),.d (.raw (.int .i64 0)),.dead,.d (.raw (.int .u8 ((QG (Yc s):Nat):Int))),.d (.raw (.int .i64 ((s).length:Int))),.d (.raw (.int .i64 o))]),(901,.arr 5 1 (Jr (pack s)))] (.ret (.tup []) [(910,.cells [Qu 901 (pack (s++JW many n)),.d (.raw (.int .i64 0)),.dead,.d (.raw (.int .u8 ((QG (Yc (s++JW many n)):Nat):Int))),.d (.raw (.int .i64 (((s++JW many n)).length:Int))),.d (.raw (.int .i64 (o+(JS (JW many n):Nat))))]),(901,.arr 5 1 (Jr (pack (s++JW many n))))]):=by
 have ht0:=JV9 many n
 have hta:=JV6 many n
 refine Js Jc Tryz.func65 rfl (by simp only [List.length_cons,List.length_nil,Tryz.ntmps65];omega) JI rfl ?_
 refine JB.reg ?_
 refine JA.o ?_
 refine JA.o1 V72 ?_
 refine JA.o ?_
 refine JA.nil (JB.blk1 ?_)
 have X:=Fx.mk ht0
 refine JB.forA [0,1,6] [910,901] (many) (fun k=>[.slot 6 (.int ((many:Int)-1-k)),.obj 910 (.cells [Qu 901 (pack (s++JAL k many n)),.d (.raw (.int .i64 0)),.dead,.d (.raw (.int .u8 ((QG (Yc (s++JAL k many n)):Nat):Int))),.d (.raw (.int .i64 (((s++JAL k many n)).length:Int))),.d (.raw (.int .i64 (o+(JS (JAL k many n):Nat))))]),.obj 901 (.arr 5 1 (Jr (pack (s++JAL k many n))))]) (fun _=>True) (fun k=>by simp only [go_sem]<;>rfl) (by simp only [go_sem,X.h,Int.natCast_zero,List.append_nil,Int.sub_zero,JFw,Int.add_zero]<;>rfl) ?_ (fun k hk hX=>?_)
 ·trivial
 ·skip
  refine JB.assocS (JB.reg ?_)
  iterate 2 (refine JA.o ?_)
  refine JA.nil ?_
  refine JB.cndS JD (fun hb10=>?_) (fun hb10=>?_)
  ·skip
   have hk:k<many:=by have:=of_decide_eq_true hb10;omega
   have hsh:=JPf .i64 rfl n ((many:Int)-1-k) (i:=many-1-k) (by omega) (by omega)
   have hlt:n / 2^(many-1-k)<9223372036854775808:=Nat.lt_of_le_of_lt (Nat.div_le_self _ _) hn
   have han:=JPa hlt
   have hbt:=JH2 (n / 2^(many-1-k))
   have hst:=JV8 (n:=n) hk
   have hol:=JAT (JAL k many n)
   have htl:=JV7 k many n
   have hsl:(s++JAL k many n).length=s.length+k:=by rw [List.length_append,htl]
   refine JB.skipS (JB.blk (JB.reg1 ?_))
   have X:=(Fx.mk hsh).a han
   iterate 5 (refine JA.o1 JC ?_)
   refine JA.lendG [(910,910),(901,901)] JD (JIY (s++JAL k many n) (n / 2^(many-1-k)%2==1) (o+(JS (JAL k many n):Nat)) (by rw [hsl];omega) (by omega)) JV (.inl ⟨[],by simp only [go_sem]<;>rfl,rfl⟩) JD V9 rfl (by decide) JBd ZZ V30 Zv JD ?_
   refine JA.nil (JY.nrm (JB.reg1 ?_))
   refine JA.o1 JC ?_
   refine JA.o1 J4 ?_
   refine JA.o1 JC ?_
   refine JA.nil ?_
   refine Jb.nxt ?_ ?_ ?_
   ·omega
   ·exact JO.kp [0,1,6] [910,901] (by simp only [go_sem,X.h]<;>first|((repeat' (first|with_reducible_and_instances rfl|refine Q8 ?_ ?_ ?_|refine Q7 ?_|refine YN ?_|refine Q9 ?_ ?_|refine Q2 ?_|refine Q3 ?_|refine YO ?_|refine Q6 ?_ ?_|refine YK ?_ ?_|refine YM ?_|refine YH ?_|(refine Q4 ?_;omega)));all_goals (first|omega|(rw [hst];simp [Y3,JBw,Int.add_assoc];done)))|rfl)
   ·trivial
  ·skip
   have hke:k=many:=by have:=of_decide_eq_false hb10;omega
   subst hke
   refine JB.exitS (Jb.ext (Yi.hit ?_))
   have X:=Fx.mk hta
   exact Ends.fin0 [910,901] (rs:=[]) rfl JC YV
end Go.Mw
namespace Go.Mw
open Go.Proofs
open Go.Bk
attribute [-go_sem] Q1
attribute [local go_sem] JCC JCL JCI JCK JCD JCJ JCH JCG JCF JCE
theorem JQT (n:Nat)(h1:1≤n)(h2:n<9223372036854775808):Ja Tryz.prog 156 [.leaf (.d (.raw (.int .u64 n)))] (.int (bl n:Nat)) []:=
 by
  have:=JQS (n:Int) (by omega) (by omega)
  rwa [Int.toNat_natCast,JPv h1 (by omega)] at this
theorem JQr (s:Bits)(n:Nat)(o:Int)(hs:s.length≤90000)(ho:0≤o∧o≤90000)(h1:1≤n)(hn:n≤65535):Qr Tryz.prog 121 [.leaf (.ptr 910 0),.int n] [(910,.cells [Qu 901 (pack s),.d (.raw (.int .i64 0)),.dead,.d (.raw (.int .u8 ((QG (Yc s):Nat):Int))),.d (.raw (.int .i64 ((s).length:Int))),.d (.raw (.int .i64 o))]),(901,.arr 5 1 (Jr (pack s)))] (.ret (.tup []) [(910,.cells [Qu 901 (pack (s++Qb n)),.d (.raw (.int .i64 0)),.dead,.d (.raw (.int .u8 ((QG (Yc (s++Qb n)):Nat):Int))),.d (.raw (.int .i64 (((s++Qb n)).length:Int))),.d (.raw (.int .i64 (o+(JS (Qb n):Nat))))]),(901,.arr 5 1 (Jr (pack (s++Qb n))))]):=by
 have hb1:=(JA5 n).1
 have hb2:=JAi (n:=n) (k:=16) (by omega) (by omega)
 have hg:Qb n=JW (2*bl n-1) n:=rfl
 refine Js Jc Tryz.func121 rfl (by simp only [List.length_cons,List.length_nil,Tryz.ntmps121];omega) JI rfl ?_
 refine JB.reg1 ?_
 have X:=Fx.mk hg
 iterate 3 (refine JA.o1 JC ?_)
 refine JA.o1 J4 ?_
 refine JA.c1 (JQT n h1 (by omega)) JC JC ?_
 iterate 2 (refine JA.o1 J4 ?_)
 refine JA.lendG [(910,910),(901,901)] JD (JGz s n (2*bl n-1) o (by omega) (by omega) (by omega) (by omega)) JV (.inl ⟨[],by simp only [go_sem]<;>rfl,rfl⟩) JD V6 rfl (by decide) JBd ZZ V30 Zv JD ?_
 refine JA.nil ?_
 exact Ends.fin0 [910,901] (rs:=[]) rfl JC YV
theorem JMp (n:Nat):(Qb n).length=2*bl n-1:=Qk _ _
attribute [local irreducible] JW Qb JS pack Yc QG Qc QJ YS Qu Jr
theorem JRF (s:Bits)(x:Pl)(last o:Int)(hs:s.length≤80000)(hl:0≤last∧last≤65535)(hf:fits x last):Qr Tryz.prog 66 [.leaf (.ptr 910 0),plV x,.int last] [(910,.cells [Qu 901 (pack s),.d (.raw (.int .i64 0)),.dead,.d (.raw (.int .u8 ((QG (Yc s):Nat):Int))),.d (.raw (.int .i64 ((s).length:Int))),.d (.raw (.int .i64 o))]),(901,.arr 5 1 (Jr (pack s)))] (.ret (.tup []) [(910,.cells [Qu 901 (pack (s++Qc x last)),.d (.raw (.int .i64 0)),.dead,.d (.raw (.int .u8 ((QG (Yc (s++Qc x last)):Nat):Int))),.d (.raw (.int .i64 (((s++Qc x last)).length:Int))),.d (.raw (.int .i64 ((JS (Qc x last):Nat):Int)))]),(901,.arr 5 1 (Jr (pack (s++Qc x last))))]):=by
 obtain ⟨⟨f1,f2⟩,⟨f3,f4⟩,f5,f6⟩:=hf
 have hb1:=(JA5 (x.num-last).toNat).1
 have hb2:=JAi (n:=(x.num-last).toNat) (k:=16) (by omega) (by omega)
 have hgl:(Qb (x.num-last).toNat).length=2*bl (x.num-last).toNat-1:=JMp _
 have h3l:=Qk 3 x.cls.toNat
 have h18l:=Qk 18 x.day.toNat
 have g1:=JAT (Qb (x.num-last).toNat)
 have g2:=JAT (JW 3 x.cls.toNat)
 have g3:=JAT (JW 18 x.day.toNat)
 have l1:(s++(Qb (x.num-last).toNat)).length=s.length+(Qb (x.num-last).toNat).length:=List.length_append
 have l2:((s++(Qb (x.num-last).toNat))++(JW 3 x.cls.toNat)).length=(s++(Qb (x.num-last).toNat)).length+3:=by rw [List.length_append,h3l]
 have l3:(((s++(Qb (x.num-last).toNat))++(JW 3 x.cls.toNat))++(JW 18 x.day.toNat)).length=((s++(Qb (x.num-last).toNat))++(JW 3 x.cls.toNat)).length+18:=by rw [List.length_append,h18l]
 have hob:JS (QJ x last)=JS (Qb (x.num-last).toNat)+JS (JW 3 x.cls.toNat)+JS (JW 18 x.day.toNat):=by unfold QJ;rw [Y3,Y3];omega
 have htm:(0+(JS (Qb (x.num-last).toNat):Nat)+(JS (JW 3 x.cls.toNat):Nat)+(JS (JW 18 x.day.toNat):Nat):Int).tmod 2=(((YS (QJ x last)).toNat:Nat):Int):=by
  unfold YS;rw [JH2,hob,Int.tmod_eq_emod_of_nonneg (by omega)];omega
 have hss:s++Qc x last=(((s++(Qb (x.num-last).toNat))++(JW 3 x.cls.toNat))++(JW 18 x.day.toNat))++[YS (QJ x last)]:=by unfold Qc QJ;simp only [List.append_assoc]
 have hop:JS (Qc x last)=JS (QJ x last)+(YS (QJ x last)).toNat:=by unfold Qc;rw [Y3,JBw]
 have hpl:(Qc x last).length=(Qb (x.num-last).toNat).length+3+18+1:=by unfold Qc QJ;simp only [List.length_append,List.length_singleton,h3l,h18l];try omega
 have l4:((((s++(Qb (x.num-last).toNat))++(JW 3 x.cls.toNat))++(JW 18 x.day.toNat))++[YS (QJ x last)]).length=(((s++(Qb (x.num-last).toNat))++(JW 3 x.cls.toNat))++(JW 18 x.day.toNat)).length+1:=List.length_append
 refine Js Jc Tryz.func66 rfl (by simp only [List.length_cons,List.length_nil,Tryz.ntmps66];omega) JI rfl ?_
 refine JB.reg ?_
 have X:=((Fx.mk htm).a hss).a hop
 refine JA.o1 JC ?_
 refine JA.nil (JB.reg ?_)
 iterate 4 (refine JA.o1 JC ?_)
 refine JA.nil (JB.reg ?_)
 iterate 4 (refine JA.o1 JC ?_)
 refine JA.o1 J4 ?_
 refine JA.lendG [(910,910),(901,901)] JD (JQr s (x.num-last).toNat 0 (by omega) (by omega) (by omega) (by omega)) JV (.inl ⟨[],by simp only [go_sem]<;>rfl,rfl⟩) JD V9 rfl (by decide) JBd ZZ V30 Zv JD ?_
 refine JA.nil (JB.reg ?_)
 iterate 3 (refine JA.o1 JC ?_)
 refine JA.lendG [(910,910),(901,901)] JD (JGz (s++(Qb (x.num-last).toNat)) x.cls.toNat 3 (0+(JS (Qb (x.num-last).toNat):Nat):Int) (by omega) (by omega) (by omega) (by omega)) JV (.inl ⟨[],by simp only [go_sem]<;>rfl,rfl⟩) JD V6 rfl (by decide) JBd ZZ V30 Zv JD ?_
 refine JA.nil (JB.reg ?_)
 iterate 3 (refine JA.o1 JC ?_)
 refine JA.lendG [(910,910),(901,901)] JD (JGz ((s++(Qb (x.num-last).toNat))++(JW 3 x.cls.toNat)) x.day.toNat 18 (0+(JS (Qb (x.num-last).toNat):Nat)+(JS (JW 3 x.cls.toNat):Nat):Int) (by omega) (by omega) (by omega) (by omega)) JV (.inl ⟨[],by simp only [go_sem]<;>rfl,rfl⟩) JD V6 rfl (by decide) JBd ZZ V30 Zv JD ?_
 refine JA.nil (JB.reg1 ?_)
 iterate 5 (refine JA.o1 JC ?_)
 refine JA.o1 J4 ?_
 refine JA.lendG [(910,910),(901,901)] JD (JIY (((s++(Qb (x.num-last).toNat))++(JW 3 x.cls.toNat))++(JW 18 x.day.toNat)) (YS (QJ x last)) (0+(JS (Qb (x.num-last).toNat):Nat)+(JS (JW 3 x.cls.toNat):Nat)+(JS (JW 18 x.day.toNat):Nat):Int) (by omega) (by omega)) JV (.inl ⟨[],by simp only [go_sem]<;>rfl,rfl⟩) JD V9 rfl (by decide) JBd ZZ V30 Zv JD ?_
 refine JA.nil ?_
 exact Ends.fin0 [910,901] (rs:=[]) rfl JC (by simp only [go_sem,X.h]<;>first|rfl|((repeat' (first|with_reducible_and_instances rfl|refine Q8 ?_ ?_ ?_|refine Q7 ?_|refine YN ?_|refine Q9 ?_ ?_|refine Q2 ?_|refine Q3 ?_|refine YO ?_|refine Q6 ?_ ?_|refine YK ?_ ?_|refine YM ?_|refine YH ?_|(refine Q4 ?_;omega)));all_goals (first|omega|((repeat' (first|with_reducible_and_instances rfl|refine Q8 ?_ ?_ ?_|refine congrArg (Jg.ret _) ?_|refine Q7 ?_|refine Q9 ?_ ?_|refine congrArg (List.cons _) ?_|refine congrArg₂ List.cons ?_ ?_|refine congrArg (Prod.mk _) ?_|refine Q2 ?_|refine Q3 ?_|refine Q6 ?_ ?_|refine Q4 ?_));all_goals (first|omega|(trace_state;skip))))))
end Go.Mw
namespace Go.Mw
open Go.Proofs
open Go.Bk
attribute [-go_sem] Q1
attribute [local go_sem] JCC JCL JCI JCK JCD JCJ JCH JCG JCF JCE
theorem JQD (l:Bs)(hl:l≠[])(x y z:D):Qr Tryz.prog 69 [.leaf (.ptr 910 0)] [(910,.cells [Qu 901 l,.d (.raw (.int .i64 0)),.dead,.d x,.d y,.d z]),(901,.arr 5 1 (Jr l))] (.ret (.leaf (.own 901 0 l.length l.length)) [(910,.cells [Qu 901 l,.d (.raw (.int .i64 0)),.dead,.d x,.d y,.d z]),(901,.arr 5 1 (Jr l))]):=by
 rw [JIS hl]
 have hbl:=Y2 l
 refine Js Jc Tryz.func69 rfl (by simp only [List.length_cons,List.length_nil,Tryz.ntmps69];omega) JI rfl ?_
 refine JB.reg ?_
 have X:=Fx.mk hbl
 refine JA.o1 JC ?_
 refine JA.nil ?_
 refine JB.opk 12 ?_
 iterate 8 (refine JF.o1 JC ?_)
 refine JF.o1 YE ?_
 refine JF.o1 JC ?_
 refine JF.nil (Qs.fin QB QB ?_)
 exact Ends.fin [910,901] (rs:=[.tmp 2]) rfl JC YV
theorem JQE (l:Bs)(hl:l≠[])(hn:l.length≤1000000):Qr Tryz.prog 68 [.leaf (.own 901 0 l.length l.length)] [(901,.arr 5 1 (Jr l))] (.ret (.leaf (.own 5 0 l.length l.length)) [(5,.arr 5 1 (Jr l)),(901,.arr 5 1 (Jr l))]):=by
 have hbl:=Y2 l
 have hp:0<l.length:=List.length_pos_iff.2 hl
 have htk:(Jr l).take l.length=Jr l:=List.take_of_length_le (by omega)
 refine Js Jc Tryz.func68 rfl (by simp only [List.length_cons,List.length_nil,Tryz.ntmps68];omega) JI rfl ?_
 refine JB.reg ?_
 have X:=(Fx.mk hbl).a htk
 refine JA.o1 JC ?_
 refine JA.nil (JB.assocS (JB.reg ?_))
 refine JA.o1 JC ?_
 refine JA.val (JU4 Tryz.underlying53 JD JD hbl hp) rfl JD ?_ 
 refine JA.nil ?_
 refine JB.cndS JC (fun hb4=>?_) (fun hb4=>?_)
 ·exact absurd hb4 (by simp)
 ·skip
  refine JB.skipS (JB.reg ?_)
  iterate 2 (refine JA.o1 JC ?_)
  refine JA.o1 V8 ?_
  refine JA.o1 JC ?_
  refine JA.nil ?_
  exact Ends.fin [5,901] (rs:=[.tmp 2]) rfl JC YV
abbrev JQA (l:Bs)(e:Int):AV:=.tup [(false,[.d (JAj l)]),(false,[.d (.i e)])]
theorem JRA (n:Nat)(hn:n≤1000):Qr Tryz.prog 65 [.leaf (.ptr 910 0),.int n,.int 8] [(910,.cells [.d (.raw (.slice none 0 0)),.d (.raw (.int .i64 0)),.dead,.d (.raw (.int .u8 0)),.d (.raw (.int .i64 0)),.d (.raw (.int .i64 0))]),(901,.arr 5 1 [])] (.ret (.tup []) [(910,.cells [Qu 901 (pack (JW 8 n)),.d (.raw (.int .i64 0)),.dead,.d (.raw (.int .u8 ((QG (Yc (JW 8 n)):Nat):Int))),.d (.raw (.int .i64 (((JW 8 n)).length:Int))),.d (.raw (.int .i64 ((JS (JW 8 n):Nat):Int)))]),(901,.arr 5 1 (Jr (pack (JW 8 n))))]):=by
 have:=JGz [] n 8 0 (by simp) (by omega) (by omega) (by omega)
 rw [Int.zero_add] at this
 exact this
theorem JNY (l:List Pl):pack (Yn (QX l))≠[]:=fun h=>by
 have h1:=JF0 (Yn (QX l))
 rw [h] at h1
 obtain ⟨k,hk⟩:=JNZ (QX l)
 have h2:(QX l).length≤(Yn (QX l)).length:=by unfold Yn;rw [List.length_append];omega
 have h3:8≤(QX l).length:=by unfold QX;rw [List.length_append,Qk];omega
 simp only [List.length_nil] at h1
 omega
attribute [local irreducible] JW Qb pack Yc QG Qc QJ YS Jr
theorem JLj (l:List Pl)(hl:l.length≤1000):Ja Tryz.prog 25 [.leaf (.d (JAK l))] (JQA (YA l) (Yo l)) []:=by
 have hn1:=JAT (JW 8 l.length)
 rw [Qk] at hn1
 have hn8:=Qk 8 l.length
 refine Js Jc Tryz.func25 rfl (by simp only [List.length_cons,List.length_nil,Tryz.ntmps25];omega) JI rfl ?_
 refine JB.reg ?_
 iterate 2 (refine JA.o ?_)
 refine JA.nil (JB.assocS (JB.reg ?_))
 refine JA.o ?_
 refine JA.c1 (JG0 l hl) JD JD ?_
 refine JA.o ?_
 refine JA.nil (JB.assocS (JB.reg ?_))
 iterate 2 (refine JA.o ?_)
 refine JA.nil ?_
 refine JB.cndS JD (fun hb12=>?_) (fun hb12=>?_)
 ·skip
  have hne:Yo l≠0:=by simpa using hb12
  have hr:YA l=[]:=if_neg hne
  refine JB.assocS (JB.reg ?_)
  have X:=Fx.mk hr
  iterate 3 (refine JA.o1 (by simp only [go_sem,X.h,JEE]<;>rfl) ?_)
  refine JA.nild 2 1 JD JD ?_
  refine JA.nil (JB.retS ?_)
  exact Ends.fin [] (rs:=[.tmp 2,.tmp 3]) rfl (by simp only [go_sem,X.h,JEE]<;>rfl) (by simp only [go_sem,X.h,JEE]<;>first|rfl|((repeat' (first|with_reducible_and_instances rfl|refine Q8 ?_ ?_ ?_|refine Q7 ?_|refine YN ?_|refine Q9 ?_ ?_|refine Q2 ?_|refine Q3 ?_|refine YO ?_|refine Q6 ?_ ?_|refine YK ?_ ?_|refine YM ?_|refine YH ?_|(refine Q4 ?_;omega)));all_goals exact JEE))
 ·skip
  have he0:Yo l=0:=by simpa using hb12
  have hr:YA l=pack (Yn (QX l)):=if_pos he0
  obtain ⟨hch,hl60⟩:=JCO he0
  have hx65:∀x∈l,x.num≤65535:=fun x hx=>by
   have h:=List.all_eq_true.1 (JCR he0).2.1 x hx
   unfold JAV at h
   simp only [Bool.and_eq_true,ZD] at h
   omega
  have hca0:=JG5 l 0 hch ⟨by omega,by omega⟩ hx65
  refine JB.skipS (JB.reg ?_)
  have X:=(Fx.mk hr).a he0
  refine JA.o1 JC ?_
  refine JA.nil (JB.reg ?_)
  refine JA.deadc 5 2 JD JD ?_
  refine JA.arr0 5901 5 1 JD (by omega) (by omega) JD ?_
  iterate 2 (refine JA.o1 JC ?_)
  refine JA.lendG [(910,5),(901,5901)] JD (JRA l.length hl) JV (.inl ⟨[],by simp only [go_sem]<;>rfl,rfl⟩) JD V6 rfl (by decide) JBd ZZ V30 Zv JD ?_
  refine JA.nil (JB.reg ?_)
  refine JA.o1 JC ?_
  refine JA.nil (JB.assocS (JB.reg ?_))
  iterate 3 (refine JA.o1 JC ?_)
  refine JA.nil (JB.blk ?_)
  refine JB.forA [5,6,17,18,19] [5,5901] (l.length) (fun k=>[.slot 6 (.int (J1 0 (l.take k))),.slot 19 (.int k),.obj 5 (.cells [Qu 5901 (pack (JW 8 l.length++J8 0 (l.take k))),.d (.raw (.int .i64 0)),.dead,.d (.raw (.int .u8 ((QG (Yc (JW 8 l.length++J8 0 (l.take k))):Nat):Int))),.d (.raw (.int .i64 (((JW 8 l.length++J8 0 (l.take k))).length:Int))),.d (.raw (.int .i64 (JAt 0 ((JS (JW 8 l.length):Nat):Int) (l.take k))))]),.obj 5901 (.arr 5 1 (Jr (pack (JW 8 l.length++J8 0 (l.take k)))))]) (fun _=>True) (fun k=>by simp only [go_sem]<;>rfl) (by simp only [go_sem,X.h,Int.natCast_zero,List.take_zero,J8,J1,JAt,List.append_nil]<;>rfl) ?_ (fun k hk hX=>?_)
  ·trivial
  ·skip
   refine JB.reg ?_
   refine JA.o1 JC ?_
   refine JA.nil ?_
   refine JB.cndS JC (fun hb20=>?_) (fun hb20=>?_)
   ·skip
    have hlt:=ZU hb20
    obtain ⟨x,hx⟩:=ZQ hb20
    have hca:=hca0 k
    have htk:=Zs hx
    have hg:JW 8 l.length++J8 0 (l.take (k+1))=JW 8 l.length++J8 0 (l.take k)++Qc x (J1 0 (l.take k)):=by rw [htk,JFk,List.append_assoc]
    have hp:J1 0 (l.take (k+1))=x.num:=by rw [htk,JJI]
    have ho:JAt 0 ((JS (JW 8 l.length):Nat):Int) (l.take (k+1))=((JS (Qc x (J1 0 (l.take k))):Nat):Int):=by rw [htk,JM0]
    have hgl:(J8 0 (l.take (k+1))).length=(J8 0 (l.take k)).length+(Qc x (J1 0 (l.take k))).length:=by rw [htk,JFk,List.length_append]
    refine JB.skipS (JB.blk (JB.reg ?_))
    have X:=(((X.a hx).a hg).a hp).a ho
    refine JA.o1 YE ?_
    iterate 3 (refine JA.o1 JC ?_)
    refine JA.nil (JB.reg ?_)
    iterate 2 (refine JA.o1 JC ?_)
    refine JA.lendG [(910,5),(901,5901)] JD (JRF (JW 8 l.length++J8 0 (l.take k)) x (J1 0 (l.take k)) (JAt 0 ((JS (JW 8 l.length):Nat):Int) (l.take k)) (by rw [List.length_append];omega) hca.2.1 (hca.2.2.2 x hx)) JV (.inl ⟨[],by simp only [go_sem]<;>rfl,rfl⟩) JD V6 rfl (by decide) JBd ZZ V30 Zv JD ?_
    refine JA.nil (JB.reg1 ?_)
    iterate 3 (refine JA.o1 JC ?_)
    refine JA.nil (JY.nrm (JB.reg1 ?_))
    refine JA.o1 J4 ?_
    refine JA.o1 JC ?_
    refine JA.nil ?_
    refine Jb.nxt ?_ ?_ ?_
    ·omega
    ·exact JO.kp [5,6,17,18,19] [5,5901] (by simp only [go_sem,X.h]<;>first|((repeat' (first|with_reducible_and_instances rfl|refine Q8 ?_ ?_ ?_|refine Q7 ?_|refine YN ?_|refine Q9 ?_ ?_|refine Q2 ?_|refine Q3 ?_|refine YO ?_|refine Q6 ?_ ?_|refine YK ?_ ?_|refine YM ?_|refine YH ?_|(refine Q4 ?_;omega)));all_goals (first|omega|((repeat' (first|with_reducible_and_instances rfl|refine Q8 ?_ ?_ ?_|refine congrArg (Jg.ret _) ?_|refine Q7 ?_|refine Q9 ?_ ?_|refine congrArg (List.cons _) ?_|refine congrArg₂ List.cons ?_ ?_|refine congrArg (Prod.mk _) ?_|refine Q2 ?_|refine Q3 ?_|refine Q6 ?_ ?_|refine Q4 ?_));all_goals omega)))|rfl)
    ·trivial
   ·skip
    have hke:=ZS hb20
    have htk:l.take k=l:=List.take_of_length_le hke
    have hca:=hca0 k
    rw [htk] at hca
    have hol:=hca.2.2.1 ((JS (JW 8 l.length):Nat):Int) (by omega)
    have hbb:JW 8 l.length++J8 0 l=QX l:=rfl
    have hbl:(QX l).length=8+(J8 0 l).length:=by rw [←hbb,List.length_append,hn8]
    have hpl:(Yn (QX l)).length=(QX l).length+((8-(QX l).length%8)%8):=by unfold Yn;rw [List.length_append,List.length_replicate]
    have hg0:=hca.1
    have hkl:k≤60:=by omega
    have hbl2:(JW 8 l.length).length+(J8 0 l).length=(QX l).length:=by rw [←hbb,List.length_append]
    refine JB.exitS (Jb.ext (JY.hit (JB.blk ?_)))
    have X:=((X.a htk).a hbb).a hbl2
    refine JB.forA [5] [5,5901] (((8-(QX l).length%8)%8)) (fun j=>[.obj 5 (.cells [Qu 5901 (pack (QX l++List.replicate j false)),.d (.raw (.int .i64 0)),.dead,.d (.raw (.int .u8 ((QG (Yc (QX l++List.replicate j false)):Nat):Int))),.d (.raw (.int .i64 (((QX l++List.replicate j false)).length:Int))),.d (.raw (.int .i64 (JAt 0 ((JS (JW 8 l.length):Nat):Int) l)))]),.obj 5901 (.arr 5 1 (Jr (pack (QX l++List.replicate j false))))]) (fun _=>True) (fun j=>by simp only [go_sem]<;>rfl) (by simp only [go_sem,X.h,List.replicate_zero,List.append_nil,List.length_nil,Nat.add_zero]<;>rfl) ?_ (fun j hj Xj=>?_)
    ·trivial
    ·skip
     skip
     have htm1:(((QX l++List.replicate j false).length:Nat):Int).tmod 8=((((QX l).length+j)%8:Nat):Int):=by rw [Int.tmod_eq_emod_of_nonneg (by omega)];simp
     have htm2:(((QX l).length+(List.replicate j false).length:Nat):Int).tmod 8=((((QX l).length+j)%8:Nat):Int):=by rw [Int.tmod_eq_emod_of_nonneg (by omega)];simp
     have htm3:(((QX l).length+j:Nat):Int).tmod 8=((((QX l).length+j)%8:Nat):Int):=by rw [Int.tmod_eq_emod_of_nonneg (by omega)];simp
     refine JB.assocS (JB.reg ?_)
     have X:=((X.a htm1).a htm2).a htm3
     iterate 2 (refine JA.o1 JC ?_)
     refine JA.o1 J4 ?_
     refine JA.o1 JC ?_
     refine JA.nil ?_
     refine JB.cndS JC (fun hb32=>?_) (fun hb32=>?_)
     ·skip
      have hj:j<((8-(QX l).length%8)%8):=by have:=hb32;simp at this;omega
      have hst:QX l++List.replicate (j+1) false=QX l++List.replicate j false++[false]:=by rw [List.replicate_succ',List.append_assoc]
      refine JB.skipS (JB.blk1 (JB.reg1 ?_))
      refine JA.lendG [(910,5),(901,5901)] JD (JIY (QX l++List.replicate j false) false (JAt 0 ((JS (JW 8 l.length):Nat):Int) l) (by rw [List.length_append,List.length_replicate];omega) (by omega)) JV (.inl ⟨[],by simp only [go_sem]<;>rfl,rfl⟩) JD V9 rfl (by decide) JBd ZZ V30 Zv JD ?_
      refine JA.nil (Yi.nrm ?_)
      refine Jb.nxt ?_ ?_ ?_
      ·omega
      ·exact JO.kp [5] [5,5901] (by simp only [go_sem,hr,he0,htk,hbb,hbl2,htm1,htm2,htm3,hst,Bool.toNat_false,Int.natCast_zero,Int.add_zero]<;>first|((repeat' (first|with_reducible_and_instances rfl|refine Q8 ?_ ?_ ?_|refine Q7 ?_|refine YN ?_|refine Q9 ?_ ?_|refine Q2 ?_|refine Q3 ?_|refine YO ?_|refine Q6 ?_ ?_|refine YK ?_ ?_|refine YM ?_|refine YH ?_|(refine Q4 ?_;omega)));all_goals (first|omega|((repeat' (first|with_reducible_and_instances rfl|refine Q8 ?_ ?_ ?_|refine congrArg (Jg.ret _) ?_|refine Q7 ?_|refine Q9 ?_ ?_|refine congrArg (List.cons _) ?_|refine congrArg₂ List.cons ?_ ?_|refine congrArg (Prod.mk _) ?_|refine Q2 ?_|refine Q3 ?_|refine Q6 ?_ ?_|refine Q4 ?_));all_goals omega)))|rfl)
      ·trivial
     ·skip
      have hj:j=((8-(QX l).length%8)%8):=by have:=hb32;simp at this;omega
      have hje:QX l++List.replicate j false=Yn (QX l):=by rw [hj];rfl
      have hlj:(QX l).length+j=(Yn (QX l)).length:=by rw [hpl,hj]
      have hb0:=Y2 (pack (Yn (QX l)))
      have htk0:(Jr (pack (Yn (QX l)))).take (pack (Yn (QX l))).length=Jr (pack (Yn (QX l))):=List.take_of_length_le (by omega)
      refine JB.exitS (Jb.ext (JY.hit (JB.reg ?_)))
      have X:=(X.a hje).a hlj
      refine JA.o1 JC ?_
      have X:=(Fx.mk hje).a hlj
      refine JA.lendG [(910,5),(901,5901)] JD (JQD (pack (Yn (QX l))) (JNY l) (.raw (.int .u8 ((QG (Yc (Yn (QX l))):Nat):Int))) (.raw (.int .i64 (((Yn (QX l))).length:Int))) (.raw (.int .i64 (JAt 0 ((JS (JW 8 l.length):Nat):Int) l)))) JV (.inl ⟨[],by simp only [go_sem]<;>rfl,rfl⟩) JC Y7 rfl (by decide) JBd (by intro p hp n hn;simp only [List.mem_cons,List.not_mem_nil,or_false] at hp;rcases hp with rfl|rfl<;>(simp [look] at hn;subst hn;simp only [go_sem,X.h]<;>rfl)) V30 Zv JC ?_
      refine JA.lendG [(901,5901)] JD (JQE (pack (Yn (QX l))) (JNY l) (by rw [JF0];omega)) JV (.inl ⟨[],by simp only [go_sem]<;>rfl,rfl⟩) JD Y7 rfl (by decide) YT Za YW (by intro p hp hn;simp only [List.mem_cons,List.not_mem_nil,or_false] at hp;rcases hp with rfl|rfl<;>first|(simp [look] at hn;done)|(simp only [go_sem]<;>rfl)) JD ?_
      have X:=(Fx.mk hb0).a htk0
      refine JA.frz 37005 JC ?_
      have X:=(((((((((Fx.mk hr).a he0).a htk).a hbb).a hbl2).a htm1).a htm2).a htm3).a hje).a hlj
      iterate 2 (refine JA.o1 JC ?_)
      refine JA.nil ?_
      exact Ends.fin [] (rs:=[.tmp 2,.tmp 3]) rfl JC YV
end Go.Mw
namespace Go.Mw
open Go.Proofs
open Go.Bk
attribute [-go_sem] Q1
attribute [local go_sem] JCC JCL JCI JCK JCD JCJ JCH JCG JCF JCE
theorem JFG {α:Type}{l:List α}{k:Nat}{x:α}(h:l[k]? = some x):l.drop k=x::l.drop (k+1):=by
 obtain ⟨hk,rfl⟩:=List.getElem?_eq_some_iff.1 h
 exact List.drop_eq_getElem_cons hk
def Qi (s:Bits):List Int:=s.map fun b=>(b.toNat:Int)
theorem JCq (s:Bits):(Qi s).length=s.length:=by unfold Qi;simp
def JA4 (s:Bits):List (List AV):=s.map fun b=>[.int (b.toNat:Nat)]
theorem JEC (s:Bits):(JA4 s).length=s.length:=by unfold JA4;simp
theorem JPt {s:Bits}{k:Nat}{b:Bool}(h:s[k]? = some b):(JA4 s).drop k=[.int (b.toNat:Nat)]::(JA4 s).drop (k+1):=by
 refine JFG ?_
 unfold JA4
 rw [List.getElem?_map,h];rfl
theorem JPu {s:Bits}{k:Nat}{v:List AV}(h:(JA4 s)[k]? = some v):∃b,s[k]? = some b∧v=[.int (b.toNat:Nat)]:=by
 unfold JA4 at h
 rw [List.getElem?_map] at h
 cases hn:s[k]? with
 |none=>simp [hn] at h
 |some n=>exact ⟨n,rfl,by simpa [hn] using h.symm⟩
theorem JNL:∀(k n j:Nat),j<k→(JW k n)[j]? = some (n / 2^(k-1-j)%2==1)
 |0,_,_,h=>by omega
 |k+1,n,j,h=>by
  rw [JW]
  by_cases hj:j<k
  ·rw [List.getElem?_append_left (by rw [Qk];exact hj),JNL k (n / 2) j hj,Nat.div_div_eq_div_mul,Nat.mul_comm,←Nat.pow_succ,show (k-1-j).succ=k+1-1-j by omega]
  ·have e:j=k:=by omega
   subst e
   rw [List.getElem?_append_right (by rw [Qk];exact Nat.le_refl _),Qk]
   simp
theorem JPG:∀(b:Bs) (k j:Nat) (c:UInt8),b[k]? = some c→j<8→(QY b)[8*k+j]? = some (c.toNat / 2^(7-j)%2==1)
 |[],_,_,_,h,_=>by simp at h
 |d::b,0,j,c,h,hj=>by
  simp at h;subst h
  show (JW 8 d.toNat++QY b)[8*0+j]? = _
  rw [List.getElem?_append_left (by rw [Qk];omega),Nat.mul_zero,Nat.zero_add,JNL 8 _ j hj]
 |d::b,k+1,j,c,h,hj=>by
  show (JW 8 d.toNat++QY b)[8*(k+1)+j]? = _
  rw [List.getElem?_append_right (by rw [Qk];omega),Qk,show 8*(k+1)+j-8=8*k+j by omega]
  exact JPG b k j c JAM hj
theorem JP4 {b:Bs}{k:Nat}{c:UInt8}(h:b[k]? = some c):(Jr b)[k]? = some [.raw (.int .u8 c.toNat)]:=by
 unfold Jr
 rw [List.getElem?_map,h];rfl
theorem JPY {x:Nat}(h:x<256):Q1 .and .u8 (x:Int) 1=some (.int .u8 ((x%2:Nat):Int)):=by
 have e:IntKind.u8.wrap ((BitVec.ofInt 8 (x:Int) &&& BitVec.ofInt 8 1).toNat:Int)=((x%2:Nat):Int):=by
  have e:(BitVec.ofInt 8 (x:Int) &&& BitVec.ofInt 8 1).toNat=x%2:=by
   rw [BitVec.toNat_and]
   have h1:(BitVec.ofInt 8 (x:Int)).toNat=x:=by rw [BitVec.toNat_ofInt];omega
   have h2:(BitVec.ofInt 8 1).toNat=1:=by decide
   rw [h1,h2,Nat.and_one_is_mod]
  rw [e,IntKind.wrap_u8];omega
 exact congrArg (fun z=>some (Value.int .u8 z)) e
theorem JVB (x:Nat)(a:Int){i:Nat}(ha:a=i)(h:i≤8):Q1 .shr .u8 (x:Int) a=some (.int .u8 ((x / 2^i:Nat):Int)):=by
 subst ha
 show (if (i:Int)<0 then none else some (Value.int .u8 ((x:Int).fdiv (2^(min (i:Int).toNat 8)))))=_
 rw [if_neg (by omega),Int.toNat_natCast,Nat.min_eq_left h,Int.fdiv_eq_ediv_of_nonneg _ (Int.le_of_lt (Int.pow_pos (by decide)))]
 norm_cast
abbrev JSc (b:Bs):D:=.fn 159 [.pt [JAj b]]
theorem JQv (b:Bs):Ja Tryz.prog 126 [.leaf (.d (JAj b))] (.leaf (.d (JSc b))) []:=by
 refine Js Jc Tryz.func126 rfl (by simp only [List.length_cons,List.length_nil,Tryz.ntmps126];omega) JI rfl ?_
 refine JB.reg ?_
 iterate 2 (refine JA.o ?_)
 refine JA.nil (JB.reg ?_)
 refine JA.frz 1 JD ?_
 iterate 2 (refine JA.o ?_)
 refine JA.frz 3 JD ?_
 refine JA.nil ?_
 exact Ends.fin [] (rs:=[.tmp 2]) rfl JD Yj
theorem JQw (b:Bs)(hb:b.length≤1000000):Qr Tryz.prog 159 [.leaf (.obj 900),.leaf (.d (.pt [JAj b]))] [(900,.yl)] (lB (JA4 (QY b))):=by
 have hbl:=Y2 b
 have hul:=JCh b
 refine Js Jc Tryz.func159 rfl (by simp only [List.length_cons,List.length_nil,Tryz.ntmps159];omega) JI rfl ?_
 refine JB.reg ?_
 have X:=Fx.mk hbl
 iterate 3 (refine JA.o1 JC ?_)
 refine JA.nil (JB.blk1 ?_)
 refine JB.forY [0,6,7,8] [900] (b.length) (fun k=>[.slot 8 (.int k)]) (fun k=>lB ((JA4 (QY b)).drop (8*k))) (fun _=>True) (fun k=>by simp only [go_sem]<;>rfl) (by simp only [go_sem,X.h,Int.natCast_zero,Nat.mul_zero,List.drop_zero]<;>rfl) ?_ (fun k hk hX=>?_)
 ·trivial
 ·skip
  refine JB.reg ?_
  refine JA.o1 JC ?_
  refine JA.nil ?_
  refine JB.cndS JC (fun hb9=>?_) (fun hb9=>?_)
  ·skip
   have hlt:=ZU hb9
   obtain ⟨c,hx⟩:=ZQ hb9
   have hxb:=JP4 hx
   have hc:=c.toNat_lt
   refine JB.skipS (JB.blk (JB.reg ?_))
   have X:=X.a hxb
   refine JA.o1 YE ?_
   iterate 2 (refine JA.o1 JC ?_)
   refine JA.nil (JB.reg ?_)
   refine JA.o1 JC ?_
   refine JA.nil (JB.blk1 ?_)
   refine JB.forY [0,4,5,6,7,8] [900] (8) (fun j=>[.slot 5 (.int (7-j))]) (fun j=>lB ((JA4 (QY b)).drop (8*k+j))) (fun _=>True) (fun j=>by simp only [go_sem]<;>rfl) (by simp only [go_sem,X.h,Int.natCast_zero,Int.sub_zero,Nat.add_zero]<;>rfl) ?_ (fun j hj Xj=>?_)
   ·trivial
   ·skip
    refine JB.assocS (JB.reg ?_)
    iterate 2 (refine JA.o1 JC ?_)
    refine JA.nil ?_
    refine JB.cndS JC (fun hb13=>?_) (fun hb13=>?_)
    ·skip
     have hj8:j<8:=by have:=of_decide_eq_true hb13;omega
     have hsh:=JVB c.toNat (7-(j:Int)) (i:=7-j) (by omega) (by omega)
     have hle:c.toNat / 2^(7-j)≤c.toNat:=Nat.div_le_self _ _
     have han:=JPY (x:=c.toNat / 2^(7-j)) (by omega)
     have htb:((c.toNat / 2^(7-j)%2:Nat):Int)=(((c.toNat / 2^(7-j)%2==1).toNat:Nat):Int):=by rw [JH2]
     have hdr:=JPt (JPG b k j c hx hj8)
     refine JB.skipS (JB.blk (JB.reg ?_))
     have X:=(X.a hsh).a han
     iterate 5 (refine JA.o1 JC ?_)
     refine JA.o1 J4 ?_
     have X:=Fx.mk htb
     refine JA.yld (args:=[.int ((c.toNat / 2^(7-j)%2==1).toNat:Nat)]) JD JD JC (by exact ⟨WkP.refl rfl,trivial⟩) (by simp only [hdr,JJH]<;>rfl) (fun t=>?_)
     have X:=(((Fx.mk hbl).a hxb).a hsh).a han
     refine JA.o1 JC ?_
     refine JA.nil ?_
     refine JB.cnd JC (fun hb23=>?_) (fun hb23=>?_)
     ·skip
      have ht:t=false:=by cases t<;>simp_all
      subst ht
      refine JY.ret (Jb.ret (Yi.ret (JY.ret (Jb.ret (Yi.ret ?_)))))
      exact Ends.fin [] (rs:=[]) rfl (by simp only [go_sem,X.h,cond_false]<;>rfl) (by simp only [go_sem,X.h,cond_false]<;>first|rfl|exact Ql)
     ·skip
      have ht:t=true:=by cases t<;>simp_all
      subst ht
      refine JY.nrm (JB.reg1 ?_)
      refine JA.o1 (by simp only [go_sem,X.h,cond_true]<;>rfl) ?_
      refine JA.o1 (by simp only [go_sem,X.h,cond_true];(try simp (disch:=omega) only [IntWalk.i64_in,IntWalk.u64_in,IntWalk.i32_in,IntWalk.u8_in,if_neg,if_pos])<;> rfl) ?_
      refine JA.o1 (by simp only [go_sem,X.h,cond_true]<;>rfl) ?_
      refine JA.nil ?_
      refine Jb.nxt ?_ ?_ ?_
      ·omega
      ·exact JO.kp [0,4,5,6,7,8] [900] (by simp only [go_sem,X.h,cond_true]<;>first|exact Ql|rfl)
      ·trivial
    ·skip
     have hj8:j=8:=by have:=of_decide_eq_false hb13;omega
     subst hj8
     refine JB.exitS (Jb.ext (Yi.hit (JY.nrm (JB.reg1 ?_))))
     refine JA.o1 J4 ?_
     refine JA.o1 JC ?_
     refine JA.nil ?_
     refine Jb.nxt ?_ ?_ ?_
     ·omega
     ·exact JO.kp [0,6,7,8] [900] ZI
     ·trivial
  ·skip
   have hke:=ZS hb9
   have hdn:(JA4 (QY b)).drop (8*k)=[]:=List.drop_eq_nil_of_le (by rw [JEC,hul];omega)
   refine JB.exitS (Jb.ext (Yi.hit ?_))
   have X:=X.a hdn
   exact Ends.fin0 [] (rs:=[]) rfl (by simp only [go_sem,X.h,lB]<;>rfl) (by simp only [go_sem,X.h,lB]<;>first|rfl|exact Ql)
theorem JGy (b:Bs)(hb:b.length≤1000000):Qr Tryz.prog 73 [.leaf (.d (JAj b))] [] (.ret (.leaf (.ptr 6 0)) [(6,.cells [.d (Q5 (Qi (QY b))),.d (.i 0)])]):=by
 have hul:=JCh b
 have hil:=JCq (QY b)
 have hvl:=JEC (QY b)
 refine Js Jc Tryz.func73 rfl (by simp only [List.length_cons,List.length_nil,Tryz.ntmps73];omega) JI rfl ?_
 refine JB.reg ?_
 refine JA.o ?_
 refine JA.nil (JB.reg ?_)
 iterate 4 (refine JA.o ?_)
 refine JA.nil (JB.assocS (JB.reg ?_))
 refine JA.nilC 6 0 1000 3 1 JD JD JD (by omega) (by omega) JD ?_
 refine JA.o ?_
 refine JA.c1 (JQv b) JD JD ?_
 refine JA.nil (JB.blk ?_)
 refine JB.rangeL 159 [.pt [JAj b]] 900 (JA4 (QY b)) [3,8] [3,6,1000] (fun k=>[.obj 6 (.cells [.own 1000 0 k k,.d (.i 0)]),.obj 1000 (.arr 3 1 (((Qi (QY b)).take k).map ZR))]) (fun _=>True) (fun k=>by simp only [go_sem]<;>rfl) V99 (fun _=>by rfl) (fun _=>by rfl) rfl JD JV (JQw b hb) QB ?_ (fun k v hv hX=>?_) (fun hX=>?_)
 ·trivial
 ·skip
  obtain ⟨n,hn,rfl⟩:=JPu hv
  have hkl:=(List.getElem?_eq_some_iff.1 hn).1
  have htl:((Qi (QY b)).take k).length=k:=by rw [List.length_take];omega
  have hts:(Qi (QY b)).take (k+1)=(Qi (QY b)).take k++[((n.toNat:Nat):Int)]:=by
   refine Zs ?_
   unfold Qi
   rw [List.getElem?_map,hn];rfl
  refine ⟨rfl,?_⟩
  refine JB.reg1 ?_
  have X:=Fx.mk htl
  refine JA.o1 JC ?_
  refine JA.nil ?_
  refine ⟨rfl,?_⟩
  refine JB.blk1 ?_
  refine JB.opk1 13 ?_
  iterate 7 (refine JF.o1 JC ?_)
  refine JF.o1 V8 ?_
  iterate 3 (refine JF.o1 JC ?_)
  refine JF.nil (Qs.fin QB QB ?_)
  refine Yi.nrm ?_
  refine JCk.nrm ?_ ?_
  ·exact JO.kl [3,6,1000] (by simp only [go_sem,X.h]<;>first|((repeat' (first|with_reducible_and_instances rfl|refine Q8 ?_ ?_ ?_|refine Q7 ?_|refine YN ?_|refine Q9 ?_ ?_|refine Q2 ?_|refine Q3 ?_|refine YO ?_|refine Q6 ?_ ?_|refine YK ?_ ?_|refine YM ?_|refine YH ?_|(refine Q4 ?_;omega)));(all_goals (first|omega|(rw [hts];simp [ZR];done))))|rfl)
  ·trivial
 ·skip
  rw [JEC] at *
  have htk:(Qi (QY b)).take (QY b).length=Qi (QY b):=List.take_of_length_le (by omega)
  have hta:List.take (QY b).length (List.map ZR (Qi (QY b)))=List.map ZR (Qi (QY b)):=List.take_of_length_le (by simp [hil])
  refine JY.nrm (JB.reg ?_)
  have X:=((Fx.mk htk).a hta).a hil
  refine JA.frz 1000 JC ?_
  iterate 2 (refine JA.o1 (by simp only [go_sem,JEC]<;>rfl) ?_)
  refine JA.nil ?_
  exact Ends.fin [6] (rs:=[.tmp 2]) rfl (by simp only [go_sem,JEC]<;>rfl) (by simp only [go_sem,JEC]<;>first|rfl|exact Ql)
end Go.Mw
namespace Go.Mw
open Go.Proofs
open Go.Bk
attribute [-go_sem] Q1
attribute [local go_sem] JCC JCL JCI JCK JCD JCJ JCH JCG JCF JCE
theorem JPm (b:Bool)(s:Bits):Qi (b::s)=(b.toNat:Int)::Qi s:=rfl
theorem JPn:Qi []=[]:=rfl
theorem JAq (b:Bool)(r:Bits)(o:Int)(ho:0≤o∧o≤1000000000):Qr Tryz.prog 76 [.leaf (.ptr 911 0)] [(911,.cells [.d (Q5 (Qi (b::r))),.d (.i o)])] (.ret (.int (b.toNat:Nat)) [(911,.cells [.d (Q5 (Qi r)),.d (.i (o+(b.toNat:Nat)))])]):=by
 have hb1:b.toNat≤1:=by cases b<;>decide
 have hgt:decide (((r.length+1:Nat):Int)>0)=true:=decide_eq_true (by omega)
 have hgt2:decide ((r.length:Int)+1>0)=true:=decide_eq_true (by omega)
 have hil:=JCq r
 rw [JPm]
 refine Js Jc Tryz.func76 rfl (by simp only [List.length_cons,List.length_nil,Tryz.ntmps76];omega) JI rfl ?_
 refine JB.reg ?_
 have X:=((Fx.mk hil).a hgt).a hgt2
 refine JA.o1 V52 ?_
 refine JA.nil (JB.reg ?_)
 iterate 6 (refine JA.o1 V52 ?_)
 refine JA.c1 (Qv true rfl) V52 V52 ?_
 refine JA.nil (JB.reg ?_)
 iterate 4 (refine JA.o1 V52 ?_)
 refine JA.o1 V21 ?_
 iterate 2 (refine JA.o1 V52 ?_)
 refine JA.nil (JB.reg ?_)
 iterate 5 (refine JA.o1 V52 ?_)
 refine JA.o1 V21 ?_
 iterate 3 (refine JA.o1 V52 ?_)
 refine JA.nil (JB.reg ?_)
 iterate 5 (refine JA.o1 V52 ?_)
 refine JA.o1 (by simp only [go_sem,X.h,List.map_cons,List.length_cons,List.length_map,List.getElem?_cons_zero,List.drop_succ_cons,List.drop_zero,Int.natCast_add,Int.natCast_one];(try simp (disch:=omega) only [IntWalk.i64_in,IntWalk.u64_in,IntWalk.i32_in,IntWalk.u8_in,if_neg,if_pos])<;> rfl) ?_
 iterate 3 (refine JA.o1 V52 ?_)
 refine JA.nil (JB.reg ?_)
 iterate 2 (refine JA.o1 V52 ?_)
 refine JA.nil ?_
 exact Ends.fin [911] (rs:=[.tmp 2]) rfl V52 (by simp only [go_sem,X.h,List.map_cons,List.length_cons,List.length_map,List.getElem?_cons_zero,List.drop_succ_cons,List.drop_zero,Int.natCast_add,Int.natCast_one]<;>first|rfl|exact Ql)
theorem JJn (o:Int):QZ Tryz.prog Je 76 [.leaf (.ptr 911 0)] [(911,.cells [.d (Q5 (Qi [])),.d (.i o)])]:=by
 rw [JPn]
 refine YG Jc Tryz.func76 rfl (by simp only [List.length_cons,List.length_nil,Tryz.ntmps76];omega) JI rfl ?_
 refine JB.reg ?_
 refine JA.o1 JIC ?_
 refine JA.nil ?_
 refine JB.pan (pv:=Je) 6 rfl ?_
 iterate 6 (refine JA.o1 JIC ?_)
 exact JA.panc (Ye false rfl) JV JIC J6 rfl
theorem JOw {s:Bits}{k:Nat}{b:Bool}(h:s[k]? = some b):s.take (k+1)=s.take k++[b]:=Zs h
theorem JFx (s:Bits)(k:Nat):JS (s.take k)≤k:=by
 have:=JAT (s.take k)
 rw [List.length_take] at this;omega
theorem JPJ {s:Bits}{k n:Nat}(h:s.length=n)(hk:k≤n)(hn:n≤62):QG (s.take k)<4611686018427387904:=by
 have h1:=JBb (s.take k)
 have h2:2^(s.take k).length≤2^62:=Nat.pow_le_pow_right (by omega) JBH
 have h3:(2:Nat)^62=4611686018427387904:=by decide
 omega
theorem JPK:QG []=0:=rfl
theorem JBN (many:Nat)(s r:Bits)(o:Int)(hs:s.length=many)(hm:many≤62)(ho:0≤o∧o≤100000000):Qr Tryz.prog 74 [.leaf (.ptr 911 0),.int many] [(911,.cells [.d (Q5 (Qi (s++r))),.d (.i o)])] (.ret (.int (QG s:Nat)) [(911,.cells [.d (Q5 (Qi r)),.d (.i (o+((JS s:Nat):Int)))])]):=by
 refine Js Jc Tryz.func74 rfl (by simp only [List.length_cons,List.length_nil,Tryz.ntmps74];omega) JI rfl ?_
 refine JB.reg ?_
 refine JA.o ?_
 refine JA.nil (JB.assocS (JB.reg ?_))
 iterate 2 (refine JA.o ?_)
 refine JA.nil (JB.blk ?_)
 refine JB.forA [0,4,5,6] [911] (many) (fun k=>[.slot 4 (.int (QG (s.take k):Nat)),.slot 6 (.int k),.obj 911 (.cells [.d (Q5 (Qi (s.drop k++r))),.d (.i (o+((JS (s.take k):Nat):Int)))])]) (fun _=>True) (fun k=>by simp only [go_sem]<;>rfl) (by simp only [go_sem,Int.natCast_zero,List.take_zero,List.drop_zero,JFw,JPK,Int.add_zero]<;>rfl) ?_ (fun k hk hX=>?_)
 ·trivial
 ·skip
  refine JB.reg ?_
  refine JA.o ?_
  refine JA.nil ?_
  refine JB.cndS JD (fun hb7=>?_) (fun hb7=>?_)
  ·skip
   have hk:k<many:=by have:=of_decide_eq_true hb7;omega
   obtain ⟨b,hx⟩:∃b,s[k]? = some b:=⟨_,List.getElem?_eq_getElem (by omega)⟩
   have hdk:s.drop k=b::s.drop (k+1):=JFG hx
   have htk:=JOw hx
   have hov:=JFx s k
   have hon:JS (s.take (k+1))=JS (s.take k)+b.toNat:=by rw [htk,Y3,JBw]
   have hvl:QG (s.take (k+1))=2*QG (s.take k)+b.toNat:=by rw [htk,JDA]
   have hb1:b.toNat≤1:=by cases b<;>decide
   have hvb:=JPJ hs (by omega) hm (k:=k)
   refine JB.skipS (JB.blk (JB.reg1 ?_))
   refine JA.o ?_
   refine JA.o1 V72 ?_
   refine JA.o ?_
   have X:=Fx.mk hdk
   refine JA.lendG [(911,911)] JD (JAq b (s.drop (k+1)++r) (o+((JS (s.take k):Nat):Int)) (by omega)) JV (.inl ⟨[],by simp only [go_sem]<;>rfl,rfl⟩) JBe Y7 rfl (by decide) YT V51 YW YY JBe ?_
   refine JA.o1 V72 ?_
   refine JA.o ?_
   refine JA.nil (JY.nrm (JB.reg1 ?_))
   refine JA.o1 V72 ?_
   refine JA.o ?_
   refine JA.nil ?_
   refine Jb.nxt ?_ ?_ ?_
   ·omega
   ·exact JO.kp [0,4,5,6] [911] V18
   ·trivial
  ·skip
   have hke:k=many:=by have:=of_decide_eq_false hb7;omega
   have htk:s.take k=s:=List.take_of_length_le (by omega)
   have hdk:s.drop k=[]:=List.drop_eq_nil_of_le (by omega)
   refine JB.exitS (Jb.ext (JY.hit (JB.reg ?_)))
   have X:=(Fx.mk htk).a hdk
   iterate 2 (refine JA.o1 (by simp only [go_sem,X.h,List.nil_append]<;>rfl) ?_)
   refine JA.nil ?_
   exact Ends.fin [911] (rs:=[.tmp 4]) rfl (by simp only [go_sem,X.h,List.nil_append]<;>rfl) (by simp only [go_sem,X.h,List.nil_append]<;>first|rfl|exact Ql)
theorem JHi (many:Nat)(s:Bits)(o:Int)(hs:s.length<many)(hm:many≤62)(ho:0≤o∧o≤100000000):QZ Tryz.prog Je 74 [.leaf (.ptr 911 0),.int many] [(911,.cells [.d (Q5 (Qi s)),.d (.i o)])]:=by
 refine YG Jc Tryz.func74 rfl (by simp only [List.length_cons,List.length_nil,Tryz.ntmps74];omega) JI rfl ?_
 refine JB.reg ?_
 refine JA.o ?_
 refine JA.nil (JB.assocS (JB.reg ?_))
 iterate 2 (refine JA.o ?_)
 refine JA.nil (JB.blk ?_)
 refine JB.forA [0,4,5,6] [911] (s.length) (fun k=>[.slot 4 (.int (QG (s.take k):Nat)),.slot 6 (.int k),.obj 911 (.cells [.d (Q5 (Qi (s.drop k))),.d (.i (o+((JS (s.take k):Nat):Int)))])]) (fun _=>True) (fun k=>by simp only [go_sem]<;>rfl) (by simp only [go_sem,Int.natCast_zero,List.take_zero,List.drop_zero,JFw,JPK,Int.add_zero]<;>rfl) ?_ (fun k hk hX=>?_)
 ·trivial
 ·skip
  refine JB.reg ?_
  refine JA.o ?_
  refine JA.nil ?_
  refine JB.cndS JD (fun hb7=>?_) (fun hb7=>?_)
  ·skip
   have hk:k<many:=by have:=of_decide_eq_true hb7;omega
   refine JB.skipS (JB.blk ?_)
   by_cases hk2:k<s.length
   ·skip
    obtain ⟨b,hx⟩:∃b,s[k]? = some b:=⟨_,List.getElem?_eq_getElem (by omega)⟩
    have hdk:s.drop k=b::s.drop (k+1):=JFG hx
    have htk:=JOw hx
    have hov:=JFx s k
    have hon:JS (s.take (k+1))=JS (s.take k)+b.toNat:=by rw [htk,Y3,JBw]
    have hvl:QG (s.take (k+1))=2*QG (s.take k)+b.toNat:=by rw [htk,JDA]
    have hb1:b.toNat≤1:=by cases b<;>decide
    have hvb:=JPJ rfl (by omega) (by omega) (k:=k) (s:=s)
    refine JB.reg1 ?_
    refine JA.o ?_
    refine JA.o1 V72 ?_
    refine JA.o ?_
    have X:=Fx.mk hdk
    refine JA.lendG [(911,911)] JD (JAq b (s.drop (k+1)) (o+((JS (s.take k):Nat):Int)) (by omega)) JV (.inl ⟨[],by simp only [go_sem]<;>rfl,rfl⟩) JC Y7 rfl (by decide) YT V58 YW YY JC ?_
    refine JA.o1 V72 ?_
    refine JA.o ?_
    refine JA.nil (JY.nrm (JB.reg1 ?_))
    refine JA.o1 V72 ?_
    refine JA.o ?_
    refine JA.nil ?_
    refine Jb.nxt ?_ ?_ ?_
    ·omega
    ·exact JO.kp [0,4,5,6] [911] V18
    ·trivial
   ·skip
    have hke:k=s.length:=by omega
    have hdk:s.drop k=[]:=List.drop_eq_nil_of_le (by omega)
    refine JB.pan1 (pv:=Je) 3 rfl ?_
    have X:=Fx.mk hdk
    refine JA.o1 JC ?_
    refine JA.o1 J4 ?_
    refine JA.o1 JC ?_
    exact JA.pang [(911,911)] 0 (JJn (o+((JS (s.take k):Nat):Int))) JV JD JC V81 (fun q x h=>by by_cases e:q=911<;>simp [look,e] at h;subst e;subst h;exact ⟨911,_,rfl,by simp only [go_sem,X.h]<;>rfl,QO.refl _,rfl⟩) V91 rfl
  ·skip
   exact absurd (of_decide_eq_false hb7) (by omega)
end Go.Mw
namespace Go.Mw
open Go.Proofs
open Go.Bk
attribute [-go_sem] Q1
attribute [local go_sem] JCC JCL JCI JCK JCD JCJ JCH JCG JCF JCE
theorem JLL {z:Nat}(h:z≤16):Q1 .shl .i64 1 (z:Int)=some (.int .i64 ((2^z:Nat):Int)):=by
 show (if (z:Int)<0 then none else some (Value.int .i64 (IntKind.i64.wrap (1*2^(min (z:Int).toNat 64)))))=_
 have h2:2^z≤2^16:=Nat.pow_le_pow_right (by omega) h
 rw [if_neg (by omega),Int.toNat_natCast,Nat.min_eq_left (by omega),Int.one_mul,IntWalk.i64_in]
 ·norm_cast
 ·have:((2:Int)^z)=((2^z:Nat):Int):=by norm_cast
  rw [this]
  generalize 2^z=q at h2
  omega
theorem JPc {z v:Nat}(h:z≤16)(hv:v<2^z):Q1 .or .i64 ((2^z:Nat):Int) (v:Int)=some (.int .i64 ((2^z+v:Nat):Int)):=by
 have h2:2^z≤2^16:=Nat.pow_le_pow_right (by omega) h
 have e:(BitVec.ofInt 64 ((2^z:Nat):Int) ||| BitVec.ofInt 64 (v:Int)).toNat=2^z+v:=by
  rw [BitVec.toNat_or]
  have h1:(BitVec.ofInt 64 ((2^z:Nat):Int)).toNat=2^z:=by rw [BitVec.toNat_ofInt];omega
  have h3:(BitVec.ofInt 64 (v:Int)).toNat=v:=by rw [BitVec.toNat_ofInt];omega
  have h4:=Nat.two_pow_add_eq_or_of_lt hv 1
  rw [Nat.mul_one] at h4
  rw [h1,h3,h4]
 have e2:IntKind.i64.wrap ((BitVec.ofInt 64 ((2^z:Nat):Int) ||| BitVec.ofInt 64 (v:Int)).toNat:Int)=((2^z+v:Nat):Int):=by
  rw [e,IntKind.wrap_i64];omega
 exact congrArg (fun z=>some (Value.int .i64 z)) e2
theorem JF7 {z k:Nat}(h:k<z):List.replicate (z-k) false=false::List.replicate (z-(k+1)) false:=by
 rw [show z-k=(z-(k+1))+1 by omega,List.replicate_succ]
theorem JFA (z:Nat)(a r:Bits)(o:Int)(hz:z≤16)(ha:a.length=z)(ho:0≤o∧o≤90000000):Qr Tryz.prog 127 [.leaf (.ptr 911 0)] [(911,.cells [.d (Q5 (Qi (List.replicate z false++true::(a++r)))),.d (.i o)])] (.ret (.int ((2^z+QG a:Nat):Int)) [(911,.cells [.d (Q5 (Qi r)),.d (.i (o+1+((JS a:Nat):Int)))])]):=by
 have h10:((1:Int)==0)=false:=rfl
 have h00:((0:Int)==0)=true:=rfl
 have hva:=JBb a
 rw [ha] at hva
 have hs1:=JLL hz
 have hs2:=JPc hz hva
 refine Js Jc Tryz.func127 rfl JGS JI rfl ?_
 refine JB.reg ?_
 have X:=(((Fx.mk h00).a h10).a hs1).a hs2
 refine JA.o1 QW ?_
 refine JA.nil (JB.reg ?_)
 refine JA.o1 QW ?_
 refine JA.nil (JB.blk ?_)
 refine JB.forA [0,3] [911] (z) (fun k=>[.slot 3 (.int k),.obj 911 (.cells [.d (Q5 (Qi (List.replicate (z-k) false++true::(a++r)))),.d (.i o)])]) (fun _=>True) (fun k=>by simp only [go_sem]<;>rfl) V68 ?_ (fun k hk hX=>?_)
 ·trivial
 ·skip
  refine JB.assocS ?_
  by_cases hk2:k<z
  ·skip
   have hrs:=JF7 hk2
   have hle:decide ((k:Int)+1≤16)=true:=decide_eq_true (by omega)
   refine JB.reg ?_
   have X:=X.a hle
   refine JA.o1 QW ?_
   have X:=Fx.mk hrs
   refine JA.lendG [(911,911)] JD (JAq false (List.replicate (z-(k+1)) false++true::(a++r)) o (by omega)) JV (.inl ⟨[],by simp only [go_sem]<;>rfl,rfl⟩) JBe Y7 rfl (by decide) YT V51 YW YY JBe ?_
   have X:=((((Fx.mk h00).a h10).a hs1).a hs2).a hle
   refine JA.o1 QW ?_
   refine JA.nil ?_
   refine JB.cndS QW (fun hb6=>?_) (fun hb6=>?_)
   ·skip
    refine JB.skipS (JB.blk1 (JB.reg ?_))
    refine JA.o1 QW ?_
    refine JA.o1 V34 ?_
    refine JA.o1 QW ?_
    refine JA.nil (JB.reg1 ?_)
    iterate 2 (refine JA.o1 QW ?_)
    refine JA.c1 (Qv true rfl) QW QW ?_
    refine JA.nil (Yi.nrm ?_)
    refine Jb.nxt ?_ ?_ ?_
    ·omega
    ·exact JO.kp [0,3] [911] V75
    ·trivial
   ·exact absurd hb6 (by simp)
  ·skip
   have hke:k=z:=by omega
   refine JB.reg ?_
   have X:=X.a hke
   refine JA.o1 QW ?_
   have X:=Fx.mk hke
   refine JA.lendG [(911,911)] JD (JAq true (a++r) o (by omega)) JV (.inl ⟨[],by simp only [go_sem]<;>rfl,rfl⟩) V93 Y7 rfl (by decide) YT V39 YW YY V93 ?_
   have X:=((((Fx.mk h00).a h10).a hs1).a hs2).a hke
   refine JA.o1 QW ?_
   refine JA.nil ?_
   refine JB.cndS QW (fun hb6=>?_) (fun hb6=>?_)
   ·exact absurd hb6 (by simp)
   ·skip
    refine JB.exitS (Jb.ext (JY.hit ?_))
    refine JB.opk 9 ?_
    iterate 4 (refine JF.o1 QW ?_)
    refine JF.lendG (ds:=[]) [(911,911)] JD (JBN z a r (o+1) ha (by omega) (by omega)) JV JD JD V28 rfl (by decide) JDF Za (by intro p hp;simp only [List.mem_cons,List.not_mem_nil,or_false] at hp;rcases hp with rfl<;>(first|exact ⟨_,rfl,JD9 _⟩|exact ⟨_,rfl,_,rfl,by simp [Jr]⟩|exact ⟨_,rfl,_,rfl⟩)) rfl JD JD JD ?_
    iterate 2 (refine JF.o1 QW ?_)
    refine JF.nil (Qs.fin QB QB ?_)
    exact Ends.fin [911] (rs:=[.tmp 2]) rfl QW (by simp only [go_sem,X.h,Bool.toNat_false,Bool.toNat_true,Int.natCast_zero,Int.natCast_one,Int.add_zero]<;>first|rfl|exact Ql)
theorem JS6 (z:Nat)(o:Int)(hz:z≤16)(ho:0≤o∧o≤90000000):QZ Tryz.prog Je 127 [.leaf (.ptr 911 0)] [(911,.cells [.d (Q5 (Qi (List.replicate z false))),.d (.i o)])]:=by
 have h10:((1:Int)==0)=false:=rfl
 have h00:((0:Int)==0)=true:=rfl
 refine YG Jc Tryz.func127 rfl JGS JI rfl ?_
 refine JB.reg ?_
 have X:=(Fx.mk h00).a h10
 refine JA.o1 QW ?_
 refine JA.nil (JB.reg ?_)
 refine JA.o1 QW ?_
 refine JA.nil (JB.blk ?_)
 refine JB.forA [0,3] [911] (z) (fun k=>[.slot 3 (.int k),.obj 911 (.cells [.d (Q5 (Qi (List.replicate (z-k) false))),.d (.i o)])]) (fun _=>True) (fun k=>by simp only [go_sem]<;>rfl) V68 ?_ (fun k hk hX=>?_)
 ·trivial
 ·skip
  refine JB.assocS ?_
  by_cases hk2:k<z
  ·skip
   have hrs:=JF7 hk2
   have hle:decide ((k:Int)+1≤16)=true:=decide_eq_true (by omega)
   refine JB.reg ?_
   have X:=X.a hle
   refine JA.o1 QW ?_
   have X:=Fx.mk hrs
   refine JA.lendG [(911,911)] JD (JAq false (List.replicate (z-(k+1)) false) o (by omega)) JV (.inl ⟨[],by simp only [go_sem]<;>rfl,rfl⟩) JC Y7 rfl (by decide) YT V58 YW YY JC ?_
   have X:=((Fx.mk h00).a h10).a hle
   refine JA.o1 QW ?_
   refine JA.nil ?_
   refine JB.cndS QW (fun hb6=>?_) (fun hb6=>?_)
   ·skip
    refine JB.skipS (JB.blk1 (JB.reg ?_))
    refine JA.o1 QW ?_
    refine JA.o1 V34 ?_
    refine JA.o1 QW ?_
    refine JA.nil (JB.reg1 ?_)
    iterate 2 (refine JA.o1 QW ?_)
    refine JA.c1 (Qv true rfl) QW QW ?_
    refine JA.nil (Yi.nrm ?_)
    refine Jb.nxt ?_ ?_ ?_
    ·omega
    ·exact JO.kp [0,3] [911] V75
    ·trivial
   ·exact absurd hb6 (by simp)
  ·skip
   have hke:k=z:=by omega
   refine JB.pan (pv:=Je) 1 rfl ?_
   have X:=X.a hke
   refine JA.o1 QW ?_
   have X:=Fx.mk hke
   exact JA.pang [(911,911)] 0 (JJn o) JV JD (by simp only [go_sem,X.h,Nat.sub_self,List.replicate_zero]<;>rfl) V81 (fun q x h=>by by_cases e:q=911<;>simp [look,e] at h;subst e;subst h;exact ⟨911,_,rfl,by simp only [go_sem,X.h,Nat.sub_self,List.replicate_zero]<;>rfl,QO.refl _,rfl⟩) V91 rfl
theorem JS7 (r:Bits)(o:Int)(ho:0≤o∧o≤90000000):QZ Tryz.prog Je 127 [.leaf (.ptr 911 0)] [(911,.cells [.d (Q5 (Qi (List.replicate 17 false++r))),.d (.i o)])]:=by
 obtain ⟨z,hz⟩:∃z,z=17:=⟨_,rfl⟩
 rw [←hz]
 have h10:((1:Int)==0)=false:=rfl
 have h00:((0:Int)==0)=true:=rfl
 refine YG Jc Tryz.func127 rfl JGS JI rfl ?_
 refine JB.reg ?_
 have X:=(Fx.mk h00).a h10
 refine JA.o1 QW ?_
 refine JA.nil (JB.reg ?_)
 refine JA.o1 QW ?_
 refine JA.nil (JB.blk ?_)
 refine JB.forA [0,3] [911] (16) (fun k=>[.slot 3 (.int k),.obj 911 (.cells [.d (Q5 (Qi (List.replicate (z-k) false++r))),.d (.i o)])]) (fun _=>True) (fun k=>by simp only [go_sem]<;>rfl) V68 ?_ (fun k hk hX=>?_)
 ·trivial
 ·skip
  refine JB.assocS ?_
  by_cases hk2:k<16
  ·skip
   have hk3:k<z:=by omega
   have hrs:=JF7 hk3
   have hle:decide ((k:Int)+1≤16)=true:=decide_eq_true (by omega)
   refine JB.reg ?_
   have X:=X.a hle
   refine JA.o1 QW ?_
   have X:=Fx.mk hrs
   refine JA.lendG [(911,911)] JD (JAq false (List.replicate (z-(k+1)) false++r) o (by omega)) JV (.inl ⟨[],by simp only [go_sem]<;>rfl,rfl⟩) JBe Y7 rfl (by decide) YT V51 YW YY JBe ?_
   have X:=((Fx.mk h00).a h10).a hle
   refine JA.o1 QW ?_
   refine JA.nil ?_
   refine JB.cndS QW (fun hb6=>?_) (fun hb6=>?_)
   ·skip
    refine JB.skipS (JB.blk1 (JB.reg ?_))
    refine JA.o1 QW ?_
    refine JA.o1 V34 ?_
    refine JA.o1 QW ?_
    refine JA.nil (JB.reg1 ?_)
    iterate 2 (refine JA.o1 QW ?_)
    refine JA.c1 (Qv true rfl) QW QW ?_
    refine JA.nil (Yi.nrm ?_)
    refine Jb.nxt ?_ ?_ ?_
    ·omega
    ·exact JO.kp [0,3] [911] V75
    ·trivial
   ·exact absurd hb6 (by simp)
  ·skip
   have hk3:k<z:=by omega
   have hrs:=JF7 hk3
   have hle:decide ((k:Int)+1≤16)=false:=decide_eq_false (by omega)
   refine JB.reg ?_
   have X:=X.a hle
   refine JA.o1 QW ?_
   have X:=Fx.mk hrs
   refine JA.lendG [(911,911)] JD (JAq false (List.replicate (z-(k+1)) false++r) o (by omega)) JV (.inl ⟨[],by simp only [go_sem]<;>rfl,rfl⟩) JBe Y7 rfl (by decide) YT V51 YW YY JBe ?_
   have X:=((Fx.mk h00).a h10).a hle
   refine JA.o1 QW ?_
   refine JA.nil ?_
   refine JB.cndS QW (fun hb6=>?_) (fun hb6=>?_)
   ·skip
    refine JB.skipS (JB.blk1 (JB.reg ?_))
    refine JA.o1 QW ?_
    refine JA.o1 V34 ?_
    refine JA.o1 QW ?_
    refine JA.nil ?_
    refine JB.pan1 (pv:=Je) 2 rfl ?_
    iterate 2 (refine JA.o1 QW ?_)
    exact JA.panc (Ye false rfl) JV QW J6 rfl
   ·exact absurd hb6 (by simp)
theorem JS8 (z:Nat)(a:Bits)(o:Int)(hz:z≤16)(ha:a.length<z)(ho:0≤o∧o≤90000000):QZ Tryz.prog Je 127 [.leaf (.ptr 911 0)] [(911,.cells [.d (Q5 (Qi (List.replicate z false++true::a))),.d (.i o)])]:=by
 have h10:((1:Int)==0)=false:=rfl
 have h00:((0:Int)==0)=true:=rfl
 have hs1:=JLL hz
 refine YG Jc Tryz.func127 rfl JGS JI rfl ?_
 refine JB.reg ?_
 have X:=((Fx.mk h00).a h10).a hs1
 refine JA.o1 QW ?_
 refine JA.nil (JB.reg ?_)
 refine JA.o1 QW ?_
 refine JA.nil (JB.blk ?_)
 refine JB.forA [0,3] [911] (z) (fun k=>[.slot 3 (.int k),.obj 911 (.cells [.d (Q5 (Qi (List.replicate (z-k) false++true::a))),.d (.i o)])]) (fun _=>True) (fun k=>by simp only [go_sem]<;>rfl) V68 ?_ (fun k hk hX=>?_)
 ·trivial
 ·skip
  refine JB.assocS ?_
  by_cases hk2:k<z
  ·skip
   have hrs:=JF7 hk2
   have hle:decide ((k:Int)+1≤16)=true:=decide_eq_true (by omega)
   refine JB.reg ?_
   have X:=X.a hle
   refine JA.o1 QW ?_
   have X:=Fx.mk hrs
   refine JA.lendG [(911,911)] JD (JAq false (List.replicate (z-(k+1)) false++true::a) o (by omega)) JV (.inl ⟨[],by simp only [go_sem]<;>rfl,rfl⟩) JBe Y7 rfl (by decide) YT V51 YW YY JBe ?_
   have X:=(((Fx.mk h00).a h10).a hs1).a hle
   refine JA.o1 QW ?_
   refine JA.nil ?_
   refine JB.cndS QW (fun hb6=>?_) (fun hb6=>?_)
   ·skip
    refine JB.skipS (JB.blk1 (JB.reg ?_))
    refine JA.o1 QW ?_
    refine JA.o1 V34 ?_
    refine JA.o1 QW ?_
    refine JA.nil (JB.reg1 ?_)
    iterate 2 (refine JA.o1 QW ?_)
    refine JA.c1 (Qv true rfl) QW QW ?_
    refine JA.nil (Yi.nrm ?_)
    refine Jb.nxt ?_ ?_ ?_
    ·omega
    ·exact JO.kp [0,3] [911] V75
    ·trivial
   ·exact absurd hb6 (by simp)
  ·skip
   have hke:k=z:=by omega
   refine JB.reg ?_
   have X:=X.a hke
   refine JA.o1 QW ?_
   have X:=Fx.mk hke
   refine JA.lendG [(911,911)] JD (JAq true a o (by omega)) JV (.inl ⟨[],by simp only [go_sem]<;>rfl,rfl⟩) V93 Y7 rfl (by decide) YT V39 YW YY V93 ?_
   have X:=(((Fx.mk h00).a h10).a hs1).a hke
   refine JA.o1 QW ?_
   refine JA.nil ?_
   refine JB.cndS QW (fun hb6=>?_) (fun hb6=>?_)
   ·exact absurd hb6 (by simp)
   ·skip
    refine JB.exitS (Jb.ext (JY.hit ?_))
    refine JB.opp (pv:=Je) 9 4 [0,1,2,3] rfl QB ?_
    iterate 4 (refine JF.o1 QW ?_)
    exact JF.pang [(911,911)] 0 (JHi z a (o+1) ha (by omega) (by omega)) JV JD JD V35 (fun q x h=>by by_cases e:q=911<;>simp [look,e] at h;subst e;subst h;exact ⟨911,_,rfl,by simp only [go_sem]<;>rfl,QO.refl _,rfl⟩) V91 QB QB rfl
end Go.Mw
namespace Go.Mw
open Go.Proofs
open Go.Bk
attribute [-go_sem] Q1
attribute [local go_sem] JCC JCL JCI JCK JCD JCJ JCH JCG JCF JCE
theorem Z1 {s:Bits}{n:Nat}(h:s.length=n):JS s≤n:=h▸JAT s
theorem JDl {s:Bits}{n m:Nat}(h:s.length=n)(hm:2^n=m):QG s<m:=by
 have:=JBb s
 rw [h,hm] at this;exact this
theorem JQq (z:Nat)(a c d r:Bits)(e:Bool)(last o:Int)(hz:z≤16)(ha:a.length=z)(hc:c.length=3)(hd:d.length=18)(hl:0≤last∧last≤90000000)(hp:(1+JS a+JS c+JS d+e.toNat)%2=0):Qr Tryz.prog 75 [.leaf (.ptr 911 0),.int last] [(911,.cells [.d (Q5 (Qi (List.replicate z false++true::(a++(c++(d++(e::r))))))),.d (.i o)])] (.ret (.val true [.d (.i (last+((2^z+QG a:Nat):Int))),.d (.i (QG c:Nat)),.d (.i (QG d:Nat))]) [(911,.cells [.d (Q5 (Qi r)),.d (.i (((1+JS a+JS c+JS d+e.toNat):Nat):Int))])]):=by
 have h1:=Z1 ha
 have h2:=Z1 hc
 have h3:=Z1 hd
 have hb1:e.toNat≤1:=by cases e<;>decide
 have v1:=JBb a
 rw [ha] at v1
 have hpz:2^z≤2^16:=Nat.pow_le_pow_right (by omega) hz
 have v2:=JDl hc (m:=8) (by decide)
 have v3:=JDl hd (m:=262144) (by decide)
 have hpz2:2^z+QG a≤131072:=by omega
 generalize hq:2^z+QG a=q at hpz2
 have hgam:=JFA z a (c++(d++(e::r))) 0 hz ha (by omega)
 rw [hq] at hgam
 have hto:((0+1+((JS a:Nat):Int)+((JS c:Nat):Int)+((JS d:Nat):Int)+((e.toNat:Nat):Int)):Int)=((((1+JS a+JS c+JS d+e.toNat)):Nat):Int):=by omega
 have htm:(((((1+JS a+JS c+JS d+e.toNat)):Nat):Int)).tmod 2=((((1+JS a+JS c+JS d+e.toNat))%2:Nat):Int):=by rw [Int.tmod_eq_emod_of_nonneg (by omega)];omega
 have hev:(((((1+JS a+JS c+JS d+e.toNat)):Nat):Int).tmod 2==0)=true:=by rw [htm,hp];rfl
 refine Js Jc Tryz.func75 rfl JDv JI rfl ?_
 refine JB.reg ?_
 have X:=(Fx.mk hto).a hev
 refine JA.o1 JC ?_
 refine JA.nil (JB.reg ?_)
 iterate 4 (refine JA.o1 JC ?_)
 refine JA.nil (JB.reg ?_)
 iterate 2 (refine JA.o1 JC ?_)
 refine JA.lendG [(911,911)] JD (hgam) JV (.inl ⟨[],by simp only [go_sem]<;>rfl,rfl⟩) JD Y7 rfl (by decide) YT Za YW YY JD ?_
 refine JA.o1 J4 ?_
 refine JA.o1 JC ?_
 refine JA.lendG [(911,911)] JD (JBN 3 c (d++(e::r)) (0+1+((JS a:Nat):Int)) hc (by omega) (by omega)) JV (.inl ⟨[],by simp only [go_sem]<;>rfl,rfl⟩) JD V9 rfl (by decide) YT Za YW YY JD ?_
 refine JA.o1 JC ?_
 refine JA.lendG [(911,911)] JD (JBN 18 d (e::r) (0+1+((JS a:Nat):Int)+((JS c:Nat):Int)) hd (by omega) (by omega)) JV (.inl ⟨[],by simp only [go_sem]<;>rfl,rfl⟩) JD V9 rfl (by decide) YT Za YW YY JD ?_
 iterate 2 (refine JA.o1 JC ?_)
 refine JA.nil (JB.reg ?_)
 refine JA.o1 JC ?_
 refine JA.lendG [(911,911)] JD (JAq e r (0+1+((JS a:Nat):Int)+((JS c:Nat):Int)+((JS d:Nat):Int)) (by omega)) JV (.inl ⟨[],by simp only [go_sem]<;>rfl,rfl⟩) JD Y7 rfl (by decide) YT Za YW YY JD ?_
 refine JA.nil (JB.reg ?_)
 iterate 4 (refine JA.o1 JC ?_)
 refine JA.o1 J4 ?_
 refine JA.o1 JC ?_
 refine JA.c1 (Qv true rfl) JC JC ?_
 refine JA.nil (JB.reg ?_)
 iterate 2 (refine JA.o1 JC ?_)
 refine JA.nil ?_
 exact Ends.fin [911] (rs:=[.cell 4 70]) rfl JC YV
theorem JJo (s:Bits)(last o:Int)(hl:0≤last∧last≤90000000)(h:QZ Tryz.prog Je 127 [.leaf (.ptr 911 0)] [(911,.cells [.d (Q5 (Qi s)),.d (.i 0)])]):QZ Tryz.prog Je 75 [.leaf (.ptr 911 0),.int last] [(911,.cells [.d (Q5 (Qi s)),.d (.i o)])]:=by
 refine YG Jc Tryz.func75 rfl JDv JI rfl ?_
 refine JB.reg ?_
 refine JA.o ?_
 refine JA.nil (JB.reg ?_)
 iterate 4 (refine JA.o ?_)
 refine JA.nil ?_
 refine JB.pan (pv:=Je) 2 rfl ?_
 iterate 2 (refine JA.o ?_)
 exact JA.pang [(911,911)] 0 (h) JV JD JD V81 (fun q x h=>by by_cases e:q=911<;>simp [look,e] at h;subst e;subst h;exact ⟨911,_,rfl,by simp only [go_sem]<;>rfl,QO.refl _,rfl⟩) V91 rfl
theorem JTD (z:Nat)(a c:Bits)(last o:Int)(hz:z≤16)(ha:a.length=z)(hc:c.length<3)(hl:0≤last∧last≤90000000):QZ Tryz.prog Je 75 [.leaf (.ptr 911 0),.int last] [(911,.cells [.d (Q5 (Qi (List.replicate z false++true::(a++c)))),.d (.i o)])]:=by
 have h1:=Z1 ha
 have v1:=JBb a
 rw [ha] at v1
 have hpz:2^z≤2^16:=Nat.pow_le_pow_right (by omega) hz
 have hpz2:2^z+QG a≤131072:=by omega
 have hgam:=JFA z a c 0 hz ha (by omega)
 generalize hq:2^z+QG a=q at hpz2
 rw [hq] at hgam
 refine YG Jc Tryz.func75 rfl JDv JI rfl ?_
 refine JB.reg ?_
 refine JA.o1 Z8 ?_
 refine JA.nil (JB.reg ?_)
 iterate 4 (refine JA.o1 Z8 ?_)
 refine JA.nil ?_
 refine JB.pan (pv:=Je) 5 rfl ?_
 iterate 2 (refine JA.o1 Z8 ?_)
 refine JA.lendG [(911,911)] JD (hgam) JV (.inl ⟨[],by simp only [go_sem]<;>rfl,rfl⟩) JD Y7 rfl (by decide) YT Za YW YY JD ?_
 refine JA.o1 V66 ?_
 refine JA.o1 Z8 ?_
 exact JA.pang [(911,911)] 0 (JHi 3 c (0+1+((JS a:Nat):Int)) hc (by omega) (by omega)) JV JD JD V35 (fun q x h=>by by_cases e:q=911<;>simp [look,e] at h;subst e;subst h;exact ⟨911,_,rfl,by simp only [go_sem]<;>rfl,QO.refl _,rfl⟩) V91 rfl
theorem JTE (z:Nat)(a c d:Bits)(last o:Int)(hz:z≤16)(ha:a.length=z)(hc:c.length=3)(hd:d.length<18)(hl:0≤last∧last≤90000000):QZ Tryz.prog Je 75 [.leaf (.ptr 911 0),.int last] [(911,.cells [.d (Q5 (Qi (List.replicate z false++true::(a++(c++d))))),.d (.i o)])]:=by
 have h1:=Z1 ha
 have v1:=JBb a
 rw [ha] at v1
 have hpz:2^z≤2^16:=Nat.pow_le_pow_right (by omega) hz
 have hpz2:2^z+QG a≤131072:=by omega
 have h2:=Z1 hc
 have v2:=JDl hc (m:=8) (by decide)
 have hgam:=JFA z a (c++d) 0 hz ha (by omega)
 generalize hq:2^z+QG a=q at hpz2
 rw [hq] at hgam
 refine YG Jc Tryz.func75 rfl JDv JI rfl ?_
 refine JB.reg ?_
 refine JA.o1 Z8 ?_
 refine JA.nil (JB.reg ?_)
 iterate 4 (refine JA.o1 Z8 ?_)
 refine JA.nil ?_
 refine JB.pan (pv:=Je) 7 rfl ?_
 iterate 2 (refine JA.o1 Z8 ?_)
 refine JA.lendG [(911,911)] JD (hgam) JV (.inl ⟨[],by simp only [go_sem]<;>rfl,rfl⟩) JD Y7 rfl (by decide) YT Za YW YY JD ?_
 refine JA.o1 V66 ?_
 refine JA.o1 Z8 ?_
 refine JA.lendG [(911,911)] JD (JBN 3 c d (0+1+((JS a:Nat):Int)) hc (by omega) (by omega)) JV (.inl ⟨[],by simp only [go_sem]<;>rfl,rfl⟩) JD V9 rfl (by decide) YT Za YW YY JD ?_
 refine JA.o1 Z8 ?_
 exact JA.pang [(911,911)] 0 (JHi 18 d (0+1+((JS a:Nat):Int)+((JS c:Nat):Int)) hd (by omega) (by omega)) JV JD JD V35 (fun q x h=>by by_cases e:q=911<;>simp [look,e] at h;subst e;subst h;exact ⟨911,_,rfl,by simp only [go_sem]<;>rfl,QO.refl _,rfl⟩) V91 rfl
theorem JTF (z:Nat)(a c d:Bits)(last o:Int)(hz:z≤16)(ha:a.length=z)(hc:c.length=3)(hd:d.length=18)(hl:0≤last∧last≤90000000):QZ Tryz.prog Je 75 [.leaf (.ptr 911 0),.int last] [(911,.cells [.d (Q5 (Qi (List.replicate z false++true::(a++(c++(d++[])))))),.d (.i o)])]:=by
 have h1:=Z1 ha
 have v1:=JBb a
 rw [ha] at v1
 have hpz:2^z≤2^16:=Nat.pow_le_pow_right (by omega) hz
 have hpz2:2^z+QG a≤131072:=by omega
 have h2:=Z1 hc
 have h3:=Z1 hd
 have v2:=JDl hc (m:=8) (by decide)
 have v3:=JDl hd (m:=262144) (by decide)
 have hgam:=JFA z a (c++(d++[])) 0 hz ha (by omega)
 generalize hq:2^z+QG a=q at hpz2
 rw [hq] at hgam
 refine YG Jc Tryz.func75 rfl JDv JI rfl ?_
 refine JB.reg ?_
 refine JA.o1 Z8 ?_
 refine JA.nil (JB.reg ?_)
 iterate 4 (refine JA.o1 Z8 ?_)
 refine JA.nil (JB.reg ?_)
 iterate 2 (refine JA.o1 Z8 ?_)
 refine JA.lendG [(911,911)] JD (hgam) JV (.inl ⟨[],by simp only [go_sem]<;>rfl,rfl⟩) JD Y7 rfl (by decide) YT Za YW YY JD ?_
 refine JA.o1 V66 ?_
 refine JA.o1 Z8 ?_
 refine JA.lendG [(911,911)] JD (JBN 3 c (d++[]) (0+1+((JS a:Nat):Int)) hc (by omega) (by omega)) JV (.inl ⟨[],by simp only [go_sem]<;>rfl,rfl⟩) JD V9 rfl (by decide) YT Za YW YY JD ?_
 refine JA.o1 Z8 ?_
 refine JA.lendG [(911,911)] JD (JBN 18 d [] (0+1+((JS a:Nat):Int)+((JS c:Nat):Int)) hd (by omega) (by omega)) JV (.inl ⟨[],by simp only [go_sem]<;>rfl,rfl⟩) JD V9 rfl (by decide) YT Za YW YY JD ?_
 iterate 2 (refine JA.o1 Z8 ?_)
 refine JA.nil ?_
 refine JB.pan (pv:=Je) 1 rfl ?_
 refine JA.o1 Z8 ?_
 exact JA.pang [(911,911)] 0 (JJn (0+1+((JS a:Nat):Int)+((JS c:Nat):Int)+((JS d:Nat):Int))) JV JD JD V81 (fun q x h=>by by_cases e:q=911<;>simp [look,e] at h;subst e;subst h;exact ⟨911,_,rfl,by simp only [go_sem]<;>rfl,QO.refl _,rfl⟩) V91 rfl
theorem JTG (z:Nat)(a c d r:Bits)(e:Bool)(last o:Int)(hz:z≤16)(ha:a.length=z)(hc:c.length=3)(hd:d.length=18)(hl:0≤last∧last≤90000000)(hp:(1+JS a+JS c+JS d+e.toNat)%2≠0):QZ Tryz.prog Je 75 [.leaf (.ptr 911 0),.int last] [(911,.cells [.d (Q5 (Qi (List.replicate z false++true::(a++(c++(d++(e::r))))))),.d (.i o)])]:=by
 have h1:=Z1 ha
 have h2:=Z1 hc
 have h3:=Z1 hd
 have hb1:e.toNat≤1:=by cases e<;>decide
 have v1:=JBb a
 rw [ha] at v1
 have hpz:2^z≤2^16:=Nat.pow_le_pow_right (by omega) hz
 have v2:=JDl hc (m:=8) (by decide)
 have v3:=JDl hd (m:=262144) (by decide)
 have hpz2:2^z+QG a≤131072:=by omega
 generalize hq:2^z+QG a=q at hpz2
 have hgam:=JFA z a (c++(d++(e::r))) 0 hz ha (by omega)
 rw [hq] at hgam
 have hto:((0+1+((JS a:Nat):Int)+((JS c:Nat):Int)+((JS d:Nat):Int)+((e.toNat:Nat):Int)):Int)=((((1+JS a+JS c+JS d+e.toNat)):Nat):Int):=by omega
 have htm:(((((1+JS a+JS c+JS d+e.toNat)):Nat):Int)).tmod 2=((((1+JS a+JS c+JS d+e.toNat))%2:Nat):Int):=by rw [Int.tmod_eq_emod_of_nonneg (by omega)];omega
 have hev:(((((1+JS a+JS c+JS d+e.toNat)):Nat):Int).tmod 2==0)=false:=by rw [htm];simp;omega
 refine YG Jc Tryz.func75 rfl JDv JI rfl ?_
 refine JB.reg ?_
 have X:=(Fx.mk hto).a hev
 refine JA.o1 JC ?_
 refine JA.nil (JB.reg ?_)
 iterate 4 (refine JA.o1 JC ?_)
 refine JA.nil (JB.reg ?_)
 iterate 2 (refine JA.o1 JC ?_)
 refine JA.lendG [(911,911)] JD (hgam) JV (.inl ⟨[],by simp only [go_sem]<;>rfl,rfl⟩) JD Y7 rfl (by decide) YT Za YW YY JD ?_
 refine JA.o1 J4 ?_
 refine JA.o1 JC ?_
 refine JA.lendG [(911,911)] JD (JBN 3 c (d++(e::r)) (0+1+((JS a:Nat):Int)) hc (by omega) (by omega)) JV (.inl ⟨[],by simp only [go_sem]<;>rfl,rfl⟩) JD V9 rfl (by decide) YT Za YW YY JD ?_
 refine JA.o1 JC ?_
 refine JA.lendG [(911,911)] JD (JBN 18 d (e::r) (0+1+((JS a:Nat):Int)+((JS c:Nat):Int)) hd (by omega) (by omega)) JV (.inl ⟨[],by simp only [go_sem]<;>rfl,rfl⟩) JD V9 rfl (by decide) YT Za YW YY JD ?_
 iterate 2 (refine JA.o1 JC ?_)
 refine JA.nil (JB.reg ?_)
 refine JA.o1 JC ?_
 refine JA.lendG [(911,911)] JD (JAq e r (0+1+((JS a:Nat):Int)+((JS c:Nat):Int)+((JS d:Nat):Int)) (by omega)) JV (.inl ⟨[],by simp only [go_sem]<;>rfl,rfl⟩) JD Y7 rfl (by decide) YT Za YW YY JD ?_
 refine JA.nil ?_
 refine JB.pan (pv:=Je) 6 rfl ?_
 iterate 4 (refine JA.o1 JC ?_)
 refine JA.o1 J4 ?_
 refine JA.o1 JC ?_
 exact JA.panc (Ye false rfl) JV JC J6 rfl
end Go.Mw
namespace Go.Bk
def JEN (x:Pl)(last:Int):Prop:=(1≤x.num-last∧x.num-last≤131071)∧(0≤x.cls∧x.cls≤7)∧0≤x.day∧x.day≤262143
theorem JMZ {last:Int}{s r:Bits}{x:Pl}(h:JAW last s=some (x,r)):JEN x last:=by
 unfold JAW at h
 obtain ⟨⟨z,s1⟩,h1,h⟩:=Option.bind_eq_some_iff.1 h
 obtain ⟨⟨v,s2⟩,h2,h⟩:=Option.bind_eq_some_iff.1 h
 obtain ⟨⟨c,s3⟩,h3,h⟩:=Option.bind_eq_some_iff.1 h
 obtain ⟨⟨d,s4⟩,h4,h⟩:=Option.bind_eq_some_iff.1 h
 obtain ⟨⟨p,s5⟩,h5,h⟩:=Option.bind_eq_some_iff.1 h
 simp only at h2 h3 h4 h5 h
 split at h
 ·simp only [Option.some.injEq,Prod.mk.injEq] at h
  obtain ⟨rfl,_⟩:=h
  have k1:=(JHW _ _ _ _ h1).2
  have k2:=(JB4 h2).2
  have k3:=(JB4 h3).2
  have k4:=(JB4 h4).2
  have hp:2^z≤2^16:=Nat.pow_le_pow_right (by omega) k1
  have hq:=Nat.two_pow_pos z
  refine ⟨⟨?_,?_⟩,⟨?_,?_⟩,?_,?_⟩<;>simp only<;>omega
 ·cases h
theorem JNQ (t:Bits):JS (true::t)=1+JS t:=by rw [JS,JS,List.count_cons_self];omega
theorem JNo {x:Pl}{last:Int}(h:JEN x last)(r:Bits):∃(z:Nat) (a c d:Bits) (e:Bool),z≤16∧a.length=z∧c.length=3∧d.length=18∧Qc x last++r=List.replicate z false++true::(a++(c++(d++(e::r)))) ∧
  (1+JS a+JS c+JS d+e.toNat)%2=0∧last+((2^z+QG a:Nat):Int)=x.num∧((QG c:Nat):Int)=x.cls∧((QG d:Nat):Int)=x.day∧1+JS a+JS c+JS d+e.toNat=JS (Qc x last):=by
 obtain ⟨h1,h2,h3⟩:=h
 have hn:1≤(x.num-last).toNat:=by omega
 obtain ⟨b1,b2,b3⟩:=JA5 (x.num-last).toNat
 have bk:=JAi (n:=(x.num-last).toNat) (k:=17) (by omega) (by omega)
 have hv:2^(bl (x.num-last).toNat-1)+QG (JW (bl (x.num-last).toNat-1) (x.num-last).toNat)=(x.num-last).toNat:=by
  rw [←JHg,JAb _ _ (Nat.mod_lt _ (Nat.two_pow_pos _))]
  have hq:(x.num-last).toNat / 2^(bl (x.num-last).toNat-1)=1:=by
   have:=b3 hn
   have h4:(x.num-last).toNat<2*2^(bl (x.num-last).toNat-1):=by
    rw [Nat.mul_comm,←Nat.pow_succ,show (bl (x.num-last).toNat-1).succ=bl (x.num-last).toNat by omega];exact b2
   exact Nat.div_eq_of_lt_le (by omega) (by omega)
  have:=Nat.div_add_mod (x.num-last).toNat (2^(bl (x.num-last).toNat-1))
  rw [hq] at this;omega
 have ho:1+JS (JW (bl (x.num-last).toNat-1) (x.num-last).toNat)+JS (JW 3 x.cls.toNat)+JS (JW 18 x.day.toNat)+(YS (QJ x last)).toNat=JS (Qc x last):=by
  have hb:JS (QJ x last)=1+JS (JW (bl (x.num-last).toNat-1) (x.num-last).toNat)+JS (JW 3 x.cls.toNat)+JS (JW 18 x.day.toNat):=by
   unfold QJ
   rw [Y3,Y3,JFj hn,Y3,JJi,JNQ,Nat.zero_add,←Nat.add_assoc]
  unfold Qc
  rw [Y3,JBw,hb]
 refine ⟨bl (x.num-last).toNat-1,JW (bl (x.num-last).toNat-1) (x.num-last).toNat,JW 3 x.cls.toNat,JW 18 x.day.toNat,YS (QJ x last),by omega,Qk _ _,Qk _ _,Qk _ _,?_,?_,?_,?_,?_,ho⟩
 ·unfold Qc
  rw [show QJ x last++[YS (QJ x last)]++r=QJ x last++(YS (QJ x last)::r) by simp]
  generalize YS (QJ x last)::r=q
  unfold QJ
  rw [JFj hn];simp
 ·rw [ho];exact JJh _
 ·rw [hv];omega
 ·rw [JAb 3 _ (by omega)];omega
 ·rw [JAb 18 _ (by omega)];omega
attribute [local irreducible] JW Qb
def JDL:Int→List Pl→Prop
 |_,[]=>True
 |last,x::l=>JEN x last∧JDL x.num l
theorem JJu:∀(n:Nat) (last:Int) (s r:Bits) (l:List Pl),JAX n last s=some (l,r)→s=J8 last l++r∧l.length=n∧JDL last l
 |0,last,s,r,l,h=>by cases h;exact ⟨rfl,rfl,trivial⟩
 |n+1,last,s,r,l,h=>by
  unfold JAX at h
  obtain ⟨⟨x,s1⟩,h1,h⟩:=Option.bind_eq_some_iff.1 h
  obtain ⟨⟨l1,r1⟩,h2,h⟩:=Option.bind_eq_some_iff.1 h
  simp only [Option.some.injEq,Prod.mk.injEq] at h
  obtain ⟨rfl,rfl⟩:=h
  obtain ⟨e,hl,hc⟩:=JJu n x.num s1 r1 l1 h2
  exact ⟨by rw [JJt h1,e,J8,List.append_assoc],by simp [hl],JMZ h1,hc⟩
theorem JNq:∀(n:Nat) (last:Int) (s:Bits),JAX n last s=none→∃l s1,s=J8 last l++s1∧l.length<n∧JDL last l∧JAW (J1 last l) s1=none
 |0,last,s,h=>by cases h
 |n+1,last,s,h=>by
  unfold JAX at h
  cases h1:JAW last s with
  |none=>exact ⟨[],s,rfl,by simp,trivial,h1⟩
  |some p=>
   obtain ⟨x,s1⟩:=p
   rw [h1] at h
   simp only [Option.bind_some] at h
   cases h2:JAX n x.num s1 with
   |some q=>rw [h2] at h;cases h
   |none=>
    obtain ⟨l,t,e,hl,hc,hp⟩:=JNq n x.num s1 h2
    exact ⟨x::l,t,by rw [JJt h1,e,J8,List.append_assoc],by simp;omega,⟨JMZ h1,hc⟩,hp⟩
theorem JMt:∀(f:Nat) (s:Bits),gz f s=none→(∃z≤f,s=List.replicate z false)∨∃r,s=List.replicate (f+1) false++r
 |f,[],_=>.inl ⟨0,Nat.zero_le _,rfl⟩
 |f,true::s,h=>by
  have:gz f (true::s)=some (0,s):=by cases f<;>rfl
  rw [this] at h;cases h
 |0,false::s,_=>.inr ⟨s,rfl⟩
 |f+1,false::s,h=>by
  rw [gz,Option.map_eq_none_iff] at h
  rcases JMt f s h with ⟨z,hz,e⟩|⟨r,e⟩
  ·exact .inl ⟨z+1,by omega,by rw [e];rfl⟩
  ·exact .inr ⟨r,by rw [e];rfl⟩
theorem JGH {k:Nat}{s:Bits}(h:takeB k s=none):s.length<k:=by
 unfold takeB at h
 split at h
 ·assumption
 ·cases h
theorem JH1 {k n:Nat}{s r:Bits}(h:takeB k s=some (n,r)):∃a,a.length=k∧s=a++r∧n=QG a:=by
 unfold takeB at h
 split at h
 ·cases h
 ·next hl=>cases h;exact ⟨s.take k,by rw [List.length_take];omega,(List.take_append_drop k s).symm,rfl⟩
theorem JG4:∀(l:List Pl) (a:Int),JDL a l→0≤a→∀(k:Nat),k≤l.length→(0≤J1 a (l.take k)∧J1 a (l.take k)≤a+131071*k)∧∀x,l[k]? = some x→JEN x (J1 a (l.take k))∧J8 (J1 a (l.take k)) (l.drop k)=Qc x (J1 a (l.take k))++J8 x.num (l.drop (k+1))∧J1 a (l.take (k+1))=x.num
 |[],a,_,ha,k,_=>by simp [J1,ha];omega
 |y::l,a,hc,ha,0,_=>by
  refine ⟨by simp [J1,ha],fun x hx=>?_⟩
  simp at hx;subst hx
  exact ⟨hc.1,by simp [J8,J1],by simp [J1]⟩
 |y::l,a,hc,ha,k+1,hk=>by
  obtain ⟨⟨f1,f2⟩,_,_⟩:=hc.1
  obtain ⟨h1,h2⟩:=JG4 l y.num hc.2 (by omega) k (by simpa using hk)
  refine ⟨?_,fun x hx=>?_⟩
  ·rw [List.take_succ_cons,J1];omega
  ·obtain ⟨g1,g2,g3⟩:=h2 x (by simpa using hx)
   exact ⟨g1,g2,g3⟩
def Zp (a:Int)(l:List Pl)(o:Int):Nat→Int
 |0=>o
 |k+1=>match l[k]? with
  |some x=>((JS (Qc x (J1 a (l.take k))):Nat):Int)
  |none=>o
theorem JJf {a:Int}{l:List Pl}{o:Int}(ho:0≤o∧o≤100000)(hb:∀k x,l[k]? = some x→JEN x (J1 a (l.take k))):∀k,0≤Zp a l o k∧Zp a l o k≤100000
 |0=>ho
 |k+1=>by
  rw [Zp]
  cases hx:l[k]? with
  |none=>exact ho
  |some x=>
   obtain ⟨z,a',c,d,e,hz,ha,hc,hd,_,_,_,_,_,h⟩:=JNo (hb k x hx) []
   have h1:=JAT a'
   have h2:=JAT c
   have h3:=JAT d
   have h4:e.toNat≤1:=by cases e<;>decide
   show 0≤((JS (Qc x (J1 a (l.take k))):Nat):Int)∧((JS (Qc x (J1 a (l.take k))):Nat):Int)≤100000
   omega
end Go.Bk
namespace Go.Mw
open Go.Proofs
open Go.Bk
attribute [-go_sem] Q1
attribute [local go_sem] JCC JCL JCI JCK JCD JCJ JCH JCG JCF JCE
theorem JIZ {x:Pl}{last:Int}(r:Bits)(o:Int)(h:JEN x last)(hl:0≤last∧last≤90000000):Qr Tryz.prog 75 [.leaf (.ptr 911 0),.int last] [(911,.cells [.d (Q5 (Qi (Qc x last++r))),.d (.i o)])] (.ret (plV x) [(911,.cells [.d (Q5 (Qi r)),.d (.i ((JS (Qc x last):Nat):Int))])]):=by
 obtain ⟨z,a,c,d,e,hz,ha,hc,hd,e1,hp,e2,e3,e4,e5⟩:=JNo h r
 have:=JQq z a c d r e last o hz ha hc hd hl hp
 rw [e2,e3,e4,e5] at this
 rw [e1]
 exact this
theorem JTH {s:Bits}{last:Int}(o:Int)(hl:0≤last∧last≤90000000)(h:JAW last s=none):QZ Tryz.prog Je 75 [.leaf (.ptr 911 0),.int last] [(911,.cells [.d (Q5 (Qi s)),.d (.i o)])]:=by
 unfold JAW at h
 cases h1:gz 16 s with
 |none=>
  rcases JMt 16 s h1 with ⟨z,hz,e⟩|⟨r,e⟩
  ·subst e;exact JJo _ last o hl (JS6 z 0 hz (by omega))
  ·subst e;exact JJo _ last o hl (JS7 r 0 (by omega))
 |some p=>
  obtain ⟨z,s1⟩:=p
  obtain ⟨e1,hz⟩:=JHW _ _ _ _ h1
  rw [h1] at h
  simp only [Option.bind_some] at h
  cases h2:takeB z s1 with
  |none=>subst e1;exact JJo _ last o hl (JS8 z s1 0 hz (JGH h2) (by omega))
  |some q=>
   obtain ⟨v,s2⟩:=q
   obtain ⟨a,ha,e2,v1⟩:=JH1 h2
   rw [h2] at h
   simp only [Option.bind_some] at h
   cases h3:takeB 3 s2 with
   |none=>subst e1 e2;exact JTD z a s2 last o hz ha (JGH h3) hl
   |some q=>
    obtain ⟨v',s3⟩:=q
    obtain ⟨c,hc,e3,v2⟩:=JH1 h3
    rw [h3] at h
    simp only [Option.bind_some] at h
    cases h4:takeB 18 s3 with
    |none=>subst e1 e2 e3;exact JTE z a c s3 last o hz ha hc (JGH h4) hl
    |some q=>
     obtain ⟨v'',s4⟩:=q
     obtain ⟨d,hd,e4,v3⟩:=JH1 h4
     rw [h4] at h
     simp only [Option.bind_some] at h
     cases h5:takeB 1 s4 with
     |none=>
      have:s4=[]:=List.eq_nil_of_length_eq_zero (by have:=JGH h5;omega)
      subst e1 e2 e3 e4 this
      exact JTF z a c d last o hz ha hc hd hl
     |some q=>
      obtain ⟨v4,r⟩:=q
      obtain ⟨u,hu,e5,v5⟩:=JH1 h5
      obtain ⟨e,rfl⟩:∃e,u=[e]:=List.length_eq_one_iff.1 hu
      rw [h5] at h
      simp only [Option.bind_some] at h
      have hs:s.take (s.length-r.length)=List.replicate z false++true::(a++(c++(d++[e]))):=by
       have:s=(List.replicate z false++true::(a++(c++(d++[e]))))++r:=by rw [e1,e2,e3,e4,e5];simp
       rw [this,List.length_append,Nat.add_sub_cancel,List.take_left]
      have ho:JS (s.take (s.length-r.length))=1+JS a+JS c+JS d+e.toNat:=by
       rw [hs,Y3,JJi,JNQ,Y3,Y3,Y3,JBw];omega
      rw [ho] at h
      split at h
      ·cases h
      ·next hp=>
       subst e1 e2 e3 e4 e5
       exact JTG z a c d r e last o hz ha hc hd hl hp
theorem JHU (a:Int):J8 a []=[]:=by rw [J8]
theorem JM1 (a:Int):J1 a []=a:=by rw [J1]
theorem JSv (a:Int)(l:List Pl)(o:Int):Zp a l o 0=o:=by rw [Zp]
theorem JRI (b:Bs)(hb:b.length≤1000000)(n:Nat)(l:List Pl)(r:Bits)(hu:QY b=JW 8 n++(J8 0 l++r))(hn:n<256)(hln:l.length=n)(hc:JDL 0 l)(h8:r.length<8)(hpe:Yo l=0)(ho:JS r=0):Qr Tryz.prog 72 [.leaf (.d (.pt [JAj b]))] [] (.ret (.leaf (.d (JAK l))) []):=by
 have hnf:=JGy b hb
 rw [hu] at hnf
 have hv8:QG (JW 8 n)=n:=JAb 8 n (by omega)
 have hn8:=Qk 8 n
 have ho8:=JAT (JW 8 n)
 rw [hn8] at ho8
 have hca:=JG4 l 0 hc (by omega)
 have hob:=JJf (a:=0) (l:=l) (o:=(0+((JS (JW 8 n):Nat):Int))) (by omega) (fun k x hx=>((hca k (Nat.le_of_lt (List.getElem?_eq_some_iff.1 hx).1)).2 x hx).1)
 refine Js Jc Tryz.func72 rfl JGT JI rfl ?_
 refine JB.reg ?_
 have X:=Fx.mk hv8
 refine JA.o1 JC ?_
 refine JA.nil (JB.reg ?_)
 refine JA.o1 JC ?_
 refine JA.cal (hnf) JV JC J6 (fr1 JD) JC ?_
 refine JA.o1 JC ?_
 refine JA.nil (JB.reg ?_)
 refine JA.o1 JC ?_
 refine JA.nil (JB.assocS (JB.reg ?_))
 refine JA.nilo 1 1000 70 3 JD JD (by omega) (by omega) JD ?_
 refine JA.o1 JC ?_
 refine JA.lendG [(911,7006)] JD (JBN 8 (JW 8 n) (J8 0 l++r) 0 hn8 (by omega) (by omega)) JV (.inl ⟨[],by simp only [go_sem]<;>rfl,rfl⟩) JD V9 rfl (by decide) YT Za YW YY JD ?_
 refine JA.o1 JC ?_
 refine JA.nil (JB.blk ?_)
 refine JB.forA [1,2,3,8,9] [7006,1000] (l.length) (fun k=>[.slot 3 (.int (J1 0 (l.take k))),.slot 9 (.int k),.slot 1 (.leaf (.own 1000 0 k k)),.obj 7006 (.cells [.d (Q5 (Qi (J8 (J1 0 (l.take k)) (l.drop k)++r))),.d (.i (Zp 0 l (0+((JS (JW 8 n):Nat):Int)) k))]),.obj 1000 (.arr 70 3 ((l.take k).map JAR))]) (fun _=>True) (fun k=>by simp only [go_sem]<;>rfl) V82 ?_ (fun k hk hX=>?_)
 ·trivial
 ·skip
  refine JB.reg ?_
  refine JA.o1 JC ?_
  refine JA.nil ?_
  refine JB.cndS JC (fun hb10=>?_) (fun hb10=>?_)
  ·skip
   have hlt:=(show k<l.length by have:=of_decide_eq_true hb10;omega)
   obtain ⟨x,hx⟩:∃x,l[k]? = some x:=⟨_,List.getElem?_eq_getElem (by omega)⟩
   obtain ⟨hlp,hcx⟩:=hca k (by omega)
   obtain ⟨g1,g2,g3⟩:=hcx x hx
   have hok:Zp 0 l (0+((JS (JW 8 n):Nat):Int)) (k+1)=((JS (Qc x (J1 0 (l.take k))):Nat):Int):=by rw [Zp,hx]
   have htl:(l.take k).length=k:=by rw [List.length_take];omega
   have hts:=Zs hx
   have hkb:=hob k
   refine JB.skipS (JB.blk (JB.reg ?_))
   have X:=((X.a g3).a hok).a htl
   iterate 2 (refine JA.o1 JC ?_)
   have X:=Fx.mk g2
   refine JA.lendG [(911,7006)] JD (JIZ (J8 x.num (l.drop (k+1))++r) (Zp 0 l (0+((JS (JW 8 n):Nat):Int)) k) g1 (by omega)) JV (.inl ⟨[],by simp only [go_sem]<;>rfl,rfl⟩) JDx V9 rfl (by decide) YT V50 YW YY JDx ?_
   have X:=(((Fx.mk hv8).a g3).a hok).a htl
   iterate 2 (refine JA.o1 JC ?_)
   refine JA.nil ?_
   refine JB.opk1 10 ?_
   iterate 3 (refine JF.o1 JC ?_)
   refine JF.o1 V8 ?_
   iterate 4 (refine JF.o1 JC ?_)
   refine JF.nil (Qs.fin QB QB ?_)
   refine JY.nrm (JB.reg1 ?_)
   refine JA.o1 J4 ?_
   refine JA.o1 JC ?_
   refine JA.nil ?_
   refine Jb.nxt ?_ ?_ ?_
   ·omega
   ·exact JO.kp [1,2,3,8,9] [7006,1000] V19
   ·trivial
  ·skip
   have hke:k=l.length:=by have:=of_decide_eq_false hb10;omega
   subst hke
   have htk:l.take l.length=l:=List.take_of_length_le (by omega)
   have hdk:l.drop l.length=[]:=List.drop_eq_nil_of_le (by omega)
   have hta:List.take l.length (List.map JAR l)=List.map JAR l:=List.take_of_length_le (by simp)
   have hir:=JCq r
   have gn:=JHU
   have hl8:decide ((r.length:Int)<8)=true:=decide_eq_true (by omega)
   have h00:((0:Int)==0)=true:=rfl
   refine JB.exitS (Jb.ext (JY.hit (JB.reg ?_)))
   have X:=Fx.mk hta
   refine JA.frz 1000 JC ?_
   have X:=(((((((Fx.mk htk).a hdk).a gn).a hta).a hir).a hl8).a hpe).a h00
   iterate 7 (refine JA.o1 YB ?_)
   refine JA.y1 YB ?_
   refine JA.calw JD (JG0 l (by omega)) JV YB YB J6 (Qm) YB ?_
   refine JA.y1 YB ?_
   refine JA.o1 YB ?_
   refine JA.c1 (Qv true rfl) YB YB ?_
   refine JA.nil (JB.reg ?_)
   iterate 4 (refine JA.o1 YB ?_)
   refine JA.nil (JB.blk ?_)
   refine JB.forA [1,2] [7006] (r.length) (fun j=>[.obj 7006 (.cells [.d (Q5 (Qi (r.drop j))),.d (.i ((JS (r.take j):Nat):Int))])]) (fun _=>True) (fun j=>by simp only [go_sem]<;>rfl) V79 ?_ (fun j hj Xj=>?_)
   ·trivial
   ·skip
    refine JB.assocS (JB.reg ?_)
    iterate 6 (refine JA.o1 YB ?_)
    refine JA.nil ?_
    refine JB.cndS YB (fun hb41=>?_) (fun hb41=>?_)
    ·skip
     have hbl:=JCq (r.drop j)
     rw [List.length_drop] at hbl
     have hjl:j<r.length:=by have:=of_decide_eq_true hb41;omega
     obtain ⟨e,he⟩:∃e,r[j]? = some e:=⟨_,List.getElem?_eq_getElem (by omega)⟩
     have hdk:r.drop j=e::r.drop (j+1):=JFG he
     have htk2:JS (r.take (j+1))=JS (r.take j)+e.toNat:=by rw [Zs he,Y3,JBw]
     have hoj:=JFx r j
     refine JB.skipS (JB.blk1 (JB.reg1 ?_))
     refine JA.o1 YB ?_
     have X:=Fx.mk hdk
     refine JA.lendG [(911,7006)] JD (JAq e (r.drop (j+1)) ((JS (r.take j):Nat):Int) (by omega)) JV (.inl ⟨[],by simp only [go_sem]<;>rfl,rfl⟩) JC Y7 rfl (by decide) YT V58 YW YY JC ?_
     refine JA.nil (Yi.nrm ?_)
     refine Jb.nxt ?_ ?_ ?_
     ·omega
     ·exact JO.kp [1,2] [7006] (by simp only [go_sem,htk,hdk,gn,List.nil_append,hta,hir,hl8,hpe,h00,List.length_map]<;>first|((repeat' (first|with_reducible_and_instances rfl|refine Q8 ?_ ?_ ?_|refine Q7 ?_|refine YN ?_|refine Q9 ?_ ?_|refine Q2 ?_|refine Q3 ?_|refine YO ?_|refine Q6 ?_ ?_|refine YK ?_ ?_|refine YM ?_|refine YH ?_|(refine Q4 ?_;omega)));all_goals (first|omega|(rw [htk2];omega)))|rfl)
     ·trivial
    ·skip
     have hbl:=JCq (r.drop j)
     rw [List.length_drop] at hbl
     have hje:j=r.length:=by have:=of_decide_eq_false hb41;omega
     have hrt:r.take j=r:=List.take_of_length_le (by omega)
     refine JB.exitS (Jb.ext (JY.hit (JB.reg ?_)))
     have X:=(X.a hrt).a ho
     iterate 5 (refine JA.o1 V94 ?_)
     refine JA.c1 (Qv true rfl) V94 V94 ?_
     refine JA.nil (JB.reg ?_)
     iterate 2 (refine JA.o1 V94 ?_)
     refine JA.nil ?_
     exact Ends.fin [] (rs:=[.tmp 1]) rfl V94 (by simp only [go_sem,X.h,List.nil_append,List.length_map,Int.natCast_zero]<;>first|rfl|exact Ql)
theorem JTW (b:Bs)(hb:b.length≤1000000)(hu:(QY b).length<8):QZ Tryz.prog Je 72 [.leaf (.d (.pt [JAj b]))] []:=by
 refine YG Jc Tryz.func72 rfl JGT JI rfl ?_
 refine JB.reg ?_
 refine JA.o ?_
 refine JA.nil (JB.reg ?_)
 refine JA.o ?_
 refine JA.cal (JGy b hb) JV JD J6 (fr1 JD) JD ?_
 refine JA.o ?_
 refine JA.nil (JB.reg ?_)
 refine JA.o ?_
 refine JA.nil (JB.assocS ?_)
 refine JB.pan (pv:=Je) 1 rfl ?_
 refine JA.o ?_
 exact JA.pang [(911,7006)] 0 (JHi 8 (QY b) 0 hu (by omega) (by omega)) JV JD JD V35 (fun q x h=>by by_cases e:q=911<;>simp [look,e] at h;subst e;subst h;exact ⟨7006,_,rfl,by simp only [go_sem]<;>rfl,QO.refl _,rfl⟩) V91 rfl
theorem JTX (b:Bs)(hb:b.length≤1000000)(n:Nat)(l:List Pl)(r:Bits)(hu:QY b=JW 8 n++(J8 0 l++r))(hn:n<256)(hln:l.length<n)(hc:JDL 0 l)(hp:JAW (J1 0 l) r=none):QZ Tryz.prog Je 72 [.leaf (.d (.pt [JAj b]))] []:=by
 have hnf:=JGy b hb
 rw [hu] at hnf
 have hv8:QG (JW 8 n)=n:=JAb 8 n (by omega)
 have hn8:=Qk 8 n
 have ho8:=JAT (JW 8 n)
 rw [hn8] at ho8
 have hca:=JG4 l 0 hc (by omega)
 have hob:=JJf (a:=0) (l:=l) (o:=(0+((JS (JW 8 n):Nat):Int))) (by omega) (fun k x hx=>((hca k (Nat.le_of_lt (List.getElem?_eq_some_iff.1 hx).1)).2 x hx).1)
 refine YG Jc Tryz.func72 rfl JGT JI rfl ?_
 refine JB.reg ?_
 have X:=Fx.mk hv8
 refine JA.o1 JC ?_
 refine JA.nil (JB.reg ?_)
 refine JA.o1 JC ?_
 refine JA.cal (hnf) JV JC J6 (fr1 JD) JC ?_
 refine JA.o1 JC ?_
 refine JA.nil (JB.reg ?_)
 refine JA.o1 JC ?_
 refine JA.nil (JB.assocS (JB.reg ?_))
 refine JA.nilo 1 1000 70 3 JD JD (by omega) (by omega) JD ?_
 refine JA.o1 JC ?_
 refine JA.lendG [(911,7006)] JD (JBN 8 (JW 8 n) (J8 0 l++r) 0 hn8 (by omega) (by omega)) JV (.inl ⟨[],by simp only [go_sem]<;>rfl,rfl⟩) JD V9 rfl (by decide) YT Za YW YY JD ?_
 refine JA.o1 JC ?_
 refine JA.nil (JB.blk ?_)
 refine JB.forA [1,2,3,8,9] [7006,1000] (l.length) (fun k=>[.slot 3 (.int (J1 0 (l.take k))),.slot 9 (.int k),.slot 1 (.leaf (.own 1000 0 k k)),.obj 7006 (.cells [.d (Q5 (Qi (J8 (J1 0 (l.take k)) (l.drop k)++r))),.d (.i (Zp 0 l (0+((JS (JW 8 n):Nat):Int)) k))]),.obj 1000 (.arr 70 3 ((l.take k).map JAR))]) (fun _=>True) (fun k=>by simp only [go_sem]<;>rfl) V82 ?_ (fun k hk hX=>?_)
 ·trivial
 ·skip
  refine JB.reg ?_
  refine JA.o1 JC ?_
  refine JA.nil ?_
  refine JB.cndS JC (fun hb10=>?_) (fun hb10=>?_)
  ·skip
   have hkn:k<n:=by have:=of_decide_eq_true hb10;omega
   refine JB.skipS (JB.blk ?_)
   by_cases hk2:k<l.length
   ·skip
    have hlt:=hk2
    obtain ⟨x,hx⟩:∃x,l[k]? = some x:=⟨_,List.getElem?_eq_getElem (by omega)⟩
    obtain ⟨hlp,hcx⟩:=hca k (by omega)
    obtain ⟨g1,g2,g3⟩:=hcx x hx
    have hok:Zp 0 l (0+((JS (JW 8 n):Nat):Int)) (k+1)=((JS (Qc x (J1 0 (l.take k))):Nat):Int):=by rw [Zp,hx]
    have htl:(l.take k).length=k:=by rw [List.length_take];omega
    have hts:=Zs hx
    have hkb:=hob k
    refine JB.reg ?_
    have X:=((X.a g3).a hok).a htl
    iterate 2 (refine JA.o1 JC ?_)
    have X:=Fx.mk g2
    refine JA.lendG [(911,7006)] JD (JIZ (J8 x.num (l.drop (k+1))++r) (Zp 0 l (0+((JS (JW 8 n):Nat):Int)) k) g1 (by omega)) JV (.inl ⟨[],by simp only [go_sem]<;>rfl,rfl⟩) JDx V9 rfl (by decide) YT V50 YW YY JDx ?_
    have X:=(((Fx.mk hv8).a g3).a hok).a htl
    iterate 2 (refine JA.o1 JC ?_)
    refine JA.nil ?_
    refine JB.opk1 10 ?_
    iterate 3 (refine JF.o1 JC ?_)
    refine JF.o1 V8 ?_
    iterate 4 (refine JF.o1 JC ?_)
    refine JF.nil (Qs.fin QB QB ?_)
    refine JY.nrm (JB.reg1 ?_)
    refine JA.o1 J4 ?_
    refine JA.o1 JC ?_
    refine JA.nil ?_
    refine Jb.nxt ?_ ?_ ?_
    ·omega
    ·exact JO.kp [1,2,3,8,9] [7006,1000] V19
    ·trivial
   ·skip
    have hke:k=l.length:=by omega
    subst hke
    have htk:l.take l.length=l:=List.take_of_length_le (by omega)
    have hdk:l.drop l.length=[]:=List.drop_eq_nil_of_le (by omega)
    have gn:=JHU
    obtain ⟨hlp,_⟩:=hca l.length (by omega)
    rw [htk] at hlp
    refine JB.pan (pv:=Je) 2 rfl ?_
    have X:=((Fx.mk htk).a hdk).a gn
    iterate 2 (refine JA.o1 (by simp only [go_sem,X.h,List.nil_append]<;>rfl) ?_)
    have X:=((Fx.mk hdk).a gn).a htk
    exact JA.pang [(911,7006)] 0 (JTH (Zp 0 l (0+((JS (JW 8 n):Nat):Int)) l.length) (by omega) hp) JV JD (by simp only [go_sem,X.h,List.nil_append,Int.zero_add]<;>rfl) V35 (fun q x h=>by by_cases e:q=911<;>simp [look,e] at h;subst e;subst h;exact ⟨7006,_,rfl,by simp only [go_sem,X.h,List.nil_append,Int.zero_add]<;>rfl,QO.refl _,rfl⟩) V91 rfl
  ·skip
   exact absurd (of_decide_eq_false hb10) (by omega)
theorem JTY (b:Bs)(hb:b.length≤1000000)(n:Nat)(l:List Pl)(r:Bits)(hu:QY b=JW 8 n++(J8 0 l++r))(hn:n<256)(hln:l.length=n)(hc:JDL 0 l)(hbad:¬(r.length<8∧Yo l=0∧JS r=0)):QZ Tryz.prog Je 72 [.leaf (.d (.pt [JAj b]))] []:=by
 have hnf:=JGy b hb
 rw [hu] at hnf
 have hv8:QG (JW 8 n)=n:=JAb 8 n (by omega)
 have hn8:=Qk 8 n
 have ho8:=JAT (JW 8 n)
 rw [hn8] at ho8
 have hca:=JG4 l 0 hc (by omega)
 have hob:=JJf (a:=0) (l:=l) (o:=(0+((JS (JW 8 n):Nat):Int))) (by omega) (fun k x hx=>((hca k (Nat.le_of_lt (List.getElem?_eq_some_iff.1 hx).1)).2 x hx).1)
 refine YG Jc Tryz.func72 rfl JGT JI rfl ?_
 refine JB.reg ?_
 have X:=Fx.mk hv8
 refine JA.o1 JC ?_
 refine JA.nil (JB.reg ?_)
 refine JA.o1 JC ?_
 refine JA.cal (hnf) JV JC J6 (fr1 JD) JC ?_
 refine JA.o1 JC ?_
 refine JA.nil (JB.reg ?_)
 refine JA.o1 JC ?_
 refine JA.nil (JB.assocS (JB.reg ?_))
 refine JA.nilo 1 1000 70 3 JD JD (by omega) (by omega) JD ?_
 refine JA.o1 JC ?_
 refine JA.lendG [(911,7006)] JD (JBN 8 (JW 8 n) (J8 0 l++r) 0 hn8 (by omega) (by omega)) JV (.inl ⟨[],by simp only [go_sem]<;>rfl,rfl⟩) JD V9 rfl (by decide) YT Za YW YY JD ?_
 refine JA.o1 JC ?_
 refine JA.nil (JB.blk ?_)
 refine JB.forA [1,2,3,8,9] [7006,1000] (l.length) (fun k=>[.slot 3 (.int (J1 0 (l.take k))),.slot 9 (.int k),.slot 1 (.leaf (.own 1000 0 k k)),.obj 7006 (.cells [.d (Q5 (Qi (J8 (J1 0 (l.take k)) (l.drop k)++r))),.d (.i (Zp 0 l (0+((JS (JW 8 n):Nat):Int)) k))]),.obj 1000 (.arr 70 3 ((l.take k).map JAR))]) (fun _=>True) (fun k=>by simp only [go_sem]<;>rfl) V82 ?_ (fun k hk hX=>?_)
 ·trivial
 ·skip
  refine JB.reg ?_
  refine JA.o1 JC ?_
  refine JA.nil ?_
  refine JB.cndS JC (fun hb10=>?_) (fun hb10=>?_)
  ·skip
   have hlt:=(show k<l.length by have:=of_decide_eq_true hb10;omega)
   obtain ⟨x,hx⟩:∃x,l[k]? = some x:=⟨_,List.getElem?_eq_getElem (by omega)⟩
   obtain ⟨hlp,hcx⟩:=hca k (by omega)
   obtain ⟨g1,g2,g3⟩:=hcx x hx
   have hok:Zp 0 l (0+((JS (JW 8 n):Nat):Int)) (k+1)=((JS (Qc x (J1 0 (l.take k))):Nat):Int):=by rw [Zp,hx]
   have htl:(l.take k).length=k:=by rw [List.length_take];omega
   have hts:=Zs hx
   have hkb:=hob k
   refine JB.skipS (JB.blk (JB.reg ?_))
   have X:=((X.a g3).a hok).a htl
   iterate 2 (refine JA.o1 JC ?_)
   have X:=Fx.mk g2
   refine JA.lendG [(911,7006)] JD (JIZ (J8 x.num (l.drop (k+1))++r) (Zp 0 l (0+((JS (JW 8 n):Nat):Int)) k) g1 (by omega)) JV (.inl ⟨[],by simp only [go_sem]<;>rfl,rfl⟩) JDx V9 rfl (by decide) YT V50 YW YY JDx ?_
   have X:=(((Fx.mk hv8).a g3).a hok).a htl
   iterate 2 (refine JA.o1 JC ?_)
   refine JA.nil ?_
   refine JB.opk1 10 ?_
   iterate 3 (refine JF.o1 JC ?_)
   refine JF.o1 V8 ?_
   iterate 4 (refine JF.o1 JC ?_)
   refine JF.nil (Qs.fin QB QB ?_)
   refine JY.nrm (JB.reg1 ?_)
   refine JA.o1 J4 ?_
   refine JA.o1 JC ?_
   refine JA.nil ?_
   refine Jb.nxt ?_ ?_ ?_
   ·omega
   ·exact JO.kp [1,2,3,8,9] [7006,1000] V19
   ·trivial
  ·skip
   have hke:k=l.length:=by have:=of_decide_eq_false hb10;omega
   subst hke
   have htk:l.take l.length=l:=List.take_of_length_le (by omega)
   have hdk:l.drop l.length=[]:=List.drop_eq_nil_of_le (by omega)
   have hta:List.take l.length (List.map JAR l)=List.map JAR l:=List.take_of_length_le (by simp)
   have hir:=JCq r
   have gn:=JHU
   have h00:((0:Int)==0)=true:=rfl
   refine JB.exitS (Jb.ext (JY.hit ?_))
   by_cases h8:r.length<8
   ·skip
    have hl8:decide ((r.length:Int)<8)=true:=decide_eq_true (by omega)
    by_cases hpe:Yo l=0
    ·skip
     have ho:JS r≠0:=fun e=>hbad ⟨h8,hpe,e⟩
     refine JB.reg ?_
     have X:=Fx.mk hta
     refine JA.frz 1000 JC ?_
     have X:=(((((((Fx.mk htk).a hdk).a gn).a hta).a hir).a h00).a hl8).a hpe
     iterate 7 (refine JA.o1 YB ?_)
     refine JA.y1 YB ?_
     refine JA.calw JD (JG0 l (by omega)) JV YB YB J6 (Qm) YB ?_
     refine JA.y1 YB ?_
     refine JA.o1 YB ?_
     refine JA.c1 (Qv true rfl) YB YB ?_
     refine JA.nil (JB.reg ?_)
     iterate 4 (refine JA.o1 YB ?_)
     refine JA.nil (JB.blk ?_)
     refine JB.forA [1,2] [7006] (r.length) (fun j=>[.obj 7006 (.cells [.d (Q5 (Qi (r.drop j))),.d (.i ((JS (r.take j):Nat):Int))])]) (fun _=>True) (fun j=>by simp only [go_sem]<;>rfl) V79 ?_ (fun j hj Xj=>?_)
     ·trivial
     ·skip
      refine JB.assocS (JB.reg ?_)
      iterate 6 (refine JA.o1 YB ?_)
      refine JA.nil ?_
      refine JB.cndS YB (fun hb41=>?_) (fun hb41=>?_)
      ·skip
       have hbl:=JCq (r.drop j)
       rw [List.length_drop] at hbl
       have hjl:j<r.length:=by have:=of_decide_eq_true hb41;omega
       obtain ⟨e,he⟩:∃e,r[j]? = some e:=⟨_,List.getElem?_eq_getElem (by omega)⟩
       have hdk:r.drop j=e::r.drop (j+1):=JFG he
       have htk2:JS (r.take (j+1))=JS (r.take j)+e.toNat:=by rw [Zs he,Y3,JBw]
       have hoj:=JFx r j
       refine JB.skipS (JB.blk1 (JB.reg1 ?_))
       refine JA.o1 YB ?_
       have X:=Fx.mk hdk
       refine JA.lendG [(911,7006)] JD (JAq e (r.drop (j+1)) ((JS (r.take j):Nat):Int) (by omega)) JV (.inl ⟨[],by simp only [go_sem]<;>rfl,rfl⟩) JC Y7 rfl (by decide) YT V58 YW YY JC ?_
       refine JA.nil (Yi.nrm ?_)
       refine Jb.nxt ?_ ?_ ?_
       ·omega
       ·exact JO.kp [1,2] [7006] (by simp only [go_sem,htk,hdk,gn,List.nil_append,hta,hir,h00,List.length_map,hl8,hpe]<;>first|((repeat' (first|with_reducible_and_instances rfl|refine Q8 ?_ ?_ ?_|refine Q7 ?_|refine YN ?_|refine Q9 ?_ ?_|refine Q2 ?_|refine Q3 ?_|refine YO ?_|refine Q6 ?_ ?_|refine YK ?_ ?_|refine YM ?_|refine YH ?_|(refine Q4 ?_;omega)));all_goals (first|omega|(rw [htk2];omega)))|rfl)
       ·trivial
      ·skip
       have hbl:=JCq (r.drop j)
       rw [List.length_drop] at hbl
       have hje:j=r.length:=by have:=of_decide_eq_false hb41;omega
       have hrt:r.take j=r:=List.take_of_length_le (by omega)
       have hof:(((JS r:Nat):Int)==0)=false:=by simp;omega
       refine JB.exitS (Jb.ext (JY.hit ?_))
       refine JB.pan (pv:=Je) 5 rfl ?_
       have X:=(X.a hrt).a hof
       iterate 5 (refine JA.o1 YB ?_)
       exact JA.panc (Ye false rfl) JV YB J6 rfl
    ·skip
     have hpf:(Yo l==0)=false:=by simpa using hpe
     refine JB.pan (pv:=Je) 11 rfl ?_
     have X:=Fx.mk hta
     refine JA.frz 1000 JC ?_
     have X:=(((((((Fx.mk htk).a hdk).a gn).a hta).a hir).a h00).a hl8).a hpf
     iterate 7 (refine JA.o1 YB ?_)
     refine JA.y1 YB ?_
     refine JA.calw JD (JG0 l (by omega)) JV YB YB J6 (Qm) YB ?_
     refine JA.y1 YB ?_
     refine JA.o1 YB ?_
     exact JA.panc (Ye false rfl) JV YB J6 rfl
   ·skip
    have hl8:decide ((r.length:Int)<8)=false:=decide_eq_false (by omega)
    refine JB.pan (pv:=Je) 11 rfl ?_
    have X:=Fx.mk hta
    refine JA.frz 1000 JC ?_
    have X:=((((((Fx.mk htk).a hdk).a gn).a hta).a hir).a h00).a hl8
    iterate 7 (refine JA.o1 YB ?_)
    iterate 3 (refine JA.s ?_)
    refine JA.o1 YB ?_
    exact JA.panc (Ye false rfl) JV YB J6 rfl
end Go.Mw
namespace Go.Mw
open Go.Proofs Go.Bk
theorem JRG {b:Bs}{l:List Pl}(hb:b.length≤1000000)(h:Zg b=some l):Qr Tryz.prog 72 [.leaf (.d (.pt [JAj b]))] [] (.ret (.leaf (.d (JAK l))) []):=by
 unfold Zg at h
 obtain ⟨⟨n,s⟩,h1,h⟩:=Option.bind_eq_some_iff.1 h
 obtain ⟨⟨l',r⟩,h2,h⟩:=Option.bind_eq_some_iff.1 h
 simp only at h2 h
 split at h
 ·next hc=>
  cases h
  obtain ⟨e1,hn⟩:=JB4 h1
  obtain ⟨e2,hl,hw⟩:=JJu _ _ _ _ _ h2
  exact JRI b hb n l r (by rw [e1,e2]) hn hl hw hc.1 hc.2.1 hc.2.2
 ·cases h
theorem JTV {b:Bs}(hb:b.length≤1000000)(h:Zg b=none):QZ Tryz.prog Je 72 [.leaf (.d (.pt [JAj b]))] []:=by
 unfold Zg at h
 cases h1:takeB 8 (QY b) with
 |none=>exact JTW b hb (JGH h1)
 |some p=>
  obtain ⟨n,s⟩:=p
  obtain ⟨e1,hn⟩:=JB4 h1
  rw [h1] at h
  simp only [Option.bind_some] at h
  cases h2:JAX n 0 s with
  |none=>
   obtain ⟨l,r,e2,hl,hw,hp⟩:=JNq _ _ _ h2
   exact JTX b hb n l r (by rw [e1,e2]) hn hl hw hp
  |some q=>
   obtain ⟨l,r⟩:=q
   obtain ⟨e2,hl,hw⟩:=JJu _ _ _ _ _ h2
   rw [h2] at h
   simp only [Option.bind_some] at h
   have hu:QY b=JW 8 n++(J8 0 l++r):=by rw [e1,e2]
   refine JTY b hb n l r hu hn hl hw fun hc=>?_
   rw [if_pos hc] at h;cases h
end Go.Mw
namespace Go.Mw
open Go.Proofs Go.RowKit
theorem JOz (a b v:Value):#[a,b]++(((Array.replicate 16 undef).setIfInBounds 3 v).setIfInBounds 0 v)=#[a,b,v,undef,undef,v,undef,undef,undef,undef,undef,undef,undef,undef,undef,undef,undef,undef]:=by kernel_rfl
theorem JSe (p q:Addr)(w:World):CallsD Tryz.prog 125 #[.pointer (some p),.pointer (some q)] .returning w fun e u' w'=>e=.returned (.tuple #[])∧u'=.returning∧w'=w:=by
 refine callsD_of_wpS Tryz.func125 rfl fun c₀ cs hu=>?_
 apply wpS_seq
 apply wpS_region
 simp [wpOpsS,go_sem,recoverD,hu,Tryz.ntmps125,Exit.thenS]
 rw [JOz]
 refine wpS_of_wp ?_
 have hnil:∀w:World,(binOp BinOp.neq 20 .nilIface .nilIface).run Tryz.prog w=.ok (.bool false) w:=fun _=>by kernel_rfl
 have heg:∀w:World,(eqGuard BinOp.neq 20 (Operand.tmp 6) (Operand.const .nilIface) .nilIface .nilIface).run Tryz.prog w=.ok () w:=fun _=>by kernel_rfl
 go_wp2
 cases c₀
 simp_all [bodyPostS,results,Tryz.results125,Exit.thenS]
theorem JWh (p q:Nat)(w:World){cp cq:Value}{tp tq:TypeId}(hp:w.heap[p]? = some (.cells #[cp] tp (0,0)))(hq:w.heap[q]? = some (.cells #[cq] tq (0,0)))(hpq:p≠q) :
  CallsD Tryz.prog 125 #[.pointer (some ⟨p,0,none⟩),.pointer (some ⟨q,0,none⟩)] (.panicking [{ v:=Je,recovered:=false }]) w fun e u' w'=>e=.returned (.tuple #[])∧u'=.panicking [{ v:=Je,recovered:=true }] ∧
   w'=(((w.setCell ⟨p,0,none⟩ (.slice none 0 0)).setCell ⟨q,0,none⟩ (.int .i64 8)).alloc (.cells #[.int .i64 8] 172)).drew:=by
 have mixed:=JHe
 refine callsD_of_wpS Tryz.func125 rfl fun c₀ cs hu=>?_
 apply wpS_seq
 apply wpS_region
 simp [wpOpsS,go_sem,recoverD,hu,Tryz.ntmps125,Exit.thenS]
 rw [JOz]
 refine wpS_of_wp ?_
 have hnil:∀w:World,(binOp BinOp.neq 20 Je .nilIface).run Tryz.prog w=.ok (.bool true) w:=fun _=>by kernel_rfl
 have hta:∀w:World,(Instr.typeAssert Je 20 172 true).run Tryz.prog w=.ok (.tuple #[.agg #[.int .i64 8],.bool true]) w:=fun _=>by kernel_rfl
 have heg:∀w:World,(eqGuard BinOp.neq 20 (Operand.tmp 6) (Operand.const .nilIface) Je .nilIface).run Tryz.prog w=.ok () w:=fun _=>by kernel_rfl
 generalize hv:Je=v at hnil hta heg ⊢
 have hlp:=(Array.getElem?_eq_some_iff.1 hp).1
 have hlq:=(Array.getElem?_eq_some_iff.1 hq).1
 have hpa:∀o,(w.alloc o).drew.heap[p]? = some (.cells #[cp] tp (0,0)):=fun o=>(Below.heap_alloc w o p hlp).trans hp
 have hqa:∀o,(w.alloc o).drew.heap[q]? = some (.cells #[cq] tq (0,0)):=fun o=>(Below.heap_alloc w o q hlq).trans hq
 have hna:∀o,(w.alloc o).drew.heap[w.heap.size]? = some o:=fun o=>heap_alloc_new w o
 have cpa:∀o,(w.alloc o).drew.cell? ⟨p,0,none⟩=some cp:=fun o=>by rw [Lib.cell_of_heap (hpa o)];rfl
 have cqa:∀o,(w.alloc o).drew.cell? ⟨q,0,none⟩=some cq:=fun o=>by rw [Lib.cell_of_heap (hqa o)];rfl
 have cna:(w.alloc (.cells #[.int .i64 8] 172)).drew.cell? ⟨w.heap.size,0,none⟩=some (.int .i64 8):=by rw [Lib.cell_of_heap (hna _)];rfl
 have fpa:∀o,(w.alloc o).drew.frozen? ⟨p,0,none⟩=false:=fun o=>Lib.frozen_of_heap (hpa o) _
 have fqa:∀o,(w.alloc o).drew.frozen? ⟨q,0,none⟩=false:=fun o=>Lib.frozen_of_heap (hqa o) _
 have cp0:w.cell? ⟨p,0,none⟩=some cp:=by rw [Lib.cell_of_heap hp];rfl
 have cq0:w.cell? ⟨q,0,none⟩=some cq:=by rw [Lib.cell_of_heap hq];rfl
 have fp0:w.frozen? ⟨p,0,none⟩=false:=Lib.frozen_of_heap hp _
 have fq0:w.frozen? ⟨q,0,none⟩=false:=Lib.frozen_of_heap hq _
 have hqp:q≠p:=fun h=>hpq h.symm
 go_wp2
 go_region
 exact ⟨rfl,_,rfl,_,results_none rfl _ _ _,rfl,rfl,rfl⟩
theorem JUL (x:Value)(w:World)(G:Value→World→Prop)
  (hf:Calls Tryz.prog 72 #[x] ((w.alloc (.cells #[.slice none 0 0] 52)).alloc (.cells #[.int .i64 0] 35)) fun e w'=>∃p n c,e=.returned (.slice p n c)∧G (.slice p n c) w' ∧
   w'.heap[w.heap.size]? = some (.cells #[.slice none 0 0] 52 (0,0))∧w'.heap[w.heap.size+1]? = some (.cells #[.int .i64 0] 35 (0,0))) :
  Calls Tryz.prog 71 #[.func (.func 72) #[] #[x]] w fun e w'=>∃r w2,G r w2∧e=.returned (.tuple #[r,.int .i64 0])∧w'=(w2.setCell ⟨w.heap.size,0,none⟩ r).setCell ⟨w.heap.size+1,0,none⟩ (.int .i64 0):=by
 have hmf:∀(fn:Fn) (first cap:Array Value) (w:World),(Instr.makeFunc fn first cap).run Tryz.prog w=.ok (.func fn first cap) w:=fun _ _ _ _=>rfl
 go_enter_defers Tryz.func71,Tryz.ntmps71
 go_wp2_with (go_at_call 72;refine hf.mono ?_)
 rintro e w2 ⟨p,n,c,rfl,hG,h1,h2⟩
 have c1:w2.cell? ⟨w.heap.size,0,none⟩=some (.slice none 0 0):=by rw [Lib.cell_of_heap h1];rfl
 have c2:w2.cell? ⟨w.heap.size+1,0,none⟩=some (.int .i64 0):=by rw [Lib.cell_of_heap h2];rfl
 have f1:w2.frozen? ⟨w.heap.size,0,none⟩=false:=Lib.frozen_of_heap h1 _
 have f2:w2.frozen? ⟨w.heap.size+1,0,none⟩=false:=Lib.frozen_of_heap h2 _
 go_wp2
 have hne:w.heap.size≠w.heap.size+1:=by omega
 have g1:((w2.setCell ⟨w.heap.size,0,none⟩ (.slice p n c)).setCell ⟨w.heap.size+1,0,none⟩ (.int .i64 0)).heap[w.heap.size]? = some (.cells #[.slice p n c] 52 (0,0)):=
  (Below.heap_setCell _ ⟨w.heap.size+1,0,none⟩ _ _ hne).trans ((Lib.heap_setCell_same (i:=0) h1 (.slice p n c)).trans rfl)
 have g2:((w2.setCell ⟨w.heap.size,0,none⟩ (.slice p n c)).setCell ⟨w.heap.size+1,0,none⟩ (.int .i64 0)).heap[w.heap.size+1]? = some (.cells #[.int .i64 0] 35 (0,0)):=
  (Lib.heap_setCell_same (i:=0) ((Below.heap_setCell w2 ⟨w.heap.size,0,none⟩ _ _ (fun h=>hne h.symm)).trans h2) (.int .i64 0)).trans rfl
 have d1:((w2.setCell ⟨w.heap.size,0,none⟩ (.slice p n c)).setCell ⟨w.heap.size+1,0,none⟩ (.int .i64 0)).cell? ⟨w.heap.size,0,none⟩=some (.slice p n c):=by rw [Lib.cell_of_heap g1];rfl
 have d2:((w2.setCell ⟨w.heap.size,0,none⟩ (.slice p n c)).setCell ⟨w.heap.size+1,0,none⟩ (.int .i64 0)).cell? ⟨w.heap.size+1,0,none⟩=some (.int .i64 0):=by rw [Lib.cell_of_heap g2];rfl
 refine leaves_cons (f:=125) (args:=#[.pointer (some ⟨w.heap.size,0,none⟩),.pointer (some ⟨w.heap.size+1,0,none⟩)]) (by simp) (by simp [go_sem]) ?_
 refine (JSe ⟨w.heap.size,0,none⟩ ⟨w.heap.size+1,0,none⟩ _).mono ?_
 rintro e u' w'' ⟨rfl,rfl,rfl⟩
 generalize hW:(w2.setCell ⟨w.heap.size,0,none⟩ (.slice p n c)).setCell ⟨w.heap.size+1,0,none⟩ (.int .i64 0)=W at d1 d2 ⊢
 simp [Leaves,settle,results,Tryz.results71,go_sem,d1,d2]
 exact ⟨_,w2,hG,rfl,hW.symm⟩
theorem JUM (x:Value)(w:World)(G:World→Prop)
  (hf:Calls Tryz.prog 72 #[x] ((w.alloc (.cells #[.slice none 0 0] 52)).alloc (.cells #[.int .i64 0] 35)) fun e w'=>e=.panicked (Zc Je)∧G w' ∧
   w'.heap[w.heap.size]? = some (.cells #[.slice none 0 0] 52 (0,0))∧w'.heap[w.heap.size+1]? = some (.cells #[.int .i64 0] 35 (0,0))) :
  Calls Tryz.prog 71 #[.func (.func 72) #[] #[x]] w fun e w'=>∃w2,G w2∧e=.returned (.tuple #[.slice none 0 0,.int .i64 8])∧w'=(((w2.setCell ⟨w.heap.size,0,none⟩ (.slice none 0 0)).setCell ⟨w.heap.size+1,0,none⟩ (.int .i64 8)).alloc (.cells #[.int .i64 8] 172)).drew:=by
 have hmf:∀(fn:Fn) (first cap:Array Value) (w:World),(Instr.makeFunc fn first cap).run Tryz.prog w=.ok (.func fn first cap) w:=fun _ _ _ _=>rfl
 go_enter_defers Tryz.func71,Tryz.ntmps71
 go_wp2_with (go_at_call 72;refine hf.mono ?_)
 rintro e w2 ⟨rfl,hG,h1,h2⟩
 go_wp2
 have hne:w.heap.size≠w.heap.size+1:=by omega
 have hl2:=(Array.getElem?_eq_some_iff.1 h2).1
 have g1:((w2.setCell ⟨w.heap.size,0,none⟩ (.slice none 0 0)).setCell ⟨w.heap.size+1,0,none⟩ (.int .i64 8)).heap[w.heap.size]? = some (.cells #[.slice none 0 0] 52 (0,0)):=
  (Below.heap_setCell _ ⟨w.heap.size+1,0,none⟩ _ _ hne).trans ((Lib.heap_setCell_same (i:=0) h1 (.slice none 0 0)).trans rfl)
 have g2:((w2.setCell ⟨w.heap.size,0,none⟩ (.slice none 0 0)).setCell ⟨w.heap.size+1,0,none⟩ (.int .i64 8)).heap[w.heap.size+1]? = some (.cells #[.int .i64 8] 35 (0,0)):=
  (Lib.heap_setCell_same (i:=0) ((Below.heap_setCell w2 ⟨w.heap.size,0,none⟩ _ _ (fun h=>hne h.symm)).trans h2) (.int .i64 8)).trans rfl
 have hs:((w2.setCell ⟨w.heap.size,0,none⟩ (.slice none 0 0)).setCell ⟨w.heap.size+1,0,none⟩ (.int .i64 8)).heap.size=w2.heap.size:=by rw [Y5,Y5]
 refine leaves_cons (f:=125) (args:=#[.pointer (some ⟨w.heap.size,0,none⟩),.pointer (some ⟨w.heap.size+1,0,none⟩)]) (by simp) (by simp [go_sem]) ?_
 refine (JWh w.heap.size (w.heap.size+1) w2 h1 h2 hne).mono ?_
 rintro e u' w'' ⟨rfl,rfl,rfl⟩
 generalize hW:(w2.setCell ⟨w.heap.size,0,none⟩ (.slice none 0 0)).setCell ⟨w.heap.size+1,0,none⟩ (.int .i64 8)=W at g1 g2 hs ⊢
 have k1:(W.alloc (.cells #[.int .i64 8] 172)).drew.heap[w.heap.size]? = some (.cells #[.slice none 0 0] 52 (0,0)):=(Below.heap_alloc W _ _ (by omega)).trans g1
 have k2:(W.alloc (.cells #[.int .i64 8] 172)).drew.heap[w.heap.size+1]? = some (.cells #[.int .i64 8] 35 (0,0)):=(Below.heap_alloc W _ _ (by omega)).trans g2
 have d1:(W.alloc (.cells #[.int .i64 8] 172)).drew.cell? ⟨w.heap.size,0,none⟩=some (.slice none 0 0):=by rw [Lib.cell_of_heap k1];rfl
 have d2:(W.alloc (.cells #[.int .i64 8] 172)).drew.cell? ⟨w.heap.size+1,0,none⟩=some (.int .i64 8):=by rw [Lib.cell_of_heap k2];rfl
 generalize hV:(W.alloc (.cells #[.int .i64 8] 172)).drew=V at d1 d2 ⊢
 simp [Leaves,settle,results,Tryz.results71,go_sem,d1,d2]
 trace_state
 exact ⟨w2,hG,by rw [hW,hV]⟩
end Go.Mw
namespace Go.Mw
open Go.Proofs
open Go.Bk
theorem JUQ:JGO Tryz.prog 71 72 52 35:=fun x w G h=>JUL x w G h
theorem JUT:JGP Tryz.prog 71 72 Je 52 35 172:=fun x w G h=>JUM x w G h
def rdE (r:Option (List Pl)):AV:=match r with
 |some l=>.tup [(false,[.d (JAK l)]),(false,[.d (.i 0)])]
 |none=>.tup [(false,[.d (JAK [])]),(false,[.d (.i 8)])]
theorem JRN (b:Bs)(hb:b.length≤1000000):Ja Tryz.prog 71 [.leaf (.d (.fn 72 [.pt [JAj b]]))] (rdE (Zg b)) []:=by
 cases h:Zg b with
 |some l=>exact JIg JUQ (fun _ _ _ h=>JKL h) (JRG hb h)
 |none=>exact JIh JUT (fun _ _=>RepD.nil _ _ _) (JTV hb h)
theorem JGu (b:Bs)(hb:b.length≤1000000):Ja Tryz.prog 27 [.leaf (.d (JAj b))] (rdE (Zg b)) []:=by
 have hcr:=JRN b hb
 generalize Zg b=q at hcr ⊢
 rcases q with _|l
 ·skip
  dsimp only [rdE] at hcr ⊢
  refine Js Jc Tryz.func27 rfl (by simp only [List.length_cons,List.length_nil,Tryz.ntmps27];omega) JI rfl ?_
  refine JB.reg ?_
  iterate 3 (refine JA.o ?_)
  refine JA.nil (JB.reg ?_)
  refine JA.frz 1 JD ?_
  refine JA.o ?_
  refine JA.frz 4 JD ?_
  refine JA.c1 (hcr) JD JD ?_
  iterate 4 (refine JA.o ?_)
  refine JA.nil ?_
  exact Ends.fin [] (rs:=[.tmp 2,.tmp 3]) rfl JD Yj
 ·skip
  dsimp only [rdE] at hcr ⊢
  refine Js Jc Tryz.func27 rfl (by simp only [List.length_cons,List.length_nil,Tryz.ntmps27];omega) JI rfl ?_
  refine JB.reg ?_
  iterate 3 (refine JA.o ?_)
  refine JA.nil (JB.reg ?_)
  refine JA.frz 1 JD ?_
  refine JA.o ?_
  refine JA.frz 4 JD ?_
  refine JA.c1 (hcr) JD JD ?_
  iterate 4 (refine JA.o ?_)
  refine JA.nil ?_
  exact Ends.fin [] (rs:=[.tmp 2,.tmp 3]) rfl JD Yj
end Go.Mw
namespace Go.Bk
def JAu (s:List Sh)(p:List Pl)(g:List Pg):Bool:=
 s.any (fun x=>decide (10<x.tries.length)) || (g.any (fun x=>decide (24<x.reads.length)) || (decide (18<s.length) || (decide (70<p.length) || decide (40<g.length))))
theorem JSn {s:List Sh}{p:List Pl}{g:List Pg}(h:JAu s p g=false):(s.length≤18∧∀x∈s,x.tries.length≤10)∧p.length≤70∧g.length≤40∧∀x∈g,x.reads.length≤24:=by
 unfold JAu at h
 simp only [Bool.or_eq_false_iff,decide_eq_false_iff_not,List.any_eq_false,decide_eq_true_eq] at h
 obtain ⟨h1,h2,h3,h4,h5⟩:=h
 exact ⟨⟨by omega,fun x hx=>by have:=h1 x hx;omega⟩,by omega,by omega,fun x hx=>by have:=h2 x hx;omega⟩
theorem JLG {α:Type}{f:α→Bool}{l:List α}{k:Nat}{x:α}(h:l[k]? = some x)(hx:f x=true):l.any f=true:=List.any_eq_true.2 ⟨x,List.mem_of_getElem? h,hx⟩
theorem JOy {α:Type}{f:α→Bool}{l:List α}{k:Nat}{x:α}(h:l[k]? = some x)(hk:(l.take k).any f=false)(hx:f x=false):(l.take (k+1)).any f=false:=by
 rw [List.take_add_one,h,List.any_append,hk];simp [hx]
theorem JUz {α:Type}{a b:List α}{k:Nat}{x:α}(hx:a[k]? = some x)(hy:b[k]? = some x)(h:a.take k=b.take k):a.take (k+1)=b.take (k+1):=by
 rw [List.take_add_one,List.take_add_one,hx,hy,h]
theorem JUy {α:Type}{a b:List α}{k:Nat}(hl:a.length=b.length)(hk:a.length≤k)(h:a.take k=b.take k):a=b:=by
 rwa [List.take_of_length_le hk,List.take_of_length_le (by omega)] at h
end Go.Bk
namespace Go.Mw
open Go.Proofs
open Go.Bk
attribute [local go_sem] decide_true beq_self_eq_true bne_self_eq_false
def exS:List Sh:=[⟨42,[⟨100,500,495⟩,⟨1000,2000,2010⟩]⟩]
def exP:List Pl:=[⟨5,2,9⟩,⟨6,2,9⟩]
def exG:List Pg:=[⟨7,[100,110,120,130,135]⟩,⟨8,[5]⟩,⟨9,[]⟩]
def JRz:Bs:=[35,48,48,48,48,52,50,32,54,10,32,32,32,49,48,48,32,32,32,32,32,53,48,48,32,32,32,32,32,52,57,53,32,52,10,32,32,49,48,48,48,32,32,32,32,50,48,48,48,32,32,32,32,50,48,49,48,32,54,10]
def JHM:Bs:=[2,42,0,2,116,0,4,128]
def JRt:Bs:=[55,32,49,48,48,32,51,120,49,48,32,53,10,56,32,53,10,57,10]
theorem JR0:Yp exS=0:=by decide +kernel
theorem JR1:Qq exS=JRz:=by decide +kernel
theorem JRw:Yo exP=0:=by decide +kernel
theorem JRy:YA exP=JHM:=by decide +kernel
theorem JRx:Zg JHM=some exP:=by decide +kernel
theorem JRu:Yf exG=0:=by decide +kernel
theorem JRv:ZL exG=JRt:=by decide +kernel
theorem JQp:Ja Tryz.prog 62 [] (.leaf (.d (JAY exS))) []:=by
 refine Js Jc Tryz.func62 rfl (by simp only [List.length_cons,List.length_nil,Tryz.ntmps62];omega) JI rfl ?_
 refine JB.reg ?_
 refine JA.o ?_
 refine JA.nil (JB.reg ?_)
 iterate 3 (refine JA.o ?_)
 refine JA.frz 3 JD ?_
 iterate 2 (refine JA.o ?_)
 refine JA.frz 5 JD ?_
 refine JA.o ?_
 refine JA.nil ?_
 exact Ends.fin [] (rs:=[.tmp 0]) rfl JD Yj
theorem JLm:Ja Tryz.prog 63 [] (.leaf (.d (JAK exP))) []:=by
 refine Js Jc Tryz.func63 rfl (by simp only [List.length_cons,List.length_nil,Tryz.ntmps63];omega) JI rfl ?_
 refine JB.reg ?_
 refine JA.o ?_
 refine JA.nil (JB.reg ?_)
 iterate 3 (refine JA.o ?_)
 refine JA.frz 3 JD ?_
 refine JA.o ?_
 refine JA.nil ?_
 exact Ends.fin [] (rs:=[.tmp 0]) rfl JD Yj
theorem JQo:Ja Tryz.prog 33 [] (.leaf (.d (JAU exG))) []:=by
 refine Js Jc Tryz.func33 rfl (by simp only [List.length_cons,List.length_nil,Tryz.ntmps33];omega) JI rfl ?_
 refine JB.reg ?_
 refine JA.o ?_
 refine JA.nil (JB.reg ?_)
 refine JA.o ?_
 refine JA.frz 1 JD ?_
 iterate 2 (refine JA.o ?_)
 refine JA.frz 3 JD ?_
 iterate 2 (refine JA.o ?_)
 refine JA.nildA 5 1 1 JD rfl JD ?_
 refine JA.o ?_
 refine JA.frz 6 JD ?_
 refine JA.o ?_
 refine JA.nil ?_
 exact Ends.fin [] (rs:=[.tmp 0]) rfl JD Yj
end Go.Mw
namespace Go.Mw
open Go.Proofs
open Go.Bk
attribute [local go_sem] decide_true beq_self_eq_true bne_self_eq_false
theorem JQZ (a b:List Pl)(ha:a.length≤1000000)(hb:b.length≤1000000):Ja Tryz.prog 29 [.leaf (.d (JAK a)),.leaf (.d (JAK b))] (.bool (decide (a=b))) []:=by
 refine Js Jc Tryz.func29 rfl (by simp only [List.length_cons,List.length_nil,Tryz.ntmps29];omega) JI rfl ?_
 refine JB.reg ?_
 refine JA.o ?_
 refine JA.nil (JB.assocS (JB.reg ?_))
 iterate 5 (refine JA.o ?_)
 refine JA.nil ?_
 refine JB.cndS JD (fun hb10=>?_) (fun hb10=>?_)
 ·skip
  have hne:¬a=b:=fun h=>by subst h;simp at hb10
  have hr:decide (a=b)=false:=decide_eq_false hne
  refine JB.assocS (JB.reg ?_)
  have X:=Fx.mk hr
  refine JA.o1 JC ?_
  refine JA.nil (JB.retS ?_)
  exact Ends.fin [] (rs:=[.tmp 4]) rfl JC YV
 ·skip
  have hll:a.length=b.length:=by simp at hb10;omega
  refine JB.skipS (JB.assocS (JB.reg ?_))
  refine JA.o ?_
  refine JA.nil (JB.blk ?_)
  refine JB.forA [0,1,5] [] (a.length) (fun k=>[.slot 5 (.int k)]) (fun k=>a.take k=b.take k) (fun k=>by simp only [go_sem]<;>rfl) (by simp only [go_sem,Int.natCast_zero]<;>rfl) ?_ (fun k hk hX=>?_)
  ·rfl
  ·skip
   refine JB.assocS (JB.reg ?_)
   iterate 4 (refine JA.o ?_)
   refine JA.nil ?_
   refine JB.cndS JD (fun hb14=>?_) (fun hb14=>?_)
   ·skip
    have hlt:=ZU hb14
    obtain ⟨x,hx⟩:=ZQ hb14
    obtain ⟨y,hy⟩:∃y,b[k]? = some y:=⟨_,List.getElem?_eq_getElem (by omega)⟩
    refine JB.skipS (JB.blk ?_)
    refine JB.opk 11 ?_
    have X:=(Fx.mk hx).a hy
    iterate 2 (refine JF.o1 JC ?_)
    refine JF.o1 YE ?_
    iterate 3 (refine JF.o1 JC ?_)
    refine JF.o1 YE ?_
    iterate 2 (refine JF.o1 JC ?_)
    refine JF.nil (Qs.fin QB QB ?_)
    refine JB.cnd JC (fun hb25=>?_) (fun hb25=>?_)
    ·skip
     have hne:¬a=b:=fun h=>by subst h;rw [hx] at hy;cases hy;simp at hb25
     have hr:decide (a=b)=false:=decide_eq_false hne
     refine JB.reg ?_
     have X:=X.a hr
     refine JA.o1 JC ?_
     refine JA.nil (JY.ret (Jb.ret (JY.ret ?_)))
     exact Ends.fin [] (rs:=[.tmp 4]) rfl JC YV
    ·skip
     have hxy:x=y:=by
      obtain ⟨x1,x2,x3⟩:=x
      obtain ⟨y1,y2,y3⟩:=y
      simp at hb25
      obtain ⟨e1,e2,e3⟩:=hb25
      subst e1 e2 e3;rfl
     subst hxy
     refine JY.nrm (JB.reg1 ?_)
     refine JA.o1 JC ?_
     refine JA.o1 J4 ?_
     refine JA.o1 JC ?_
     refine JA.nil ?_
     refine Jb.nxt ?_ ?_ ?_
     ·omega
     ·exact JO.kp [0,1,5] [] ZI
     ·exact JUz hx hy hX
   ·skip
    have heq:=JUy hll (ZS hb14) hX
    have hr:decide (a=b)=true:=decide_eq_true heq
    refine JB.exitS (Jb.ext (JY.hit (JB.reg ?_)))
    have X:=Fx.mk hr
    refine JA.o1 JC ?_
    refine JA.nil ?_
    exact Ends.fin [] (rs:=[.tmp 4]) rfl JC YV
theorem JQ4 (s:List Sh)(p:List Pl)(g:List Pg)(hs:s.length≤9223372036854775807)(hp:p.length≤9223372036854775807)(hg:g.length≤9223372036854775807):Ja Tryz.prog 23 [.leaf (.d (JAY s)),.leaf (.d (JAK p)),.leaf (.d (JAU g))] (.bool (JAu s p g)) []:=by
 refine Js Jc Tryz.func23 rfl (by simp only [List.length_cons,List.length_nil,Tryz.ntmps23];omega) JI rfl ?_
 refine JB.reg ?_
 refine JA.o ?_
 refine JA.nil (JB.assocS (JB.reg ?_))
 iterate 3 (refine JA.o ?_)
 refine JA.nil (JB.blk ?_)
 refine JB.forA [0,1,2,11,12,13] [] (s.length) (fun k=>[.slot 13 (.int k)]) (fun k=>(s.take k).any (fun x=>decide (10<x.tries.length))=false) (fun k=>by simp only [go_sem]<;>rfl) (by simp only [go_sem,Int.natCast_zero]<;>rfl) ?_ (fun k hk hX=>?_)
 ·rfl
 ·skip
  refine JB.reg ?_
  refine JA.o ?_
  refine JA.nil ?_
  refine JB.cndS JD (fun hb14=>?_) (fun hb14=>?_)
  ·skip
   have hlt:=ZU hb14
   obtain ⟨x,hx⟩:=ZQ hb14
   refine JB.skipS (JB.blk (JB.reg ?_))
   have X:=Fx.mk hx
   refine JA.o1 YE ?_
   iterate 3 (refine JA.o1 JC ?_)
   refine JA.nil (JB.reg ?_)
   iterate 4 (refine JA.o1 JC ?_)
   refine JA.nil ?_
   refine JB.cnd JC (fun hb20=>?_) (fun hb20=>?_)
   ·skip
    have hl:10<x.tries.length:=by have:=of_decide_eq_true hb20;omega
    have hA:s.any (fun x=>decide (10<x.tries.length))=true:=JLG hx (decide_eq_true hl)
    have hr:JAu s p g=true:=by unfold JAu;rw [hA];rfl
    refine JB.reg ?_
    have X:=X.a hr
    refine JA.o1 JC ?_
    refine JA.nil (JY.ret (Jb.ret (JY.ret ?_)))
    exact Ends.fin [] (rs:=[.tmp 6]) rfl JC YV
   ·skip
    have hl:¬ 10<x.tries.length:=by have:=of_decide_eq_false hb20;omega
    refine JY.nrm (JB.reg1 ?_)
    refine JA.o1 J4 ?_
    refine JA.o1 JC ?_
    refine JA.nil ?_
    refine Jb.nxt ?_ ?_ ?_
    ·omega
    ·exact JO.kp [0,1,2,11,12,13] [] ZI
    ·exact JOy hx hX (decide_eq_false hl)
  ·skip
   have hA:s.any (fun x=>decide (10<x.tries.length))=false:=by rw [List.take_of_length_le (ZS hb14)] at hX;exact hX
   refine JB.exitS (Jb.ext (JY.hit (JB.assocS (JB.reg ?_))))
   iterate 3 (refine JA.o ?_)
   refine JA.nil (JB.blk ?_)
   refine JB.forA [0,1,2,22,23,24] [] (g.length) (fun j=>[.slot 24 (.int j)]) (fun j=>(g.take j).any (fun x=>decide (24<x.reads.length))=false) (fun j=>by simp only [go_sem]<;>rfl) (by simp only [go_sem,Int.natCast_zero]<;>rfl) ?_ (fun j hj Xj=>?_)
   ·rfl
   ·skip
    refine JB.reg ?_
    refine JA.o ?_
    refine JA.nil ?_
    refine JB.cndS JD (fun hb25=>?_) (fun hb25=>?_)
    ·skip
     have hlt2:=ZU hb25
     obtain ⟨y,hy⟩:=ZQ hb25
     refine JB.skipS (JB.blk (JB.reg ?_))
     have X:=Fx.mk hy
     refine JA.o1 YE ?_
     iterate 3 (refine JA.o1 JC ?_)
     refine JA.nil (JB.reg ?_)
     iterate 4 (refine JA.o1 JC ?_)
     refine JA.nil ?_
     refine JB.cnd JC (fun hb31=>?_) (fun hb31=>?_)
     ·skip
      have hl2:24<y.reads.length:=by have:=of_decide_eq_true hb31;omega
      have hB:g.any (fun x=>decide (24<x.reads.length))=true:=JLG hy (decide_eq_true hl2)
      have hr:JAu s p g=true:=by unfold JAu;rw [hA,hB];rfl
      refine JB.reg ?_
      have X:=X.a hr
      refine JA.o1 JC ?_
      refine JA.nil (JY.ret (Jb.ret (JY.ret ?_)))
      exact Ends.fin [] (rs:=[.tmp 6]) rfl JC YV
     ·skip
      have hl2:¬ 24<y.reads.length:=by have:=of_decide_eq_false hb31;omega
      refine JY.nrm (JB.reg1 ?_)
      refine JA.o1 J4 ?_
      refine JA.o1 JC ?_
      refine JA.nil ?_
      refine Jb.nxt ?_ ?_ ?_
      ·omega
      ·exact JO.kp [0,1,2,22,23,24] [] ZI
      ·exact JOy hy Xj (decide_eq_false hl2)
    ·skip
     have hB:g.any (fun x=>decide (24<x.reads.length))=false:=by rw [List.take_of_length_le (ZS hb25)] at Xj;exact Xj
     refine JB.exitS (Jb.ext (JY.hit ?_))
     by_cases g1:18<s.length
     ·skip
      have q1:decide ((s.length:Int)>18)=true:=by first|exact decide_eq_true (by omega)|exact decide_eq_false (by omega)
      have hr:JAu s p g=true:=by unfold JAu;rw [hA,hB,decide_eq_true g1];rfl
      refine JB.reg ?_
      have X:=(Fx.mk q1).a hr
      iterate 4 (refine JA.o1 JC ?_)
      iterate 3 (refine JA.s ?_)
      iterate 2 (refine JA.o1 JC ?_)
      iterate 3 (refine JA.s ?_)
      iterate 2 (refine JA.o1 JC ?_)
      refine JA.nil ?_
      exact Ends.fin [] (rs:=[.tmp 6]) rfl JC YV
     ·skip
      have q1:decide ((s.length:Int)>18)=false:=by first|exact decide_eq_true (by omega)|exact decide_eq_false (by omega)
      by_cases g2:70<p.length
      ·skip
       have q2:decide ((p.length:Int)>70)=true:=by first|exact decide_eq_true (by omega)|exact decide_eq_false (by omega)
       have hr:JAu s p g=true:=by unfold JAu;rw [hA,hB,decide_eq_false g1,decide_eq_true g2];rfl
       refine JB.reg ?_
       have X:=((Fx.mk q1).a q2).a hr
       iterate 4 (refine JA.o1 JC ?_)
       iterate 3 (refine JA.y1 JC ?_)
       iterate 2 (refine JA.o1 JC ?_)
       iterate 3 (refine JA.s ?_)
       iterate 2 (refine JA.o1 JC ?_)
       refine JA.nil ?_
       exact Ends.fin [] (rs:=[.tmp 6]) rfl JC YV
      ·skip
       have q2:decide ((p.length:Int)>70)=false:=by first|exact decide_eq_true (by omega)|exact decide_eq_false (by omega)
       have q3:decide ((g.length:Int)>40)=decide (40<g.length):=by by_cases h:40<g.length<;>simp [h]<;>omega
       have hr:JAu s p g=decide (40<g.length):=by unfold JAu;rw [hA,hB,decide_eq_false g1,decide_eq_false g2];rfl
       refine JB.reg ?_
       have X:=(((Fx.mk q1).a q2).a q3).a hr
       iterate 4 (refine JA.o1 JC ?_)
       iterate 3 (refine JA.y1 JC ?_)
       iterate 2 (refine JA.o1 JC ?_)
       iterate 3 (refine JA.y1 JC ?_)
       iterate 2 (refine JA.o1 JC ?_)
       refine JA.nil ?_
       exact Ends.fin [] (rs:=[.tmp 6]) rfl JC YV
theorem JGv:Ja Tryz.prog 24 [] (.bool true) []:=by
 have k1:=JLk exS (by decide) (by decide)
 rw [JR1,JR0] at k1
 have k2:=JLj exP (by decide)
 rw [JRy,JRw] at k2
 have k3:=JLi exG (by decide) (by decide)
 rw [JRv,JRu] at k3
 have k4:=JGu JHM (by decide)
 rw [JRx] at k4
 have k5:=JQZ exP exP (by decide) (by decide)
 rw [decide_eq_true (show exP=exP from rfl)] at k5
 have z0:((0:Int)==0)=true:=rfl
 refine Js Jc Tryz.func24 rfl (by simp only [List.length_cons,List.length_nil,Tryz.ntmps24];omega) JI rfl ?_
 refine JB.reg ?_
 have X:=Fx.mk z0
 refine JA.o1 JC ?_
 refine JA.nil (JB.reg ?_)
 refine JA.c1 (JQp) JC JC ?_
 refine JA.c1 (k1) JC JC ?_
 iterate 5 (refine JA.o1 JC ?_)
 refine JA.nil (JB.reg ?_)
 refine JA.c1 (JLm) JC JC ?_
 refine JA.c1 (k2) JC JC ?_
 iterate 5 (refine JA.o1 JC ?_)
 refine JA.nil (JB.reg ?_)
 refine JA.c1 (JQo) JC JC ?_
 refine JA.c1 (k3) JC JC ?_
 iterate 5 (refine JA.o1 JC ?_)
 refine JA.nil (JB.reg ?_)
 refine JA.o1 JC ?_
 refine JA.c1 (k4) JC JC ?_
 iterate 5 (refine JA.o1 JC ?_)
 refine JA.nil (JB.reg ?_)
 iterate 3 (refine JA.o1 JC ?_)
 iterate 2 (refine JA.y1 JC ?_)
 iterate 2 (refine JA.o1 JC ?_)
 refine JA.y1 JC ?_
 refine JA.val (JU2 Tryz.underlying53 Tryz.underlying5 Tryz.underlying9 (l:=JHM) (.inl JD)) JD JD ?_
 refine JA.y1 JC ?_
 iterate 2 (refine JA.o1 JC ?_)
 iterate 2 (refine JA.y1 JC ?_)
 iterate 2 (refine JA.o1 JC ?_)
 iterate 2 (refine JA.y1 JC ?_)
 iterate 2 (refine JA.o1 JC ?_)
 iterate 2 (refine JA.y1 JC ?_)
 iterate 2 (refine JA.o1 JC ?_)
 refine JA.y1 JC ?_
 refine JA.calw JD (JLm) JV JC JC (by exact trivial) (Qm) JC ?_
 refine JA.calw JD (k5) JV JC JC V33 (Qm) JC ?_
 iterate 2 (refine JA.o1 JC ?_)
 iterate 2 (refine JA.y1 JC ?_)
 iterate 2 (refine JA.o1 JC ?_)
 refine JA.nil ?_
 exact Ends.fin [] (rs:=[.tmp 0]) rfl JC YV
end Go.Mw
namespace Go.Mw
open Go.Proofs Go.RowKit Go.ChangeShapes Go.WideShapes Go.Bk
theorem JOD {α:Type}{f:α→List D}:∀ {rows:List (List D)},(∀r∈rows,∃x,r=f x)→∃l:List α,rows=l.map f
 |[],_=>⟨[],rfl⟩
 |r::rows,h=>by
  obtain ⟨x,rfl⟩:=h r (by simp)
  obtain ⟨l,rfl⟩:=JOD (rows:=rows) fun q hq=>h q (List.mem_cons_of_mem _ hq)
  exact ⟨x::l,rfl⟩
section
variable {H:Type} {enc:TypeId × Value→H} {W:World} {v:Value} {d:DataW H} {ps:List MemPlace}
abbrev JCj (enc:TypeId × Value→H)(W:World)(t:TypeId)(Q:List D→Prop):Prop:=Reads enc Tryz.prog W 0 (fun _=>true) true t Q
theorem JJy:JCj enc W 3 (fun ds=>∃n:Int,ds=ZR n):=JJ2 (ks:=[.int .i64]) JI fun r h=>by
 obtain ⟨a,r,rfl,⟨n,hn,_⟩,h⟩:=JBK h
 have:=JE4 h
 subst hn this
 exact ⟨n,rfl⟩
theorem JUG:JCj enc W 146 (fun ds=>∃x:Tr,ds=Yd x):=JJ2 (ks:=[.int .i64,.int .i64,.int .i64]) JI fun r h=>by
 obtain ⟨a,r,rfl,⟨n,hn,_⟩,h⟩:=JBK h
 obtain ⟨b,r,rfl,⟨m,hm,_⟩,h⟩:=JBK h
 obtain ⟨c,r,rfl,⟨k,hk,_⟩,h⟩:=JBK h
 have:=JE4 h
 subst hn hm hk this
 exact ⟨⟨n,m,k⟩,rfl⟩
theorem JUE:JCj enc W 70 (fun ds=>∃x:Pl,ds=JAR x):=JJ2 (ks:=[.int .i64,.int .i64,.int .i64]) JI fun r h=>by
 obtain ⟨a,r,rfl,⟨n,hn,_⟩,h⟩:=JBK h
 obtain ⟨b,r,rfl,⟨m,hm,_⟩,h⟩:=JBK h
 obtain ⟨c,r,rfl,⟨k,hk,_⟩,h⟩:=JBK h
 have:=JE4 h
 subst hn hm hk this
 exact ⟨⟨n,m,k⟩,rfl⟩
theorem JF4 {t e:TypeId}{k:Nat}{α:Type}{f:α→List D}(ht:Tryz.prog.underlying t=some (.slice e))(hr:JCj enc W e (fun ds=>∃x:α,ds=f x))(hc:Tryz.prog.cellsOf e=k)(h0:0<k):JCj enc W t (fun ds=>∃l:List α,ds=[D.sl k (l.map f)]):=fun fuel cs x h=>by
 obtain ⟨ds,⟨rows,rfl,hr⟩,ha⟩:=JUW ht hr hc h0 fuel cs x h
 obtain ⟨l,rfl⟩:=JOD (f:=f) (rows:=rows) hr
 exact ⟨_,⟨l,rfl⟩,ha⟩
theorem JUF:JCj enc W 68 (fun ds=>∃x:Sh,ds=Zm x):=fun fuel cs x h=>by
 obtain ⟨n,ha⟩:=JOt (P:=Tryz.prog) (t:=68) (ts:=[3,66]) JI h
 obtain ⟨a,r,rfl,h1,ha⟩:=JBK ha
 obtain ⟨b,r,rfl,h2,ha⟩:=JBK ha
 have:=JE4 ha
 subst this
 obtain ⟨d1,⟨x1,e1⟩,q1⟩:=JHq JJy h1
 obtain ⟨d2,⟨x2,e2⟩,q2⟩:=JHq (JF4 (k:=3) JI JUG JI (by decide)) h2
 cases e1;cases e2
 exact ⟨_,⟨⟨x1,x2⟩,rfl⟩,q1,q2,trivial⟩
theorem JUD:JCj enc W 31 (fun ds=>∃x:Pg,ds=JAr x):=fun fuel cs x h=>by
 obtain ⟨n,ha⟩:=JOt (P:=Tryz.prog) (t:=31) (ts:=[3,29]) JI h
 obtain ⟨a,r,rfl,h1,ha⟩:=JBK ha
 obtain ⟨b,r,rfl,h2,ha⟩:=JBK ha
 have:=JE4 ha
 subst this
 obtain ⟨d1,⟨x1,e1⟩,q1⟩:=JHq JJy h1
 obtain ⟨d2,⟨x2,e2⟩,q2⟩:=JHq (JF4 (k:=1) JI JJy JI (by decide)) h2
 cases e1;cases e2
 exact ⟨_,⟨⟨x1,x2⟩,rfl⟩,q1,q2,trivial⟩
theorem JJg {t:TypeId}{Q:List D→Prop}(hr:JCj enc W t Q){b0:Nat}{r:Reach}{e:TypeId}(ht:Tryz.prog.underlying t=some (.slice e))(hv:Value.okWide Tryz.prog W r b0 t v)(h:DataW.Trod enc Tryz.prog W 0 (fun _=>true) true t v d ps) :
  ∃x:D,Q [x]∧Jk (fun b _=>b<W.heap.size) Yz (look []) W (.leaf (.d x)) v:=by
 obtain ⟨fuel,hf⟩:=h
 have hc:∃a n c,v=.slice a n c:=by
  unfold Value.okWide at hv
  rw [ht] at hv
  simp only [Cell.okWide,ht] at hv
  cases v<;>first|exact ⟨_,_,_,rfl⟩|(simp [Cell.ok,ht] at hv)
 obtain ⟨a,n,c,rfl⟩:=hc
 have hcs:(Value.slice a n c).cells.toList=[Value.slice a n c]:=rfl
 rw [hcs] at hf
 obtain ⟨ds,hq,ha⟩:=hr _ _ _ hf
 match ds,ha with
 |[x],ha=>exact ⟨x,hq,_,rfl,ha.1⟩
theorem JU9 {b0:Nat}{r:Reach}(hv:Value.okWide Tryz.prog W r b0 61 v)(h:DataW.Trod enc Tryz.prog W 0 (fun _=>true) true 61 v d ps) :
  ∃l:List Sh,l.length≤9223372036854775807∧Jk (fun b _=>b<W.heap.size) Yz (look []) W (.leaf (.d (JAY l))) v:=by
 obtain ⟨x,⟨l,e⟩,hr⟩:=JJg (e:=68) (JF4 (k:=2) JI JUF JI (by decide)) JI hv h
 cases e
 exact ⟨l,by have:=JKK (P:=Tryz.prog) (e:=68) JI hv h hr;rwa [List.length_map] at this,hr⟩
theorem JT8 {b0:Nat}{r:Reach}(hv:Value.okWide Tryz.prog W r b0 52 v)(h:DataW.Trod enc Tryz.prog W 0 (fun _=>true) true 52 v d ps) :
  ∃l:List Pl,l.length≤9223372036854775807∧Jk (fun b _=>b<W.heap.size) Yz (look []) W (.leaf (.d (JAK l))) v:=by
 obtain ⟨x,⟨l,e⟩,hr⟩:=JJg (e:=70) (JF4 (k:=3) JI JUE JI (by decide)) JI hv h
 cases e
 exact ⟨l,by have:=JKK (P:=Tryz.prog) (e:=70) JI hv h hr;rwa [List.length_map] at this,hr⟩
theorem JTr {b0:Nat}{r:Reach}(hv:Value.okWide Tryz.prog W r b0 28 v)(h:DataW.Trod enc Tryz.prog W 0 (fun _=>true) true 28 v d ps) :
  ∃l:List Pg,l.length≤9223372036854775807∧Jk (fun b _=>b<W.heap.size) Yz (look []) W (.leaf (.d (JAU l))) v:=by
 obtain ⟨x,⟨l,e⟩,hr⟩:=JJg (e:=31) (JF4 (k:=2) JI JUD JI (by decide)) JI hv h
 cases e
 exact ⟨l,by have:=JKK (P:=Tryz.prog) (e:=31) JI hv h hr;rwa [List.length_map] at this,hr⟩
theorem JPD {b0:Nat}{r:Reach}(hv:Value.okWide Tryz.prog W r b0 5 v)(h:DataW.Trod enc Tryz.prog W 0 (fun _=>true) true 5 v d ps) :
  ∃n:Nat,n≤255∧Jk (fun b _=>b<W.heap.size) Yz (look []) W (.leaf (.d (.raw (.int .u8 (n:Int))))) v:=JWO JI hv h
end
end Go.Mw

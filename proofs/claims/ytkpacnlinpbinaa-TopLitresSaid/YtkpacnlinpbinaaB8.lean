/- The stock that is left, as a map; no condition but those in each. -/
import Derived.Test.YtkpacnlinpbinaaD1
import Derived.Test.YtkpacnlinpbinaaB7
import Derived.Test.YtkpacnlinpbinaaB5
set_option maxRecDepth 20000
set_option maxHeartbeats 16000000
set_option linter.unusedSimpArgs false
set_option linter.unusedVariables false
set_option linter.unusedSectionVars false
set_option linter.deprecated false
namespace Go.Mw
open Go.Proofs Go.Li
@[go_sem] def encL (p:Int × Int):Value × Bool × List AL:=(.int .i64 p.1,false,[.d (.i p.2)])
def findL (t:Int)(m:Lf):Option Int:=(m.find? fun p=>p.1==t).map (·.2)
def setL (t v:Int):Lf→Lf
 |[]=>[(t,v)]
 |p::r=>if p.1=t then (t,v)::r else p::setL t v r
theorem mL_get (x:Int):∀m:Lf,mapGet 0 (.int .i64 x) (m.map encL)=some ((findL x m).map fun v=>(false,[.d (.i v)]))
 |[]=>rfl
 |b::m=>by
  have ih:=mL_get x m
  simp only [List.map_cons,encL,mapGet,keyEq,if_true,findL,List.find?_cons] at ih ⊢
  by_cases h:b.1=x
  ·simp [h]
  ·have h1:(x==b.1)=false:=by simpa using fun e=>h e.symm
   have h2:(b.1==x)=false:=by simpa using h
   rw [h1,h2]
   exact ih
theorem mL_set (x v:Int):∀m:Lf,mapSet 0 (.int .i64 x) (false,[.d (.i v)]) (m.map encL)=some ((setL x v m).map encL)
 |[]=>rfl
 |b::m=>by
  have ih:=mL_set x v m
  simp only [List.map_cons,encL,mapSet,keyEq,if_true,setL] at ih ⊢
  by_cases h:b.1=x
  ·have h1:(x==b.1)=true:=by simpa using h.symm
   rw [h1,if_pos h]
   rfl
  ·have h1:(x==b.1)=false:=by simpa using fun e=>h e.symm
   rw [h1,if_neg h,ih]
   rfl
@[go_sem ↓] theorem keep_mL (os:List Nat)(bs:Lf):(AO.map (bs.map encL)).keep os=.map (bs.map encL):=by
 show AO.map _=_
 rw [List.map_map]
 rfl
@[go_sem ↓] theorem ren_mL (r:Nat→Nat)(bs:Lf):(AO.map (bs.map encL)).ren r=.map (bs.map encL):=by
 show AO.map _=_
 rw [List.map_map]
 rfl
@[go_sem ↓] theorem kp_mL (q:Nat→Bool)(bs:Lf):(AO.map (bs.map encL)).kp q=.map (bs.map encL):=by
 show AO.map _=_
 rw [List.map_map]
 rfl
theorem mapL_mL {φ:AL→AL}(h:∀x,φ (.d x)=.d x)(bs:Lf):(AO.map (bs.map encL)).mapL φ=.map (bs.map encL):=by
 show AO.map _=_
 rw [List.map_map]
 congr 1
 refine List.map_congr_left fun b _=>?_
 show (_,_,[φ _])=_
 rw [h];rfl
@[go_sem ↓] theorem frz_mL (o k:Nat)(es:List (List D))(bs:Lf):(AO.map (bs.map encL)).mapL (AL.frz o k es)=.map (bs.map encL):=mapL_mL (fun _=>rfl) bs
@[go_sem ↓] theorem frzc_mL (o:Nat)(ds:List D)(bs:Lf):(AO.map (bs.map encL)).mapL (AL.frzc o ds)=.map (bs.map encL):=mapL_mL (fun _=>rfl) bs
@[go_sem ↓] theorem frzf_mL (o:Nat)(d:D)(bs:Lf):(AO.map (bs.map encL)).mapL (AL.frzf o d)=.map (bs.map encL):=mapL_mL (fun _=>rfl) bs
@[go_sem ↓] theorem frp_mL (o:Nat)(fs:List FL)(bs:Lf):(AO.map (bs.map encL)).mapL (AL.frp o fs)=.map (bs.map encL):=mapL_mL (fun _=>rfl) bs
theorem inn_mL (ns:List Nat)(bs:Lf):(AO.map (bs.map encL)).inn ns=true:=by
 show (bs.map encL).all _=true
 rw [List.all_eq_true]
 intro p hp
 obtain ⟨b,_,rfl⟩:=List.mem_map.1 hp
 rfl
structure KS (ks:List Int) (m:Lf):Prop where
 keys:m.map Prod.fst=ks
 nd:ks.Nodup
def MB (b:Int)(m:Lf):Prop:=∀p∈m,-b≤p.2∧p.2≤b
theorem find_get {t:Int}:∀ {m:Lf},t∈m.map Prod.fst→findL t m=some (getL t m)
 |[],h=>by cases h
 |p::r,h=>by
  unfold findL getL
  rw [List.find?_cons]
  by_cases hp:p.1=t
  ·simp [hp]
  ·have h1:(p.1==t)=false:=by simpa using hp
   rw [h1]
   have h2:t∈r.map Prod.fst:=by
    rcases List.mem_cons.1 h with h|h
    ·exact absurd h.symm hp
    ·exact h
   exact find_get h2
theorem chg_cons (d t:Int)(p:Int × Int)(r:Lf):chg d t (p::r)=(if p.1=t then (p.1,p.2+d) else p)::chg d t r:=rfl
theorem chg_not {d t:Int}:∀ {m:Lf},t ∉ m.map Prod.fst→chg d t m=m
 |[],_=>rfl
 |p::r,h=>by
  rw [chg_cons,if_neg (fun e=>h (by simp [e])),chg_not fun h2=>h (by simp at h2 ⊢;exact .inr h2)]
theorem set_chg {t d : Int} : ∀ {m : Lf}, (m.map Prod.fst).Nodup → t ∈ m.map Prod.fst → setL t (getL t m + d) m = chg d t m
  |[],_,h=>by cases h
  | p :: r, hn, h => by
    obtain ⟨h1,h2⟩:=List.nodup_cons.1 (by simpa using hn:(p.1::r.map Prod.fst).Nodup)
    rw [chg_cons]
    unfold setL
    by_cases hp:p.1=t
    · rw [if_pos hp, if_pos hp]
      have hg:getL t (p::r)=p.2:=by unfold getL;simp [hp]
      rw [hg,chg_not (by rw [←hp];exact h1),hp]
    · rw [if_neg hp, if_neg hp]
      have hg : getL t (p :: r) = getL t r := by unfold getL; rw [List.find?_cons]; have : (p.1 == t) = false := by simpa using hp
                                                 rw [this]
      have h3 : t ∈ r.map Prod.fst := by
        rcases List.mem_cons.1 h with h|h
        · exact absurd h.symm hp
        · exact h
      rw [hg,set_chg h2 h3]
theorem chg_keys (d t:Int)(m:Lf):(chg d t m).map Prod.fst=m.map Prod.fst:=by
 unfold chg
 rw [List.map_map]
 refine List.map_congr_left fun p _=>?_
 show (if p.1=t then (p.1,p.2+d) else p).1=p.1
 split<;>rfl
theorem KS.chg {ks:List Int}{m:Lf}(h:KS ks m)(d t:Int):KS ks (chg d t m):=⟨(chg_keys d t m).trans h.keys,h.nd⟩
theorem MB.chg {b:Int}{m:Lf}(h:MB b m){d:Int}(hd:-1≤d∧d≤1)(t:Int):MB (b+1) (chg d t m):=by
 intro p hp
 obtain ⟨q,hq,rfl⟩:=List.mem_map.1 hp
 have:=h q hq
 by_cases hqt:q.1=t
 ·simp only [if_pos hqt];omega
 ·simp only [if_neg hqt];omega
theorem getL_bd {b:Int}(hb:0≤b){m:Lf}(h:MB b m)(t:Int):-b≤getL t m∧getL t m≤b:=by
 unfold getL
 split
 ·rename_i p hp
  exact h p (List.mem_of_find?_eq_some hp)
 ·omega
theorem chg_back (d t:Int)(m:Lf):chg d t (chg (-d) t m)=m:=by
 unfold chg
 rw [List.map_map]
 conv=>rhs;rw [←List.map_id m]
 refine List.map_congr_left fun p _=>?_
 obtain ⟨k,v⟩:=p
 simp only [Function.comp,id]
 by_cases h:k=t
 ·simp only [if_pos h,Int.neg_add_cancel_right]
 ·simp only [if_neg h]
theorem chg_comm (d e t u:Int)(m:Lf):chg d t (chg e u m)=chg e u (chg d t m):=by
 unfold chg
 rw [List.map_map,List.map_map]
 refine List.map_congr_left fun p _=>?_
 obtain ⟨k,v⟩:=p
 simp only [Function.comp]
 by_cases h:k=t<;>by_cases h2:k=u<;>simp only [if_pos,if_neg,h,h2,if_true,if_false,not_false_eq_true]
 ·rw [←h,←h2]
  simp only [if_true]
  rw [Int.add_assoc,Int.add_assoc,Int.add_comm e d]
 all_goals (first|rfl|(simp only [←h,h2,if_false,if_true];done)|(subst h;simp [h2])|(subst h2;simp [h]))
def chgs (d:Int)(l:List Int)(m:Lf):Lf:=l.foldl (fun m t=>chg d t m) m
theorem chgs_snoc (d:Int)(l:List Int)(t:Int)(m:Lf):chgs d (l++[t]) m=chg d t (chgs d l m):=by unfold chgs;rw [List.foldl_append];rfl
theorem chgs_ok {ks:List Int}{d:Int}(hd:-1≤d∧d≤1):∀(l:List Int) {m:Lf} {b:Int},KS ks m→MB b m→KS ks (chgs d l m)∧MB (b+l.length) (chgs d l m)
 |[],m,b,h,hb=>⟨h,by simpa [chgs] using hb⟩
 |t::l,m,b,h,hb=>by
  have:=chgs_ok hd l (h.chg d t) (hb.chg hd t)
  refine ⟨this.1,?_⟩
  have e:b+1+(l.length:Int)=b+((t::l).length:Int):=by rw [List.length_cons];omega
  rw [←e];exact this.2
def isT (l:List Int)(m:Lf)(k:Nat):Bool:=(List.range k).all fun i=>decide (getL (l.getD i 0) (chgs (-1) (l.take (i+1)) m)≥0)
theorem isT_succ (l:List Int)(m:Lf)(k:Nat):isT l m (k+1)=(isT l m k&&decide (getL (l.getD k 0) (chgs (-1) (l.take (k+1)) m)≥0)):=by
 unfold isT
 rw [List.range_succ,List.all_append];simp
theorem isT_two (a b:Int)(m:Lf):isT [a,b] m 2=takeOK a b m:=by
 unfold isT takeOK takeL chgs
 simp [List.range_succ]
theorem chgs_two (a b:Int)(m:Lf):chgs (-1) [a,b] m=takeL a b m:=rfl
theorem put_two (a b:Int)(m:Lf):chgs 1 [a,b] (takeL a b m)=m:=by
 show chg 1 b (chg 1 a (chg (-1) b (chg (-1) a m)))=m
 rw [chg_comm 1 (-1) a b,chg_back,chg_back]
end Go.Mw
namespace Go.Mw
open Go.Proofs
open Go.Li
theorem le_succ {k:Nat}{l:List Int}(h:k<l.length):(l.take k).length=k:=by rw [List.length_take];omega
theorem c_take (g:Gr)(ks:List Int)(v:Value)(m:Lf)(hks:KS ks m)(l:List Int)(hl:∀t∈l,t∈ks)(hn:l.length≤10)(hb:MB 100 m):Con Try.prog 65 [.leaf (.d (tkP g ks v)),.leaf (.d (intsD l))] [(901,.map ((m).map encL)),(902,.pin v (.obj 901))] (.ret (.bool (isT l m l.length)) [(901,.map ((chgs (-1) l m).map encL)),(902,.pin v (.obj 901))]):=by
 have hz:chgs (-1) ([]:List Int) m=m:=rfl
 have hz2:isT l m 0=true:=rfl
 refine con_of follows_mixed Try.func65 rfl (by simp only [List.length_cons,List.length_nil,Try.ntmps65];omega) V215 rfl ?_
 refine Exec.reg ?_
 refine Run.o ?_
 refine Run.nil ?_
 refine Exec.reg ?_
 refine Run.o ?_
 refine Run.nil ?_
 refine Exec.assocS ?_
 refine Exec.reg ?_
 iterate 3 (refine Run.o ?_)
 refine Run.nil ?_
 refine Exec.blk ?_
 refine Exec.forA [0,5,8,9,10] [901,902] (l.length) (fun k=>[.slot 5 (.bool (isT l m k)),.slot 10 (.int k),.obj 901 (.map ((chgs (-1) (l.take k) m).map encL))]) (fun _=>True) (fun k=>by simp only [go_sem]<;>rfl) (by simp only [go_sem,Int.natCast_zero,List.take_zero,hz,hz2]<;>rfl) ?_ (fun k hk hX=>?_)
 ·trivial
 ·skip
  refine Exec.reg ?_
  refine Run.o ?_
  refine Run.nil ?_
  refine Exec.cndS V208 (fun hb11=>?_) (fun hb11=>?_)
  ·skip
   have hlt:=lt_of_dec hb11
   obtain ⟨t,ht⟩:=elem_of hb11
   have htk:=hl t (List.mem_of_getElem? ht)
   obtain ⟨hka,hba⟩:=chgs_ok (ks:=ks) (d:= -1) (by omega) (l.take k) hks hb
   rw [le_succ hlt] at hba
   have hmem:t∈(chgs (-1) (l.take k) m).map Prod.fst:=by rw [hka.keys];exact htk
   have hgb:=getL_bd (by omega) hba t
   have hgt:mapGet 0 (.int .i64 t) ((chgs (-1) (l.take k) m).map encL)=some (some (false,[.d (.i (getL t (chgs (-1) (l.take k) m)))])):=by rw [mL_get,find_get hmem];rfl
   have hcs:chgs (-1) (l.take (k+1)) m=chg (-1) t (chgs (-1) (l.take k) m):=by rw [take_snoc ht,chgs_snoc]
   have hst:mapSet 0 (.int .i64 t) (false,[.d (.i (getL t (chgs (-1) (l.take k) m)-1))]) ((chgs (-1) (l.take k) m).map encL)=some ((chg (-1) t (chgs (-1) (l.take k) m)).map encL):=by
    have h:=set_chg (t:=t) (d:= -1) (by rw [hka.keys];exact hks.nd) hmem
    rw [mL_set,←h];rfl
   have hg2:mapGet 0 (.int .i64 t) ((chg (-1) t (chgs (-1) (l.take k) m)).map encL)=some (some (false,[.d (.i (getL t (chg (-1) t (chgs (-1) (l.take k) m))))])):=by rw [mL_get,find_get (by rw [chg_keys];exact hmem)];rfl
   refine Exec.skipS ?_
   refine Exec.blk ?_
   refine Exec.reg ?_
   refine Run.o1 (by simp only [go_sem,ht,hgt,hst,hcs,hg2];(try simp (disch:=omega) only [if_pos]);(try simp only [go_sem,ht,hgt,hst,hcs,hg2])<;> rfl) ?_
   iterate 2 (refine Run.o1 V164 ?_)
   refine Run.nil ?_
   refine Exec.reg ?_
   iterate 4 (refine Run.o1 V164 ?_)
   refine Run.unpin 902 17 V208 V208 V208 ?_
   iterate 2 (refine Run.o1 V164 ?_)
   refine Run.o1 (by simp only [go_sem,ht,hgt,hst,hcs,hg2];(try simp (disch:=omega) only [IntWalk.i64_in,IntWalk.u64_in,IntWalk.i32_in,IntWalk.u8_in,if_neg,if_pos])<;> rfl) ?_
   refine Run.o1 V164 ?_
   refine Run.nil ?_
   by_cases hi:isT l m k=true
   ·skip
    have his:isT l m (k+1)=decide (getL t (chg (-1) t (chgs (-1) (l.take k) m))≥0):=by rw [isT_succ,hi,getD_of ht,hcs,Bool.true_and]
    refine Exec.reg1 ?_
    iterate 2 (refine Run.o1 V149 ?_)
    iterate 4 (refine Run.y1 V149 ?_)
    refine Run.unpin 902 26 V208 V208 V208 ?_
    iterate 3 (refine Run.y1 V149 ?_)
    iterate 2 (refine Run.o1 V149 ?_)
    refine Run.nil ?_
    refine BlkK.nrm ?_
    refine Exec.reg1 ?_
    refine Run.o1 V62 ?_
    refine Run.o1 V149 ?_
    refine Run.nil ?_
    refine ForK.nxt ?_ ?_ ?_
    ·omega
    ·exact Ghost.kp [0,5,8,9,10] [901,902] (by simp only [go_sem,ht,hgt,hst,hcs,hg2,hi,his]<;>first|exact eqz|rfl)
    ·trivial
   ·skip
    have hi:isT l m k=false:=by simpa using hi
    have his:isT l m (k+1)=false:=by rw [isT_succ,hi,Bool.false_and]
    refine Exec.reg1 ?_
    iterate 2 (refine Run.o1 V149 ?_)
    iterate 7 (refine Run.s ?_)
    iterate 2 (refine Run.o1 V149 ?_)
    refine Run.nil ?_
    refine BlkK.nrm ?_
    refine Exec.reg1 ?_
    refine Run.o1 V62 ?_
    refine Run.o1 V149 ?_
    refine Run.nil ?_
    refine ForK.nxt ?_ ?_ ?_
    ·omega
    ·exact Ghost.kp [0,5,8,9,10] [901,902] (by simp only [go_sem,ht,hgt,hst,hcs,hg2,hi,his]<;>first|exact eqz|rfl)
    ·trivial
  ·skip
   have hke:k=l.length:=by have:=ge_of_dec hb11;omega
   subst hke
   have e:=List.take_length (l:=l)
   refine Exec.exitS ?_
   refine ForK.ext ?_
   refine BlkK.hit ?_
   refine Exec.reg ?_
   iterate 2 (refine Run.o1 V205 ?_)
   refine Run.nil ?_
   exact Ends.fin [901,902] (rs:=[.tmp 4]) rfl V205 V167
theorem c_put (g:Gr)(ks:List Int)(v:Value)(m:Lf)(hks:KS ks m)(l:List Int)(hl:∀t∈l,t∈ks)(hn:l.length≤10)(hb:MB 100 m):Con Try.prog 66 [.leaf (.d (tkP g ks v)),.leaf (.d (intsD l))] [(901,.map ((m).map encL)),(902,.pin v (.obj 901))] (.ret (.tup []) [(901,.map ((chgs 1 l m).map encL)),(902,.pin v (.obj 901))]):=by
 have hz:chgs 1 ([]:List Int) m=m:=rfl
 refine con_of follows_mixed Try.func66 rfl (by simp only [List.length_cons,List.length_nil,Try.ntmps66];omega) V215 rfl ?_
 refine Exec.reg ?_
 iterate 3 (refine Run.o ?_)
 refine Run.nil ?_
 refine Exec.blk1 ?_
 refine Exec.forA [0,6,7,8] [901,902] (l.length) (fun k=>[.slot 8 (.int k),.obj 901 (.map ((chgs 1 (l.take k) m).map encL))]) (fun _=>True) (fun k=>by simp only [go_sem]<;>rfl) (by simp only [go_sem,Int.natCast_zero,List.take_zero,hz]<;>rfl) ?_ (fun k hk hX=>?_)
 ·trivial
 ·skip
  refine Exec.reg ?_
  refine Run.o ?_
  refine Run.nil ?_
  refine Exec.cndS V208 (fun hb9=>?_) (fun hb9=>?_)
  ·skip
   have hlt:=lt_of_dec hb9
   obtain ⟨t,ht⟩:=elem_of hb9
   have htk:=hl t (List.mem_of_getElem? ht)
   obtain ⟨hka,hba⟩:=chgs_ok (ks:=ks) (d:=1) (by omega) (l.take k) hks hb
   rw [le_succ hlt] at hba
   have hmem:t∈(chgs (1) (l.take k) m).map Prod.fst:=by rw [hka.keys];exact htk
   have hgb:=getL_bd (by omega) hba t
   have hgt:mapGet 0 (.int .i64 t) ((chgs (1) (l.take k) m).map encL)=some (some (false,[.d (.i (getL t (chgs (1) (l.take k) m)))])):=by rw [mL_get,find_get hmem];rfl
   have hcs:chgs (1) (l.take (k+1)) m=chg (1) t (chgs (1) (l.take k) m):=by rw [take_snoc ht,chgs_snoc]
   have hst:mapSet 0 (.int .i64 t) (false,[.d (.i (getL t (chgs (1) (l.take k) m)+1))]) ((chgs (1) (l.take k) m).map encL)=some ((chg (1) t (chgs (1) (l.take k) m)).map encL):=by
    have h:=set_chg (t:=t) (d:=1) (by rw [hka.keys];exact hks.nd) hmem
    rw [mL_set,←h]
   refine Exec.skipS ?_
   refine Exec.blk ?_
   refine Exec.reg ?_
   refine Run.o1 (by simp only [go_sem,ht,hgt,hst,hcs];(try simp (disch:=omega) only [if_pos]);(try simp only [go_sem,ht,hgt,hst,hcs])<;> rfl) ?_
   iterate 2 (refine Run.o1 V175 ?_)
   refine Run.nil ?_
   refine Exec.reg1 ?_
   iterate 4 (refine Run.o1 V175 ?_)
   refine Run.unpin 902 15 V208 V208 V208 ?_
   iterate 2 (refine Run.o1 V175 ?_)
   refine Run.o1 V74 ?_
   refine Run.o1 V175 ?_
   refine Run.nil ?_
   refine BlkK.nrm ?_
   refine Exec.reg1 ?_
   refine Run.o1 V74 ?_
   refine Run.o1 V175 ?_
   refine Run.nil ?_
   refine ForK.nxt ?_ ?_ ?_
   ·omega
   ·exact Ghost.kp [0,6,7,8] [901,902] (by simp only [go_sem,ht,hgt,hst,hcs]<;>first|exact eqz|rfl)
   ·trivial
  ·skip
   have hke:k=l.length:=by have:=ge_of_dec hb9;omega
   subst hke
   have e:=List.take_length (l:=l)
   refine Exec.exitS ?_
   refine ForK.ext ?_
   refine Blk1K.hit ?_
   exact Ends.fin0 [901,902] (rs:=[]) rfl V205 V167
end Go.Mw
namespace Go.Mw
open Go.Proofs
open Go.Li
abbrev idlD (g:Gr)(ks:List Int)(v:Value)(l:List Pr)(idl:Bool):D:=.fn 77 [.pt [.bo idl],.pt [prsD l],.pt [tkP g ks v]]
abbrev prsF (g:Gr)(ks:List Int)(v:Value)(q:Pr):D:=.fn 78 [.pt [tkP g ks v],.pt (encPr q)]
abbrev rowN (t:Tr):List AV:=[trV t]
abbrev rowP (p:Pr):List AV:=[prV p]
def idR (ks:List Int)(m:Lf)(l:List Pr)(k:Nat):List (List AV):=((ks.drop k).filter fun t=>decide (getL t m>0)).map fun t=>rowN ⟨l,t⟩
theorem drop_get {α:Type}{l:List α}{k:Nat}{x:α}(h:l[k]? = some x):l.drop k=x::l.drop (k+1):=by
 obtain ⟨hk,rfl⟩:=List.getElem?_eq_some_iff.1 h
 exact List.drop_eq_getElem_cons hk
theorem idR_yes {ks:List Int}{m:Lf}{l:List Pr}{k:Nat}{t:Int}(h:ks[k]? = some t)(hp:getL t m>0):idR ks m l k=rowN ⟨l,t⟩::idR ks m l (k+1):=by
 unfold idR;rw [drop_get h,List.filter_cons_of_pos (by simpa using hp)];rfl
theorem idR_no {ks:List Int}{m:Lf}{l:List Pr}{k:Nat}{t:Int}(h:ks[k]? = some t)(hp:¬getL t m>0):idR ks m l k=idR ks m l (k+1):=by
 unfold idR;rw [drop_get h,List.filter_cons_of_neg (by simpa using hp)]
theorem idR_end {ks:List Int}{m:Lf}{l:List Pr}:idR ks m l ks.length=[]:=by unfold idR;rw [List.drop_length];rfl
theorem idl_rows (ks:List Int)(m:Lf)(l:List Pr):(idlL ks m l true).map rowN=idR ks m l 0:=by
 unfold idlL idR
 rw [if_pos rfl,List.map_map,List.drop_zero];rfl
theorem idl_one (ks:List Int)(m:Lf)(l:List Pr)(Q:List (Nat × AO)):qB ((idlL ks m l false).map rowN) Q=.yld (rowN ⟨l,0⟩) fun _=>.ret (.tup []) Q:=by
 show yB [rowN ⟨l,0⟩] _=_
 rw [yB_one]
def cndP (room:Int)(q p:Pr):Bool:=decide (cmpP p q≥0)&&decide (p.a+p.b≤room)
def remI (ks:List Int)(room:Int)(q:Pr)(a:Int)(j:Nat):List Pr:=((ks.drop j).map (Pr.mk a)).filter (cndP room q)
def remO (ks:List Int)(room:Int)(q:Pr)(k:Nat):List Pr:=((ks.drop k).flatMap fun a=>ks.map (Pr.mk a)).filter (cndP room q)
theorem remO_all (ks:List Int)(room:Int)(q:Pr):pairsL ks room q=remO ks room q 0:=rfl
theorem remO_get {ks:List Int}{room:Int}{q:Pr}{k:Nat}{a:Int}(h:ks[k]? = some a):(remO ks room q k).map rowP=(remI ks room q a 0++remO ks room q (k+1)).map rowP:=by
 unfold remO remI;rw [drop_get h,List.flatMap_cons,List.filter_append,List.drop_zero]
theorem remO_end {ks:List Int}{room:Int}{q:Pr}:(remO ks room q ks.length).map rowP=[]:=by unfold remO;rw [List.drop_length];rfl
theorem remI_end {ks:List Int}{room:Int}{q:Pr}{a:Int}{r:List Pr}:(remI ks room q a ks.length++r).map rowP=r.map rowP:=by unfold remI;rw [List.drop_length];rfl
theorem remI_yes {ks:List Int}{room:Int}{q:Pr}{a b:Int}{j:Nat}{r:List Pr}(h:ks[j]? = some b)(hc:cndP room q ⟨a,b⟩=true):(remI ks room q a j++r).map rowP=rowP ⟨a,b⟩::(remI ks room q a (j+1)++r).map rowP:=by
 unfold remI;rw [drop_get h,List.map_cons,List.filter_cons_of_pos hc];rfl
theorem remI_no {ks:List Int}{room:Int}{q:Pr}{a b:Int}{j:Nat}{r:List Pr}(h:ks[j]? = some b)(hc:¬cndP room q ⟨a,b⟩=true):(remI ks room q a j++r).map rowP=(remI ks room q a (j+1)++r).map rowP:=by
 unfold remI;rw [drop_get h,List.map_cons,List.filter_cons_of_neg hc]
theorem c_idlers (g:Gr)(ks:List Int)(v:Value)(l:List Pr)(idl:Bool):Contract Try.prog 63 [.leaf (.d (tkP g ks v)),.leaf (.d (prsD l)),.bool idl] (.leaf (.d (idlD g ks v l idl))) []:=by
 refine con_of follows_mixed Try.func63 rfl (by simp only [List.length_cons,List.length_nil,Try.ntmps63];omega) V215 rfl ?_
 refine Exec.reg ?_
 iterate 4 (refine Run.o ?_)
 refine Run.nil ?_
 refine Exec.reg ?_
 refine Run.frz 3 V208 ?_
 refine Run.frz 4 V208 ?_
 refine Run.frz 5 V208 ?_
 iterate 2 (refine Run.o ?_)
 refine Run.nil ?_
 exact Ends.fin [] (rs:=[.tmp 6]) rfl V208 V171
theorem c_pairs (g:Gr)(ks:List Int)(v:Value)(q:Pr):Contract Try.prog 64 [.leaf (.d (tkP g ks v)),prV q] (.leaf (.d (prsF g ks v q))) []:=by
 refine con_of follows_mixed Try.func64 rfl (by simp only [List.length_cons,List.length_nil,Try.ntmps64];omega) V215 rfl ?_
 refine Exec.reg ?_
 iterate 3 (refine Run.o ?_)
 refine Run.nil ?_
 refine Exec.reg ?_
 refine Run.frz 2 V208 ?_
 refine Run.frz 3 V208 ?_
 iterate 2 (refine Run.o ?_)
 refine Run.nil ?_
 exact Ends.fin [] (rs:=[.tmp 4]) rfl V208 V171
theorem c_idl_t (g:Gr)(ks:List Int)(v:Value)(m:Lf)(hks:KS ks m)(l:List Pr)(hn:ks.length≤1000):Con Try.prog 77 [.leaf (.obj 900),.leaf (.d (.pt [.bo true])),.leaf (.d (.pt [prsD l])),.leaf (.d (.pt [tkP g ks v]))] ((900,.yl)::[(901,.map ((m).map encL)),(902,.pin v (.obj 901))]) (qB ((idlL ks m l true).map rowN) [(901,.map ((m).map encL)),(902,.pin v (.obj 901))]):=by
 rw [idl_rows]
 refine con_of follows_mixed Try.func77 rfl (by simp only [List.length_cons,List.length_nil,Try.ntmps77];omega) V215 rfl ?_
 refine Exec.assocS ?_
 refine Exec.reg ?_
 iterate 2 (refine Run.o ?_)
 refine Run.nil ?_
 refine Exec.cndS V208 (fun hb8=>?_) (fun hb8=>?_)
 ·exact absurd hb8 (by simp)
 ·skip
  refine Exec.skipS ?_
  refine Exec.reg ?_
  iterate 6 (refine Run.o ?_)
  refine Run.nil ?_
  refine Exec.blk1 ?_
  refine Exec.forY [0,2,3,16,17,18] [900,901,902] (ks.length) (fun k=>[.slot 18 (.int k)]) (fun k=>qB (idR ks m l k) [(901,.map ((m).map encL)),(902,.pin v (.obj 901))]) (fun _=>True) (fun k=>by simp only [go_sem]<;>rfl) V180 ?_ (fun k hk hX=>?_)
  ·trivial
  ·skip
   refine Exec.reg ?_
   refine Run.o ?_
   refine Run.nil ?_
   refine Exec.cndS V208 (fun hb19=>?_) (fun hb19=>?_)
   ·skip
    have hlt:=lt_of_dec hb19
    obtain ⟨t,ht⟩:=elem_of hb19
    have hmem:t∈m.map Prod.fst:=by rw [hks.keys];exact List.mem_of_getElem? ht
    have hgt:mapGet 0 (.int .i64 t) (m.map encL)=some (some (false,[.d (.i (getL t m))])):=by rw [mL_get,find_get hmem];rfl
    refine Exec.skipS ?_
    refine Exec.blk ?_
    refine Exec.reg ?_
    refine Run.o1 (by simp only [go_sem,ht,hgt];(try simp (disch:=omega) only [if_pos]);(try simp only [go_sem,ht,hgt])<;> rfl) ?_
    iterate 2 (refine Run.o1 (by simp only [go_sem,ht,hgt]<;>rfl) ?_)
    refine Run.nil ?_
    by_cases hp:getL t m>0
    ·skip
     have hd:decide (getL t m>0)=true:=decide_eq_true hp
     have hrow:=idR_yes (l:=l) ht hp
     refine Exec.reg ?_
     iterate 4 (refine Run.o1 V190 ?_)
     refine Run.unpin 902 25 V208 V208 V208 ?_
     iterate 4 (refine Run.o1 V190 ?_)
     iterate 4 (refine Run.y1 V190 ?_)
     refine Run.yldw (args:=rowN ⟨l,t⟩) V208 V208 V208 (by simp only [go_sem,hrow,qB,yB_cons]<;>rfl) V206 (by simp only [hrow,qB,yB_cons]<;>rfl) (fun r=>?_)
     refine Run.y1 V190 ?_
     refine Run.o1 V190 ?_
     refine Run.nil ?_
     refine Exec.cnd V190 (fun hb36=>?_) (fun hb36=>?_)
     ·skip
      have hr:r=false:=by simpa using hb36
      subst hr
      refine BlkK.ret ?_
      refine ForK.ret ?_
      refine Blk1K.ret ?_
      exact Ends.fin [901,902] (rs:=[]) rfl V190 (by simp only [go_sem,ht,hgt,hd]<;>first|rfl|exact eqz)
     ·skip
      have hr:r=true:=by simpa using hb36
      subst hr
      refine BlkK.nrm ?_
      refine Exec.reg1 ?_
      refine Run.o1 (by simp only [go_sem,ht,hgt,hd];(try simp (disch:=omega) only [IntWalk.i64_in,IntWalk.u64_in,IntWalk.i32_in,IntWalk.u8_in,if_neg,if_pos])<;> rfl) ?_
      refine Run.o1 V190 ?_
      refine Run.nil ?_
      refine ForK.nxt ?_ ?_ ?_
      ·omega
      ·exact Ghost.kp [0,2,3,16,17,18] [900,901,902] (by simp only [go_sem,ht,hgt,hd]<;>first|exact eqz|rfl)
      ·trivial
    ·skip
     have hd:decide (getL t m>0)=false:=decide_eq_false hp
     have hrow:=idR_no (l:=l) ht hp
     refine Exec.reg ?_
     iterate 4 (refine Run.o1 V176 ?_)
     refine Run.unpin 902 25 V208 V208 V208 ?_
     iterate 4 (refine Run.o1 V176 ?_)
     iterate 6 (refine Run.s ?_)
     refine Run.o1 V176 ?_
     refine Run.nil ?_
     refine Exec.cnd V176 (fun hb36=>?_) (fun hb36=>?_)
     ·exact absurd hb36 (by simp)
     ·skip
      refine BlkK.nrm ?_
      refine Exec.reg1 ?_
      refine Run.o1 (by simp only [go_sem,ht,hgt,hd,hrow];(try simp (disch:=omega) only [IntWalk.i64_in,IntWalk.u64_in,IntWalk.i32_in,IntWalk.u8_in,if_neg,if_pos])<;> rfl) ?_
      refine Run.o1 V176 ?_
      refine Run.nil ?_
      refine ForK.nxt ?_ ?_ ?_
      ·omega
      ·exact Ghost.kp [0,2,3,16,17,18] [900,901,902] (by simp only [go_sem,ht,hgt,hd,hrow]<;>first|exact eqz|rfl)
      ·trivial
   ·skip
    have hke:k=ks.length:=by have:=ge_of_dec hb19;omega
    subst hke
    have hr:=idR_end (ks:=ks) (m:=m) (l:=l)
    refine Exec.exitS ?_
    refine ForK.ext ?_
    refine Blk1K.hit ?_
    exact Ends.fin0 [901,902] (rs:=[]) rfl (by simp only [go_sem,hr,qB,yB_nil]<;>rfl) (by simp only [go_sem,hr,qB,yB_nil]<;>first|rfl|exact eqz)
theorem c_idl_f (g:Gr)(ks:List Int)(v:Value)(m:Lf)(hks:KS ks m)(l:List Pr)(hn:ks.length≤1000):Con Try.prog 77 [.leaf (.obj 900),.leaf (.d (.pt [.bo false])),.leaf (.d (.pt [prsD l])),.leaf (.d (.pt [tkP g ks v]))] ((900,.yl)::[(901,.map ((m).map encL)),(902,.pin v (.obj 901))]) (qB ((idlL ks m l false).map rowN) [(901,.map ((m).map encL)),(902,.pin v (.obj 901))]):=by
 rw [idl_one]
 refine con_of follows_mixed Try.func77 rfl (by simp only [List.length_cons,List.length_nil,Try.ntmps77];omega) V215 rfl ?_
 refine Exec.assocS ?_
 refine Exec.reg ?_
 iterate 2 (refine Run.o ?_)
 refine Run.nil ?_
 refine Exec.cndS V208 (fun hb8=>?_) (fun hb8=>?_)
 ·skip
  refine Exec.assocS ?_
  refine Exec.reg ?_
  iterate 3 (refine Run.o ?_)
  refine Run.yld (args:=rowN ⟨l,0⟩) V208 V208 V208 V206 rfl (fun r=>?_)
  refine Run.nil ?_
  refine Exec.retS ?_
  exact Ends.fin [901,902] (rs:=[]) rfl V208 V171
 ·exact absurd hb8 (by simp)
theorem c_pairs_1 (g:Gr)(ks:List Int)(v:Value)(q:Pr)(hkb:∀k∈ks,6≤k∧k≤100)(hn:ks.length≤1000):Con Try.prog 78 [.leaf (.obj 900),.leaf (.d (.pt [tkP g ks v])),.leaf (.d (.pt (encPr q)))] [(900,.yl)] (lB ((pairsL ks g.room q).map rowP)):=by
 rw [remO_all]
 refine con_of follows_mixed Try.func78 rfl (by simp only [List.length_cons,List.length_nil,Try.ntmps78];omega) V215 rfl ?_
 refine Exec.reg ?_
 iterate 6 (refine Run.o ?_)
 refine Run.nil ?_
 refine Exec.blk1 ?_
 refine Exec.forY [0,1,2,12,13,14] [900] (ks.length) (fun k=>[.slot 14 (.int k)]) (fun k=>lB ((remO ks g.room q k).map rowP)) (fun _=>True) (fun k=>by simp only [go_sem]<;>rfl) V180 ?_ (fun k hk hX=>?_)
 ·trivial
 ·skip
  refine Exec.reg ?_
  refine Run.o ?_
  refine Run.nil ?_
  refine Exec.cndS V208 (fun hb15=>?_) (fun hb15=>?_)
  ·skip
   have hlt:=lt_of_dec hb15
   obtain ⟨a,ha⟩:=elem_of hb15
   have ha6:=hkb a (List.mem_of_getElem? ha)
   have hrow0:=remO_get (room:=g.room) (q:=q) ha
   refine Exec.skipS ?_
   refine Exec.blk ?_
   refine Exec.reg ?_
   refine Run.o1 (by simp only [go_sem,ha];(try simp (disch:=omega) only [if_pos]);(try simp only [go_sem,ha])<;> rfl) ?_
   iterate 2 (refine Run.o1 (by simp only [go_sem,ha]<;>rfl) ?_)
   refine Run.nil ?_
   refine Exec.reg ?_
   iterate 6 (refine Run.o1 (by simp only [go_sem,ha]<;>rfl) ?_)
   refine Run.nil ?_
   refine Exec.blk1 ?_
   refine Exec.forY [0,1,2,5,12,13,14,21,22,23] [900] (ks.length) (fun j=>[.slot 23 (.int j)]) (fun j=>lB ((remI ks g.room q a j++remO ks g.room q (k+1)).map rowP)) (fun _=>True) (fun j=>by simp only [go_sem]<;>rfl) (by simp only [go_sem,ha,Int.natCast_zero,hrow0]<;>rfl) ?_ (fun j hj Xj=>?_)
   ·trivial
   ·skip
    refine Exec.reg ?_
    refine Run.o1 (by simp only [go_sem,ha]<;>rfl) ?_
    refine Run.nil ?_
    refine Exec.cndS (by simp only [go_sem,ha]<;>rfl) (fun hb24=>?_) (fun hb24=>?_)
    ·skip
     have hlj:=lt_of_dec hb24
     obtain ⟨b,hb⟩:=elem_of hb24
     have hb6:=hkb b (List.mem_of_getElem? hb)
     refine Exec.skipS ?_
     refine Exec.blk ?_
     refine Exec.reg ?_
     refine Run.o1 (by simp only [go_sem,ha,hb];(try simp (disch:=omega) only [if_pos]);(try simp only [go_sem,ha,hb])<;> rfl) ?_
     iterate 2 (refine Run.o1 (by simp only [go_sem,ha,hb]<;>rfl) ?_)
     refine Run.nil ?_
     refine Exec.reg ?_
     iterate 5 (refine Run.o1 (by simp only [go_sem,ha,hb]<;>rfl) ?_)
     refine Run.nil ?_
     by_cases c1:cmpP ⟨a,b⟩ q≥0
     ·skip
      have d1:decide (cmpP ⟨a,b⟩ q≥0)=true:=decide_eq_true c1
      by_cases c2:a+b≤g.room
      ·skip
       have d2:decide (a+b≤g.room)=true:=decide_eq_true c2
       have hrow:=remI_yes (room:=g.room) (q:=q) (a:=a) (r:=remO ks g.room q (k+1)) hb (by unfold cndP;rw [d1,d2];rfl)
       refine Exec.reg ?_
       iterate 2 (refine Run.o1 V183 ?_)
       refine Run.c1 (c_compare ⟨a,b⟩ q) V183 V183 ?_
       iterate 2 (refine Run.o1 V183 ?_)
       iterate 2 (refine Run.y1 V183 ?_)
       refine Run.y1 V76 ?_
       iterate 6 (refine Run.y1 V183 ?_)
       iterate 2 (refine Run.o1 V183 ?_)
       iterate 2 (refine Run.y1 V183 ?_)
       refine Run.yldw (args:=rowP ⟨a,b⟩) V208 V208 V208 (by simp only [go_sem,hrow,lB_cons]<;>rfl) V206 (by simp only [hrow,lB_cons]<;>rfl) (fun r=>?_)
       refine Run.y1 V183 ?_
       refine Run.o1 V183 ?_
       refine Run.nil ?_
       refine Exec.cnd V183 (fun hb50=>?_) (fun hb50=>?_)
       ·skip
        have hr:r=false:=by simpa using hb50
        subst hr
        refine BlkK.ret ?_
        refine ForK.ret ?_
        refine Blk1K.ret ?_
        refine BlkK.ret ?_
        refine ForK.ret ?_
        refine Blk1K.ret ?_
        exact Ends.fin [] (rs:=[]) rfl V183 (by simp only [go_sem,ha,hb,d1,d2]<;>first|rfl|exact eqz)
       ·skip
        have hr:r=true:=by simpa using hb50
        subst hr
        refine BlkK.nrm ?_
        refine Exec.reg1 ?_
        refine Run.o1 V76 ?_
        refine Run.o1 V183 ?_
        refine Run.nil ?_
        refine ForK.nxt ?_ ?_ ?_
        ·omega
        ·exact Ghost.kp [0,1,2,5,12,13,14,21,22,23] [900] (by simp only [go_sem,ha,hb,d1,d2]<;>first|exact eqz|rfl)
        ·trivial
      ·skip
       have d2:decide (a+b≤g.room)=false:=decide_eq_false c2
       have hrow:=remI_no (room:=g.room) (q:=q) (a:=a) (r:=remO ks g.room q (k+1)) hb (by unfold cndP;rw [d1,d2];decide)
       refine Exec.reg ?_
       iterate 2 (refine Run.o1 V169 ?_)
       refine Run.c1 (c_compare ⟨a,b⟩ q) V169 V169 ?_
       iterate 2 (refine Run.o1 V169 ?_)
       iterate 2 (refine Run.y1 V169 ?_)
       refine Run.y1 V68 ?_
       iterate 6 (refine Run.y1 V169 ?_)
       iterate 2 (refine Run.o1 V169 ?_)
       iterate 4 (refine Run.s ?_)
       refine Run.o1 V169 ?_
       refine Run.nil ?_
       refine Exec.cnd V169 (fun hb50=>?_) (fun hb50=>?_)
       ·exact absurd hb50 (by simp)
       ·skip
        refine BlkK.nrm ?_
        refine Exec.reg1 ?_
        refine Run.o1 V68 ?_
        refine Run.o1 V169 ?_
        refine Run.nil ?_
        refine ForK.nxt ?_ ?_ ?_
        ·omega
        ·exact Ghost.kp [0,1,2,5,12,13,14,21,22,23] [900] (by simp only [go_sem,ha,hb,d1,d2,hrow]<;>first|exact eqz|rfl)
        ·trivial
     ·skip
      have d1:decide (cmpP ⟨a,b⟩ q≥0)=false:=decide_eq_false c1
      have hrow:=remI_no (room:=g.room) (q:=q) (a:=a) (r:=remO ks g.room q (k+1)) hb (by unfold cndP;rw [d1];simp)
      refine Exec.reg ?_
      iterate 2 (refine Run.o1 V181 ?_)
      refine Run.c1 (c_compare ⟨a,b⟩ q) V181 V181 ?_
      iterate 2 (refine Run.o1 V181 ?_)
      iterate 9 (refine Run.s ?_)
      iterate 2 (refine Run.o1 V181 ?_)
      iterate 4 (refine Run.s ?_)
      refine Run.o1 V181 ?_
      refine Run.nil ?_
      refine Exec.cnd V181 (fun hb50=>?_) (fun hb50=>?_)
      ·exact absurd hb50 (by simp)
      ·skip
       refine BlkK.nrm ?_
       refine Exec.reg1 ?_
       refine Run.o1 (by simp only [go_sem,ha,hb,d1,hrow];(try simp (disch:=omega) only [IntWalk.i64_in,IntWalk.u64_in,IntWalk.i32_in,IntWalk.u8_in,if_neg,if_pos])<;> rfl) ?_
       refine Run.o1 V181 ?_
       refine Run.nil ?_
       refine ForK.nxt ?_ ?_ ?_
       ·omega
       ·exact Ghost.kp [0,1,2,5,12,13,14,21,22,23] [900] (by simp only [go_sem,ha,hb,d1,hrow]<;>first|exact eqz|rfl)
       ·trivial
    ·skip
     have hje:j=ks.length:=by have:=ge_of_dec hb24;omega
     subst hje
     have hr:=remI_end (ks:=ks) (room:=g.room) (q:=q) (a:=a) (r:=remO ks g.room q (k+1))
     refine Exec.exitS ?_
     refine ForK.ext ?_
     refine Blk1K.hit ?_
     refine BlkK.nrm ?_
     refine Exec.reg1 ?_
     refine Run.o1 (by simp only [go_sem,ha,hr];(try simp (disch:=omega) only [IntWalk.i64_in,IntWalk.u64_in,IntWalk.i32_in,IntWalk.u8_in,if_neg,if_pos])<;> rfl) ?_
     refine Run.o1 (by simp only [go_sem,ha,hr]<;>rfl) ?_
     refine Run.nil ?_
     refine ForK.nxt ?_ ?_ ?_
     ·omega
     ·exact Ghost.kp [0,1,2,12,13,14] [900] (by simp only [go_sem,ha,hr]<;>first|exact eqz|rfl)
     ·trivial
  ·skip
   have hke:k=ks.length:=by have:=ge_of_dec hb15;omega
   subst hke
   have hr:=remO_end (ks:=ks) (room:=g.room) (q:=q)
   refine Exec.exitS ?_
   refine ForK.ext ?_
   refine Blk1K.hit ?_
   exact Ends.fin0 [] (rs:=[]) rfl (by simp only [go_sem,hr,lB_nil]<;>rfl) (by simp only [go_sem,hr,lB_nil]<;>first|rfl|exact eqz)
end Go.Mw
namespace Go.Mw
open Go.Proofs
open Go.Li
def onQ (g:Gr)(ks:List Int)(v:Value)(many idli:Int)(m:Lf):List (Nat × AO):=[(900,.yl),(903,.cells [.obj 900]),(904,.cells [.obj 905]),(905,.clo 62 [.d (.pt [.i many]),.d (.pt [tkP g ks v]),.d (.pt [.i idli]),.ptr 903 0,.ptr 904 0]),(901,.map (m.map encL)),(902,.pin v (.obj 901))]
theorem onQ_ok (g:Gr)(ks:List Int)(v:Value)(many idli:Int)(m:Lf){A:ASt}{B:Nat}{lend:List (Nat × Nat)}{l:List (List AV)}(hdom:lend.map Prod.fst=[900,903,904,905,901,902])(hinj:(lend.map Prod.snd).Nodup)
  (h0:∀n,look lend 900=some n→A.obj n=some .yl) (h1:∀n,look lend 903=some n→A.obj n=some (.cells [.obj (rn lend B 900)])) (h2:∀n,look lend 904=some n→A.obj n=some (.cells [.obj (rn lend B 905)]))
  (h3:∀n,look lend 905=some n→A.obj n=some (.clo 62 [.d (.pt [.i many]),.d (.pt [tkP g ks v]),.d (.pt [.i idli]),.ptr (rn lend B 903) 0,.ptr (rn lend B 904) 0]))
  (h4:∀n,look lend 901=some n→A.obj n=some (.map (m.map encL))) (h5:∀n,look lend 902=some n→A.obj n=some (.pin v (.obj (rn lend B 901)))) (htg:(lend.all fun p=>tagTy (p.2%1000)==tagTy (p.1%1000))=true:=by rfl):CallOK A B lend (onQ g ks v many idli m) (yB l (retB (onQ g ks v many idli m))):=by
 refine callOK_sm hdom hinj ?_ (fun p hp n hn=>?_) htg
 ·unfold onQ
  simp only [List.all_cons,List.all_nil,inn_mL,Bool.and_true,Bool.true_and]
  rfl
 ·unfold onQ at hp
  simp only [List.mem_cons,List.not_mem_nil,or_false] at hp
  rcases hp with rfl|rfl|rfl|rfl|rfl|rfl
  ·exact h0 n hn
  ·exact h1 n hn
  ·exact h2 n hn
  ·exact h3 n hn
  ·have:=h4 n hn;rw [this];congr 1;exact (ren_mL _ m).symm
  ·exact h5 n hn
theorem onQ_ren (g:Gr)(ks:List Int)(v:Value)(many idli:Int)(m:Lf)(lend:List (Nat × Nat))(B:Nat):(onQ g ks v many idli m).map (fun p=>(rn lend B p.1,p.2.ren (rn lend B))) =
  [(rn lend B 900,.yl),(rn lend B 903,.cells [.obj (rn lend B 900)]),(rn lend B 904,.cells [.obj (rn lend B 905)]),(rn lend B 905,.clo 62 [.d (.pt [.i many]),.d (.pt [tkP g ks v]),.d (.pt [.i idli]),.ptr (rn lend B 903) 0,.ptr (rn lend B 904) 0]),(rn lend B 901,.map (m.map encL)),(rn lend B 902,.pin v (.obj (rn lend B 901)))]:=by
 unfold onQ
 simp only [List.map_cons,List.map_nil]
 rw [ren_mL]
 rfl
attribute [local go_sem] onQ
theorem qi_mL (v:Value)(m:Lf):∀p∈([(901,.map ((m).map encL)),(902,.pin v (.obj 901))]:List (Nat × AO)),p.2≠.yl∧p.2.inn (nms [(901,.map ((m).map encL)),(902,.pin v (.obj 901))])=true:=by
 intro p hp
 simp only [List.mem_cons,List.not_mem_nil,or_false] at hp
 rcases hp with rfl|rfl
 ·exact ⟨by simp,inn_mL _ m⟩
 ·exact ⟨by simp,rfl⟩
theorem c_idl (g:Gr)(ks:List Int)(v:Value)(m:Lf)(hks:KS ks m)(l:List Pr)(hn:ks.length≤1000)(idl:Bool):Con Try.prog 77 [.leaf (.obj 900),.leaf (.d (.pt [.bo idl])),.leaf (.d (.pt [prsD l])),.leaf (.d (.pt [tkP g ks v]))] ((900,.yl)::[(901,.map ((m).map encL)),(902,.pin v (.obj 901))]) (qB ((idlL ks m l idl).map rowN) [(901,.map ((m).map encL)),(902,.pin v (.obj 901))]):=by
 cases idl with
 |true=>exact c_idl_t g ks v m hks l hn
 |false=>exact c_idl_f g ks v m hks l hn
theorem rows_at {α:Type}{f:α→List AV}{l:List α}{k:Nat}{v:List AV}(h:(l.map f)[k]? = some v):∃x,l[k]? = some x∧v=f x:=by
 rw [List.getElem?_map] at h
 cases hx:l[k]? with
 |none=>simp [hx] at h
 |some x=>exact ⟨x,rfl,by simpa [hx] using h.symm⟩
def onR (ks:List Int)(room:Int)(idl:Bool)(n:Nat)(m:Lf)(l:List Pr)(q:Pr)(k:Nat):List Tr:=
 ((pairsL ks room q).drop k).flatMap fun p=>if takeOK p.a p.b m then onL ks room idl n (takeL p.a p.b m) (l++[p]) p else []
theorem onR_zero (ks:List Int)(room:Int)(idl:Bool)(n:Nat)(m:Lf)(l:List Pr)(q:Pr):onL ks room idl (n+1) m l q=onR ks room idl n m l q 0:=rfl
theorem onR_end {ks:List Int}{room:Int}{idl:Bool}{n:Nat}{m:Lf}{l:List Pr}{q:Pr}:onR ks room idl n m l q (pairsL ks room q).length=[]:=by unfold onR;rw [List.drop_length];rfl
theorem onR_yes {ks:List Int}{room:Int}{idl:Bool}{n:Nat}{m:Lf}{l:List Pr}{q p:Pr}{k:Nat}(h:(pairsL ks room q)[k]? = some p)(hT:takeOK p.a p.b m=true) :
  (onR ks room idl n m l q k).map rowN=(onL ks room idl n (takeL p.a p.b m) (l++[p]) p).map rowN++(onR ks room idl n m l q (k+1)).map rowN:=by
 unfold onR;rw [drop_get h,List.flatMap_cons,if_pos hT,List.map_append]
theorem onR_no {ks:List Int}{room:Int}{idl:Bool}{n:Nat}{m:Lf}{l:List Pr}{q p:Pr}{k:Nat}(h:(pairsL ks room q)[k]? = some p)(hT:¬takeOK p.a p.b m=true) :
  (onR ks room idl n m l q k).map rowN=(onR ks room idl n m l q (k+1)).map rowN:=by
 unfold onR;rw [drop_get h,List.flatMap_cons,if_neg hT,List.nil_append]
theorem c_on_end (g:Gr)(ks:List Int)(v:Value)(many idli:Int)(hkb:∀k∈ks,6≤k∧k≤100)(hn:ks.length≤1000)(m:Lf)(hks:KS ks m)(l:List Pr)(q:Pr)(hl:(l.length:Int)=many):Con Try.prog 62 [.leaf (.d (prsD l)),prV q,.leaf (.d (.pt [.i many])),.leaf (.d (.pt [tkP g ks v])),.leaf (.d (.pt [.i idli])),.leaf (.ptr 903 0),.leaf (.ptr 904 0)] (onQ g ks v many idli m) (yB ((onL ks g.room (idli==1) 0 m l q).map rowN) (retB (onQ g ks v many idli m))):=by
 have hm1:((l.length:Int)==many)=true:=by rw [beq_iff_eq];exact hl
 have e0:onL ks g.room (idli==1) 0 m l q=idlL ks m l (idli==1):=rfl
 rw [e0]
 refine con_of follows_mixed Try.func62 rfl (by simp only [List.length_cons,List.length_nil,Try.ntmps62];omega) V215 rfl ?_
 refine Exec.reg ?_
 iterate 3 (refine Run.o1 V201 ?_)
 refine Run.nil ?_
 refine Exec.scp ?_
 refine Exec.assocS ?_
 refine Exec.reg ?_
 iterate 4 (refine Run.o1 V201 ?_)
 refine Run.nil ?_
 refine Exec.cndS V201 (fun hb16=>?_) (fun hb16=>?_)
 ·skip
  refine Exec.assocS ?_
  refine Exec.assocS ?_
  refine Exec.reg ?_
  iterate 4 (refine Run.o1 V201 ?_)
  refine Run.c1 (c_idlers g ks v l (idli==1)) V201 V201 ?_
  refine Run.nil ?_
  refine Exec.blk ?_
  refine Exec.rangeQ 77 [.pt [.bo (idli==1)],.pt [prsD l],.pt [tkP g ks v]] 900 (((idlL ks m l (idli==1)).map rowN)) [5,9,21] [900,903,904,905,7,8,9] ([(901,.map ((m).map encL)),(902,.pin v (.obj 901))]) (fun k=>[]) (fun k=>yB (((idlL ks m l (idli==1)).map rowN).drop k) (retB (onQ g ks v many idli m))) (fun _=>True) (fun k=>by simp only [go_sem]<;>rfl) (by simp only [go_sem,nms,hm1,List.drop_zero]<;>rfl) (by simp only [go_sem,hm1,List.drop_zero]<;>rfl) (by simp only [go_sem,hm1,List.drop_zero]<;>rfl) (fun _=>by rfl) rfl V208 V210 (by rfl) (qi_mL v m) (c_idl g ks v m hks l hn (idli==1)) V212 ?_ (fun k v hv hX=>?_) (fun hX=>?_)
  ·trivial
  ·skip
   obtain ⟨t,ht,rfl⟩:=rows_at hv
   have hdr:=drop_get hv
   refine ⟨rfl,?_⟩
   refine Exec.reg1 ?_
   iterate 2 (refine Run.o1 V201 ?_)
   refine Run.nil ?_
   refine ⟨rfl,?_⟩
   refine Exec.blk1 ?_
   refine Exec.reg ?_
   iterate 2 (refine Run.o1 V201 ?_)
   refine Run.yld (args:=rowN t) V208 V208 V208 V206 (by simp only [go_sem,hdr,yB_cons]<;>rfl) (fun r=>?_)
   refine Run.o1 V201 ?_
   refine Run.nil ?_
   refine Exec.cnd V201 (fun hb26=>?_) (fun hb26=>?_)
   ·skip
    have hr:r=false:=by simpa using hb26
    subst hr
    refine Exec.reg ?_
    refine Run.o1 V201 ?_
    refine Run.nil ?_
    refine Blk1K.ret ?_
    refine RngQ.ret V208 V208 ?_
    refine BlkK.ret ?_
    exact Ends.fin [900,903,904,905,901,902] (rs:=[.cell 9 4]) rfl V201 (by simp only [go_sem,hm1]<;>first|rfl|exact eqz)
   ·skip
    have hr:r=true:=by simpa using hb26
    subst hr
    refine Blk1K.nrm ?_
    refine RngQ.nrm ?_ ?_
    ·exact Ghost.kl [900,903,904,905,7,8,9] (by simp only [go_sem,hm1]<;>first|exact eqz|rfl)
    ·trivial
  ·skip
   have hdn:List.drop (idlL ks m l (idli==1)).length ((idlL ks m l (idli==1)).map rowN)=[]:=List.drop_eq_nil_of_le (by simp)
   refine BlkK.nrm ?_
   refine Exec.assocS ?_
   refine Exec.reg ?_
   refine Run.o1 (by simp only [go_sem,hm1,hdn,yB_nil]<;>rfl) ?_
   refine Run.nil ?_
   refine Exec.retS ?_
   exact Ends.fin [900,903,904,905,901,902] (rs:=[.cell 9 4]) rfl (by simp only [go_sem,hm1,hdn,yB_nil]<;>rfl) (by simp only [go_sem,hm1,hdn,yB_nil]<;>first|rfl|exact eqz)
 ·exact absurd hb16 (by simp)
theorem prs_snoc (l:List Pr)(p:Pr):prsD (l++[p])=.sl 2 (l.map encPr++[encPr p]):=by simp
theorem MB.le {a b:Int}{m:Lf}(h:MB a m)(hab:a≤b):MB b m:=fun p hp=>by have:=h p hp;omega
theorem take_ok {ks:List Int}{m:Lf}{B:Int}(hks:KS ks m)(hb:MB B m)(a b:Int):KS ks (takeL a b m)∧MB (B+2) (takeL a b m):=by
 have:=chgs_ok (d:= -1) (by omega) [a,b] hks hb
 rw [chgs_two] at this
 exact ⟨this.1,this.2.le (by simp)⟩
theorem c_take2 (g:Gr)(ks:List Int)(v:Value)(m:Lf)(hks:KS ks m)(a b:Int)(ha:a∈ks)(hb:b∈ks)(hm:MB 100 m):Con Try.prog 65 [.leaf (.d (tkP g ks v)),.leaf (.d (.sl 1 [[.i a],[.i b]]))] [(901,.map ((m).map encL)),(902,.pin v (.obj 901))] (.ret (.bool (takeOK a b m)) [(901,.map ((takeL a b m).map encL)),(902,.pin v (.obj 901))]):=by
 have:=c_take g ks v m hks [a,b] (by intro t ht;simp at ht;rcases ht with rfl|rfl<;>assumption) (by simp) hm
 rw [show [a,b].length=2 from rfl,isT_two,chgs_two] at this
 exact this
theorem c_put2 (g:Gr)(ks:List Int)(v:Value)(m:Lf)(hks:KS ks m)(a b:Int)(ha:a∈ks)(hb:b∈ks)(hm:MB 98 m):Con Try.prog 66 [.leaf (.d (tkP g ks v)),.leaf (.d (.sl 1 [[.i a],[.i b]]))] [(901,.map ((takeL a b m).map encL)),(902,.pin v (.obj 901))] (.ret (.tup []) [(901,.map ((m).map encL)),(902,.pin v (.obj 901))]):=by
 have hk:=take_ok hks hm a b
 have:=c_put g ks v (takeL a b m) hk.1 [a,b] (by intro t ht;simp at ht;rcases ht with rfl|rfl<;>assumption) (by simp) hk.2
 rw [put_two] at this
 exact this
theorem c_on_step (g:Gr)(ks:List Int)(v:Value)(many idli:Int)(hkb:∀k∈ks,6≤k∧k≤100)(hn:ks.length≤1000)(n:Nat)(B:Int)(hB:0≤B∧B≤90)(ih:∀(m:Lf),KS ks m→MB (B+2) m→∀(l:List Pr) (q:Pr),(l.length:Int)+n=many→l.length≤10→Con Try.prog 62 [.leaf (.d (prsD l)),prV q,.leaf (.d (.pt [.i many])),.leaf (.d (.pt [tkP g ks v])),.leaf (.d (.pt [.i idli])),.leaf (.ptr 903 0),.leaf (.ptr 904 0)] (onQ g ks v many idli m) (yB ((onL ks g.room (idli==1) n m l q).map rowN) (retB (onQ g ks v many idli m))))(m:Lf)(hks:KS ks m)(hmb:MB B m)(l:List Pr)(q:Pr)(hl:(l.length:Int)+(n+1)=many)(hl3:l.length≤9):Con Try.prog 62 [.leaf (.d (prsD l)),prV q,.leaf (.d (.pt [.i many])),.leaf (.d (.pt [tkP g ks v])),.leaf (.d (.pt [.i idli])),.leaf (.ptr 903 0),.leaf (.ptr 904 0)] (onQ g ks v many idli m) (yB ((onL ks g.room (idli==1) (n+1) m l q).map rowN) (retB (onQ g ks v many idli m))):=by
 have hm1:((l.length:Int)==many)=false:=by rw [beq_eq_false_iff_ne];omega
 rw [onR_zero]
 have hm100:=hmb.le (b:=100) (by omega)
 have hm98:=hmb.le (b:=98) (by omega)
 refine con_of follows_mixed Try.func62 rfl (by simp only [List.length_cons,List.length_nil,Try.ntmps62];omega) V215 rfl ?_
 refine Exec.reg ?_
 iterate 3 (refine Run.o1 V201 ?_)
 refine Run.nil ?_
 refine Exec.scp ?_
 refine Exec.assocS ?_
 refine Exec.reg ?_
 iterate 4 (refine Run.o1 V201 ?_)
 refine Run.nil ?_
 refine Exec.cndS V201 (fun hb16=>?_) (fun hb16=>?_)
 ·exact absurd hb16 (by simp)
 ·skip
  refine Exec.skipS ?_
  refine Exec.reg ?_
  iterate 2 (refine Run.o1 V201 ?_)
  refine Run.nil ?_
  refine Exec.lblS ?_
  refine Exec.assocS ?_
  refine Exec.reg ?_
  iterate 2 (refine Run.o1 V201 ?_)
  refine Run.c1 (c_pairs g ks v q) V201 V201 ?_
  refine Run.nil ?_
  refine Exec.blk ?_
  refine Exec.rangeQ 78 [.pt [tkP g ks v],.pt (encPr q)] 900 ((pairsL ks g.room q).map rowP) [3,6,7,9,11,29] [900,903,904,905,901,902,7,8,9,11] ([]) (fun k=>[.obj 11 (.cells [.d (.raw (.bool true))])]) (fun k=>yB ((onR ks g.room (idli==1) n m l q k).map rowN) (retB (onQ g ks v many idli m))) (fun _=>True) (fun k=>by simp only [go_sem]<;>rfl) (by simp only [go_sem,nms,hm1]<;>rfl) V201 V201 (fun _=>by rfl) rfl V208 V210 (by rfl) (by simp) (by rw [qB,yB_lB];exact c_pairs_1 g ks v q hkb hn) V212 ?_ (fun k v hv hX=>?_) (fun hX=>?_)
  ·trivial
  ·skip
   obtain ⟨p,hp,rfl⟩:=rows_at hv
   have hpm:=pairsL_mem (List.mem_of_getElem? hp)
   refine ⟨rfl,?_⟩
   refine Exec.reg1 ?_
   iterate 2 (refine Run.o1 V201 ?_)
   refine Run.nil ?_
   refine ⟨rfl,?_⟩
   refine Exec.blk1 ?_
   refine Exec.assocS ?_
   by_cases hT:takeOK p.a p.b m=true
   ·skip
    have hrow:=onR_yes (ks:=ks) (room:=g.room) (idl:=(idli==1)) (n:=n) (l:=l) hp hT
    refine Exec.reg ?_
    iterate 6 (refine Run.o1 V195 ?_)
    refine Run.frz 36 V208 ?_
    refine Run.lendG [(901,901),(902,902)] V208 (c_take2 g ks v m hks p.a p.b hpm.1 hpm.2 hm100) V210 (.inl ⟨[],by simp only [go_sem]<;>rfl,rfl⟩) V208 V4 rfl (by decide) V60 V57 V69 V101 V208 ?_
    refine Run.nil ?_
    refine Exec.cndS V195 (fun hb37=>?_) (fun hb37=>?_)
    ·skip
     refine Exec.opq 15 11 V212 ?_
     have hih:=ih (takeL p.a p.b m) (take_ok hks hmb p.a p.b).1 (take_ok hks hmb p.a p.b).2 (l++[p]) p V214 V214
     rw [prs_snoc] at hih
     iterate 6 (refine OpenK.o1 V195 ?_)
     refine OpenK.sl3 V208 V208 V208 V208 V208 V208 V208 V208 ?_
     refine OpenK.o1 V195 ?_
     refine OpenK.bfz V208 V195 (by rfl) (by simp) V208 V208 ?_
     refine OpenK.apn 56 (n:=16) V208 V208 V208 V208 V215 (by decide) ⟨by simp;omega,by decide⟩ (by simp) V208 V208 ?_
     refine OpenK.o1 V195 ?_
     refine OpenK.nil ⟨by decide +kernel,by decide +kernel,?_⟩
     refine Run.callF [(900,900),(903,903),(904,904),(905,905),(901,901),(902,902)] (fun t=>bif t then yB ((onR ks g.room (idli==1) n m l q (k+1)).map rowN) (retB (onQ g ks v many idli m)) else retB (onQ g ks v many idli m) false) hih V210 (.inr ⟨905,by simp only [go_sem]<;>rfl,by simp only [go_sem]<;>rfl⟩) V208 V5 (onQ_ok g ks v many idli (takeL p.a p.b m) rfl (by decide) (fun n hn=>by cases hn;simp only [go_sem]<;>rfl) (fun n hn=>by cases hn;simp only [go_sem]<;>rfl) (fun n hn=>by cases hn;simp only [go_sem]<;>rfl) (fun n hn=>by cases hn;simp only [go_sem]<;>rfl) (fun n hn=>by cases hn;simp only [go_sem]<;>rfl) (fun n hn=>by cases hn;simp only [go_sem]<;>rfl)) (by simp only [go_sem,hrow,yB_app]<;>rfl) (fun r=>?_)
     rw [onQ_ren]
     refine Run.o1 V195 ?_
     refine Run.nil ?_
     refine Exec.reg ?_
     iterate 6 (refine Run.o1 V195 ?_)
     refine Run.frz 55 V208 ?_
     refine Run.lendG [(901,901),(902,902)] V208 (c_put2 g ks v m hks p.a p.b hpm.1 hpm.2 hm98) V210 (.inl ⟨[],by simp only [go_sem]<;>rfl,rfl⟩) V208 V4 rfl (by decide) V60 V57 V69 V101 V208 ?_
     refine Run.nil ?_
     refine Exec.reg ?_
     iterate 2 (refine Run.o1 V195 ?_)
     refine Run.nil ?_
     refine Exec.cnd V195 (fun hb58=>?_) (fun hb58=>?_)
     ·skip
      have hr:r=false:=by simpa using hb58
      subst hr
      refine Blk1K.mis (by decide) ?_
      refine RngQ.ext V208 V208 ?_
      refine BlkK.hit ?_
      refine Exec.reg ?_
      iterate 2 (refine Run.o1 V195 ?_)
      refine Run.nil ?_
      exact Ends.fin [900,903,904,905,901,902] (rs:=[.cell 9 4]) rfl V195 (by simp only [go_sem,hm1,hT]<;>first|rfl|exact eqz)
     ·skip
      have hr:r=true:=by simpa using hb58
      subst hr
      refine Blk1K.nrm ?_
      refine RngQ.nrm ?_ ?_
      ·exact Ghost.kl [900,903,904,905,901,902,7,8,9,11] (by simp only [go_sem,hm1,hT]<;>first|exact eqz|rfl)
      ·trivial
    ·exact absurd hb37 (by simp)
   ·skip
    have hrow:=onR_no (ks:=ks) (room:=g.room) (idl:=(idli==1)) (n:=n) (l:=l) hp hT
    have hT:takeOK p.a p.b m=false:=by simpa using hT
    refine Exec.reg ?_
    iterate 6 (refine Run.o1 V184 ?_)
    refine Run.frz 36 V208 ?_
    refine Run.lendG [(901,901),(902,902)] V208 (c_take2 g ks v m hks p.a p.b hpm.1 hpm.2 hm100) V210 (.inl ⟨[],by simp only [go_sem]<;>rfl,rfl⟩) V208 V4 rfl (by decide) V60 V57 V69 V101 V208 ?_
    refine Run.nil ?_
    refine Exec.cndS V184 (fun hb37=>?_) (fun hb37=>?_)
    ·exact absurd hb37 (by simp)
    ·skip
     refine Exec.skipS ?_
     refine Exec.reg ?_
     iterate 6 (refine Run.o1 V184 ?_)
     refine Run.frz 55 V208 ?_
     refine Run.lendG [(901,901),(902,902)] V208 (c_put2 g ks v m hks p.a p.b hpm.1 hpm.2 hm98) V210 (.inl ⟨[],by simp only [go_sem]<;>rfl,rfl⟩) V208 V4 rfl (by decide) V60 V57 V69 V101 V208 ?_
     refine Run.nil ?_
     refine Exec.reg ?_
     iterate 2 (refine Run.o1 V184 ?_)
     refine Run.nil ?_
     refine Exec.cnd V184 (fun hb58=>?_) (fun hb58=>?_)
     ·exact absurd hb58 (by simp)
     ·skip
      refine Blk1K.nrm ?_
      refine RngQ.nrm ?_ ?_
      ·exact Ghost.kl [900,903,904,905,901,902,7,8,9,11] (by simp only [go_sem,hm1,hT,hrow]<;>first|exact eqz|rfl)
      ·trivial
  ·skip
   have hdn:=onR_end (ks:=ks) (room:=g.room) (idl:=(idli==1)) (n:=n) (m:=m) (l:=l) (q:=q)
   refine BlkK.nrm ?_
   refine Exec.reg ?_
   iterate 2 (refine Run.o1 (by simp only [go_sem,hm1,hdn,List.length_map,List.map_nil,yB_nil]<;>rfl) ?_)
   refine Run.nil ?_
   exact Ends.fin [900,903,904,905,901,902] (rs:=[.cell 9 4]) rfl (by simp only [go_sem,hm1,hdn,List.length_map,List.map_nil,yB_nil]<;>rfl) (by simp only [go_sem,hm1,hdn,List.length_map,List.map_nil,yB_nil]<;>first|rfl|exact eqz)
end Go.Mw
namespace Go.Mw
open Go.Proofs
open Go.Li
theorem c_on (g:Gr)(ks:List Int)(v:Value)(many idli:Int)(hkb:∀k∈ks,6≤k∧k≤100)(hn:ks.length≤1000)(hm:many≤5):∀(n:Nat) (B:Int),0≤B→B+2*n≤50→∀(m:Lf),KS ks m→MB B m→∀(l:List Pr) (q:Pr),(l.length:Int)+n=many→l.length≤10→Con Try.prog 62 [.leaf (.d (prsD l)),prV q,.leaf (.d (.pt [.i many])),.leaf (.d (.pt [tkP g ks v])),.leaf (.d (.pt [.i idli])),.leaf (.ptr 903 0),.leaf (.ptr 904 0)] (onQ g ks v many idli m) (yB ((onL ks g.room (idli==1) n m l q).map rowN) (retB (onQ g ks v many idli m)))
 |0,B,_,_,m,hks,_,l,q,hl,_=>c_on_end g ks v many idli hkb hn m hks l q (by omega)
 |n+1,B,h0,hB,m,hks,hmb,l,q,hl,hl3=>c_on_step g ks v many idli hkb hn n B (by omega) (fun m h1 h2 l q h3 h4=>c_on g ks v many idli hkb hn hm n (B+2) (by omega) (by omega) m h1 h2 l q h3 h4) m hks hmb l q (by omega) (by omega)
theorem trains_no {ks:List Int}{g:Gr}{m:Lf}{w:Nat}(h:(decide (((w / 2:Nat):Int)>g.pairs) || decide (w=1) || (decide ((w / 2+w%2)%2=0) != g.same))=true):trainsL ks g m w=[]:=by unfold trainsL;rw [if_pos h]
theorem trains_yes {ks:List Int}{g:Gr}{m:Lf}{w:Nat}(h:(decide (((w / 2:Nat):Int)>g.pairs) || decide (w=1) || (decide ((w / 2+w%2)%2=0) != g.same))=false):trainsL ks g m w=onL ks g.room (decide (w%2=1)) (w / 2) m [] ⟨0,0⟩:=by unfold trainsL;rw [if_neg (by rw [h];decide)]
theorem c_trains (g:Gr)(ks:List Int)(v:Value)(w:Int):Contract Try.prog 38 [.leaf (.d (tkP g ks v)),.int w] (.leaf (.d (.fn 61 [.pt [.i w],.pt [tkP g ks v]]))) []:=by
 refine con_of follows_mixed Try.func38 rfl (by simp only [List.length_cons,List.length_nil,Try.ntmps38];omega) V215 rfl ?_
 refine Exec.reg ?_
 iterate 3 (refine Run.o ?_)
 refine Run.nil ?_
 refine Exec.reg ?_
 refine Run.frz 2 V208 ?_
 refine Run.frz 3 V208 ?_
 iterate 2 (refine Run.o ?_)
 refine Run.nil ?_
 exact Ends.fin [] (rs:=[.tmp 4]) rfl V208 V171
theorem c_trains_1 (g:Gr)(hgr:gearB g=true)(ks:List Int)(v:Value)(hkb:∀k∈ks,6≤k∧k≤100)(hn:ks.length≤1000)(m:Lf)(hks:KS ks m)(hmb:MB 10 m)(w:Nat)(hw:w≤10):Con Try.prog 61 [.leaf (.obj 900),.leaf (.d (.pt [.i w])),.leaf (.d (.pt [tkP g ks v]))] ((900,.yl)::[(901,.map ((m).map encL)),(902,.pin v (.obj 901))]) (qB ((trainsL ks g m w).map rowN) [(901,.map ((m).map encL)),(902,.pin v (.obj 901))]):=by
 obtain ⟨g1,g2,g3,g4⟩:=gearB_bd hgr
 have e1:((w:Int)).tdiv 2=((w / 2:Nat):Int):=by rw [Int.tdiv_eq_ediv_of_nonneg (by omega)];omega
 have e2:((w:Int)).tmod 2=((w%2:Nat):Int):=by rw [Int.tmod_eq_emod_of_nonneg (by omega)];omega
 have e3:(((w / 2:Nat):Int)+((w%2:Nat):Int)).tmod 2=(((w / 2+w%2)%2:Nat):Int):=by rw [Int.tmod_eq_emod_of_nonneg (by omega)];omega
 have e4:((((w / 2+w%2)%2:Nat):Int)==0)=decide ((w / 2+w%2)%2=0):=by rw [Bool.eq_iff_iff];simp;omega
 have e5:((w:Int)==1)=decide (w=1):=by rw [Bool.eq_iff_iff];simp;omega
 have e6:(((w%2:Nat):Int)==1)=decide (w%2=1):=by rw [Bool.eq_iff_iff];simp;omega
 refine con_of follows_mixed Try.func61 rfl (by simp only [List.length_cons,List.length_nil,Try.ntmps61];omega) V215 rfl ?_
 refine Exec.reg ?_
 refine Run.o1 V172 ?_
 refine Run.nil ?_
 refine Exec.opk 10 ?_
 refine OpenK.o1 V172 ?_
 refine OpenK.o1 V71 ?_
 refine OpenK.o1 V172 ?_
 refine OpenK.o1 V71 ?_
 iterate 4 (refine OpenK.o1 V172 ?_)
 refine OpenK.nil (OpenE.fin V212 V212 ?_)
 refine Exec.assocS ?_
 refine Exec.opk 26 ?_
 iterate 8 (refine OpenK.o1 V172 ?_)
 iterate 2 (refine OpenK.gop V208 V172 V208 ?_)
 iterate 2 (refine OpenK.o1 V172 ?_)
 iterate 2 (refine OpenK.gop V208 V172 V208 ?_)
 iterate 2 (refine OpenK.gop V208 V71 V208 ?_)
 iterate 7 (refine OpenK.gop V208 V172 V208 ?_)
 refine OpenK.o1 V172 ?_
 refine OpenK.nil (OpenE.finT V215 V215 V215 ?_)
 refine Exec.cndS V172 (fun hb34=>?_) (fun hb34=>?_)
 ·skip
  have hr:=trains_no (ks:=ks) (m:=m) hb34
  refine Exec.retS ?_
  exact Ends.fin [901,902] (rs:=[]) rfl (by simp only [go_sem,hr,List.map_nil,qB,yB_nil]<;>rfl) (by simp only [go_sem,hr,List.map_nil,qB,yB_nil]<;>first|rfl|exact eqz)
 ·skip
  have hpn:¬((w / 2:Nat):Int)>g.pairs:=by
   intro h
   rw [decide_eq_true h] at hb34;cases hb34
  have hr:=trains_yes (ks:=ks) (m:=m) hb34
  have hc:=c_on g ks v ((w / 2:Nat):Int) ((w%2:Nat):Int) hkb hn (by omega) (w / 2) 10 (by omega) (by omega) m hks hmb [] ⟨0,0⟩ (by simp) (by simp)
  rw [e6] at hc
  refine Exec.skipS ?_
  refine Exec.reg ?_
  refine Run.frz 4 V208 ?_
  refine Run.frz 5 V208 ?_
  refine Run.o1 V172 ?_
  refine Run.nil ?_
  refine Exec.reg ?_
  iterate 2 (refine Run.o1 V172 ?_)
  refine Run.nil ?_
  refine Exec.reg1 ?_
  iterate 2 (refine Run.o1 V172 ?_)
  refine Run.callF [(900,900),(903,3),(904,6),(905,35),(901,901),(902,902)] (fun _=>.ret (.tup []) [(901,.map ((m).map encL)),(902,.pin v (.obj 901))]) hc V210 (.inr ⟨35,by simp only [go_sem]<;>rfl,by simp only [go_sem]<;>rfl⟩) V208 V5 (onQ_ok g ks v (w / 2:Nat) (w%2:Nat) m rfl (by decide) (fun n hn=>by cases hn;simp only [go_sem]<;>rfl) (fun n hn=>by cases hn;simp only [go_sem]<;>rfl) (fun n hn=>by cases hn;simp only [go_sem]<;>rfl) (fun n hn=>by cases hn;simp only [go_sem]<;>rfl) (fun n hn=>by cases hn;simp only [go_sem]<;>rfl) (fun n hn=>by cases hn;simp only [go_sem]<;>rfl)) V202 (fun r=>?_)
  rw [onQ_ren]
  refine Run.nil ?_
  exact Ends.fin0 [901,902] (rs:=[]) rfl V172 (by simp only [go_sem,e1,e2,e3,e4,e5]<;>first|rfl|exact eqz)
theorem c_all (g:Gr)(ks:List Int)(v:Value):Contract Try.prog 15 [.leaf (.d (tkP g ks v))] (.leaf (.d (.fn 37 [.pt [tkP g ks v]]))) []:=by
 refine con_of follows_mixed Try.func15 rfl (by simp only [List.length_cons,List.length_nil,Try.ntmps15];omega) V215 rfl ?_
 refine Exec.reg ?_
 iterate 2 (refine Run.o ?_)
 refine Run.nil ?_
 refine Exec.reg ?_
 refine Run.frz 1 V208 ?_
 iterate 2 (refine Run.o ?_)
 refine Run.nil ?_
 exact Ends.fin [] (rs:=[.tmp 2]) rfl V208 V171
def allR (ks:List Int)(g:Gr)(m:Lf)(k:Nat):List Tr:=((List.range (2*g.pairs+2).toNat).drop k).flatMap (trainsL ks g m)
theorem allR_zero (ks:List Int)(g:Gr)(m:Lf):allL ks g m=allR ks g m 0:=rfl
theorem allR_get {ks:List Int}{g:Gr}{m:Lf}{k:Nat}(h:k<(2*g.pairs+2).toNat):(allR ks g m k).map rowN=(trainsL ks g m k).map rowN++(allR ks g m (k+1)).map rowN:=by
 unfold allR
 rw [drop_get (x:=k) (by rw [List.getElem?_range h]),List.flatMap_cons,List.map_append]
theorem allR_end {ks:List Int}{g:Gr}{m:Lf}:allR ks g m (2*g.pairs+2).toNat=[]:=by
 unfold allR
 have:(List.range (2*g.pairs+2).toNat).drop (2*g.pairs+2).toNat=[]:=List.drop_eq_nil_of_le (by simp)
 rw [this];rfl
theorem c_all_1 (g:Gr)(hgr:gearB g=true)(ks:List Int)(v:Value)(hkb:∀k∈ks,6≤k∧k≤100)(hn:ks.length≤1000)(m:Lf)(hks:KS ks m)(hmb:MB 10 m):Con Try.prog 37 [.leaf (.obj 900),.leaf (.d (.pt [tkP g ks v]))] ((900,.yl)::[(901,.map ((m).map encL)),(902,.pin v (.obj 901))]) (qB ((allL ks g m).map rowN) [(901,.map ((m).map encL)),(902,.pin v (.obj 901))]):=by
 obtain ⟨g1,g2,g3,g4⟩:=gearB_bd hgr
 rw [allR_zero]
 have eN:((2*g.pairs+2).toNat:Int)=2*g.pairs+2:=by omega
 refine con_of follows_mixed Try.func37 rfl (by simp only [List.length_cons,List.length_nil,Try.ntmps37];omega) V215 rfl ?_
 refine Exec.reg ?_
 refine Run.o ?_
 refine Run.nil ?_
 refine Exec.reg ?_
 iterate 5 (refine Run.o ?_)
 iterate 2 (refine Run.o1 V91 ?_)
 refine Run.o ?_
 refine Run.nil ?_
 refine Exec.blk1 ?_
 refine Exec.forY [1,2,11,12] [900,2,901,902] ((2*g.pairs+2).toNat) (fun k=>[.slot 12 (.int k)]) (fun k=>yB ((allR ks g m k).map rowN) (fun _=>.ret (.tup []) [(901,.map ((m).map encL)),(902,.pin v (.obj 901))])) (fun _=>True) (fun k=>by simp only [go_sem]<;>rfl) V180 ?_ (fun k hk hX=>?_)
 ·trivial
 ·skip
  refine Exec.reg ?_
  refine Run.o ?_
  refine Run.nil ?_
  refine Exec.cndS V208 (fun hb13=>?_) (fun hb13=>?_)
  ·skip
   have hlt:(k:Int)<2*g.pairs+2:=of_decide_eq_true hb13
   have hag:=allR_get (ks:=ks) (g:=g) (m:=m) (k:=k) (by omega)
   refine Exec.skipS ?_
   refine Exec.blk ?_
   refine Exec.reg ?_
   iterate 2 (refine Run.o ?_)
   refine Run.nil ?_
   refine Exec.reg ?_
   iterate 2 (refine Run.o ?_)
   refine Run.c1 (c_trains g ks v k) V208 V208 ?_
   refine Run.nil ?_
   refine Exec.blk1 ?_
   refine Exec.rangeQ 61 [.pt [.i k],.pt [tkP g ks v]] 900 ((trainsL ks g m k).map rowN) [1,2,11,12,17] [900,2] ([(901,.map ((m).map encL)),(902,.pin v (.obj 901))]) (fun j=>[]) (fun j=>yB (((trainsL ks g m k).map rowN).drop j++(allR ks g m (k+1)).map rowN) (fun _=>.ret (.tup []) [(901,.map ((m).map encL)),(902,.pin v (.obj 901))])) (fun _=>True) (fun j=>by simp only [go_sem]<;>rfl) (by simp only [go_sem,nms,hag,List.drop_zero]<;>rfl) (by simp only [go_sem,hag,List.drop_zero]<;>rfl) (by simp only [go_sem,hag,List.drop_zero]<;>rfl) (fun _=>by rfl) rfl V208 V210 (by rfl) (qi_mL v m) (c_trains_1 g hgr ks v hkb hn m hks hmb k (by omega)) V212 ?_ (fun j v hv Xj=>?_) (fun Xj=>?_)
   ·trivial
   ·skip
    obtain ⟨t,ht,rfl⟩:=rows_at hv
    have hdr:=drop_get hv
    refine ⟨rfl,?_⟩
    refine Exec.reg1 ?_
    iterate 2 (refine Run.o ?_)
    refine Run.nil ?_
    refine ⟨rfl,?_⟩
    refine Exec.blk1 ?_
    refine Exec.reg ?_
    iterate 2 (refine Run.o ?_)
    refine Run.yld (args:=rowN t) V208 V208 V208 V206 (by simp only [go_sem,hdr,List.cons_append,yB_cons]<;>rfl) (fun r=>?_)
    refine Run.o ?_
    refine Run.nil ?_
    refine Exec.cnd V208 (fun hb22=>?_) (fun hb22=>?_)
    ·skip
     have hr:r=false:=by simpa using hb22
     subst hr
     refine Blk1K.ret ?_
     refine RngQ.ret V208 V208 ?_
     refine Blk1K.ret ?_
     refine BlkK.ret ?_
     refine ForK.ret ?_
     refine Blk1K.ret ?_
     exact Ends.fin [901,902] (rs:=[]) rfl V208 V171
    ·skip
     have hr:r=true:=by simpa using hb22
     subst hr
     refine Blk1K.nrm ?_
     refine RngQ.nrm ?_ ?_
     ·exact Ghost.kl [900,2] (by simp only [go_sem]<;>first|exact eqz|rfl)
     ·trivial
   ·skip
    have hdn:List.drop (trainsL ks g m k).length ((trainsL ks g m k).map rowN)=[]:=List.drop_eq_nil_of_le (by simp)
    refine Blk1K.nrm ?_
    refine BlkK.nrm ?_
    refine Exec.reg1 ?_
    refine Run.o1 (by simp only [go_sem,hdn,List.nil_append,List.length_map];(try simp (disch:=omega) only [IntWalk.i64_in,IntWalk.u64_in,IntWalk.i32_in,IntWalk.u8_in,if_neg,if_pos])<;> rfl) ?_
    refine Run.o1 (by simp only [go_sem,hdn,List.nil_append,List.length_map]<;>rfl) ?_
    refine Run.nil ?_
    refine ForK.nxt ?_ ?_ ?_
    ·omega
    ·exact Ghost.kp [1,2,11,12] [900,2,901,902] (by simp only [go_sem,hdn,List.nil_append,List.length_map]<;>first|exact eqz|rfl)
    ·trivial
  ·skip
   have hke:k=(2*g.pairs+2).toNat:=by have:¬(k:Int)<2*g.pairs+2:=of_decide_eq_false hb13;omega
   subst hke
   have hae:=allR_end (ks:=ks) (g:=g) (m:=m)
   refine Exec.exitS ?_
   refine ForK.ext ?_
   refine Blk1K.hit ?_
   exact Ends.fin0 [901,902] (rs:=[]) rfl (by simp only [go_sem,hae,List.map_nil,yB_nil]<;>rfl) (by simp only [go_sem,hae,List.map_nil,yB_nil]<;>first|rfl|exact eqz)
end Go.Mw
namespace Go.Mw
open Go.Proofs
open Go.Li
abbrev ksOf (l:List Whl):List Int:=l.map (·.teeth)
abbrev mOf (l:List Whl):Lf:=l.map fun w=>(w.teeth,w.count)
theorem set_new {t v:Int}:∀ {m:Lf},t ∉ m.map Prod.fst→setL t v m=m++[(t,v)]
 |[],_=>rfl
 |p::r,h=>by
  unfold setL
  rw [if_neg (fun e=>h (by simp [e])),set_new fun h2=>h (by simp at h2 ⊢;exact .inr h2)];rfl
theorem stockT_lt:∀ {l:List Whl} {k:Int},stockT k l=true→∀w∈l,k<w.teeth
 |[],_,_,w,hw=>by cases hw
 |v::r,k,h,w,hw=>by
  simp only [stockT,Bool.and_eq_true,decide_eq_true_eq] at h
  rcases List.mem_cons.1 hw with rfl|hw
  ·omega
  ·have:=stockT_lt h.2 w hw;omega
theorem ks_asc:∀ {l:List Whl} {k:Int},stockT k l=true→(ksOf l).Pairwise (· < ·)
 |[],_,_=>List.Pairwise.nil
 |v::r,k,h=>by
  simp only [stockT,Bool.and_eq_true,decide_eq_true_eq] at h
  refine List.pairwise_cons.2 ⟨fun t ht=>?_,ks_asc h.2⟩
  obtain ⟨w,hw,rfl⟩:=List.mem_map.1 ht
  exact stockT_lt h.2 w hw
theorem stockB_T {l:List Whl}(h:stockB l=true):stockT 0 l=true∧l.length≤8:=by
 unfold stockB at h
 rw [Bool.and_eq_true,decide_eq_true_eq] at h
 exact ⟨h.2,h.1⟩
theorem ks_ok {l:List Whl}(h:stockB l=true):KS (ksOf l) (mOf l)∧MB 10 (mOf l)∧∀k∈ksOf l,6≤k∧k≤100:=by
 obtain ⟨h1,_⟩:=stockB_T h
 refine ⟨⟨by unfold mOf;rw [List.map_map];rfl,(ks_asc h1).imp fun h e=>by omega⟩,fun p hp=>?_,fun k hk=>?_⟩
 ·obtain ⟨w,hw,rfl⟩:=List.mem_map.1 hp
  have:=stockT_teeth h1 w hw
  simp only;omega
 ·obtain ⟨w,hw,rfl⟩:=List.mem_map.1 hk
  have:=stockT_teeth h1 w hw
  omega
theorem m_new {l:List Whl}(h:stockB l=true){k:Nat}{w:Whl}(hw:l[k]? = some w):w.teeth ∉ (mOf (l.take k)).map Prod.fst:=by
 intro hm
 have hm:w.teeth∈ksOf (l.take k):=by unfold mOf at hm;rw [List.map_map] at hm;exact hm
 obtain ⟨u,hu,he⟩:=List.mem_map.1 hm
 obtain ⟨i,hi⟩:=List.getElem?_of_mem hu
 have hik:i<k:=by have:=(List.getElem?_eq_some_iff.1 hi).1;rw [List.length_take] at this;omega
 rw [List.getElem?_take,if_pos hik] at hi
 have hp:=ks_asc (stockB_T h).1
 obtain ⟨a1,a2⟩:=List.getElem?_eq_some_iff.1 hi
 obtain ⟨b1,b2⟩:=List.getElem?_eq_some_iff.1 hw
 have:=(List.pairwise_iff_getElem.1 hp) i k (by simpa using a1) (by simpa using b1) hik
 simp only [List.getElem_map,a2,b2] at this
 omega
theorem fr2 {A:ASt}{B n m:Nat}{y z:AO}(h:A.obj (B+n)=none)(h2:A.obj (B+m)=none):∀q x,look [(n,y),(m,z)] q=some x→A.obj (B+q)=none:=by
 intro q x hq
 by_cases e:q=n
 ·subst e;exact h
 ·by_cases e2:q=m
  ·subst e2;exact h2
  ·simp [look,e,e2] at hq
theorem c_newTask (l:List Whl)(g:Gr)(hs:stockB l=true)(hg:gearB g=true):Contract Try.prog 14 [.leaf (.d (whsD l)),grV g] (.tup [(false,[.ptr 20 0]),(false,[.d (.i 0)])]) [(20,.cells [.d (.i g.turns),.d (.i g.rounds),.d (.bo g.same),.d (.i g.pairs),.d (.i g.room),.d (intsD (ksOf l)),.obj 18]),(18,.map ((mOf l).map encL))]:=by
 have hn:=(stockB_T hs).2
 have hg1:=hg
 have hz:mOf []=[]:=rfl
 refine con_of follows_mixed Try.func14 rfl (by simp only [List.length_cons,List.length_nil,Try.ntmps14];omega) V215 rfl ?_
 refine Exec.reg ?_
 iterate 3 (refine Run.o1 V165 ?_)
 refine Run.nil ?_
 refine Exec.assocS ?_
 refine Exec.reg ?_
 refine Run.o1 V165 ?_
 refine Run.c1 (c_isStock l hs) V165 V165 ?_
 iterate 2 (refine Run.o1 V165 ?_)
 refine Run.y1 V165 ?_
 refine Run.calw V208 (c_gear_isGearing g) V210 V165 V165 V96 (fr0) V165 ?_
 refine Run.y1 V165 ?_
 refine Run.o1 V165 ?_
 refine Run.nil ?_
 refine Exec.cndS V165 (fun hb16=>?_) (fun hb16=>?_)
 ·exact absurd hb16 (by simp)
 ·skip
  refine Exec.skipS ?_
  refine Exec.reg ?_
  iterate 5 (refine Run.o1 V165 ?_)
  refine Run.nil ?_
  refine Exec.assocS ?_
  refine Exec.reg ?_
  refine Run.nilC 20 5 1000 3 1 V208 V208 V208 (by omega) (by omega) V208 ?_
  iterate 3 (refine Run.o1 V165 ?_)
  refine Run.nil ?_
  refine Exec.blk ?_
  refine Exec.forA [6,21,22,23] [20,1000,18] (l.length) (fun k=>[.slot 23 (.int k),.obj 1000 (.arr 3 1 ((l.take k).map fun w=>[.i w.teeth])),.obj 20 (.cells [.d (.i g.turns),.d (.i g.rounds),.d (.bo g.same),.d (.i g.pairs),.d (.i g.room),.own 1000 0 k k,.obj 18]),.obj 18 (.map ((mOf (l.take k)).map encL))]) (fun _=>True) (fun k=>by simp only [go_sem]<;>rfl) (by simp only [go_sem,hg1,Bool.not_true,hz,Int.natCast_zero,List.take_zero,List.map_nil]<;>rfl) ?_ (fun k hk hX=>?_)
  ·trivial
  ·skip
   refine Exec.reg ?_
   refine Run.o1 V165 ?_
   refine Run.nil ?_
   refine Exec.cndS V165 (fun hb24=>?_) (fun hb24=>?_)
   ·skip
    have hlt:=lt_of_dec hb24
    obtain ⟨w,hw⟩:=elem_of hb24
    have htk:=take_snoc hw
    have hl:(l.take k).length=k:=by rw [List.length_take];omega
    have hmk:mOf (l.take (k+1))=mOf (l.take k)++[(w.teeth,w.count)]:=by rw [htk];simp
    have hst:mapSet 0 (.int .i64 w.teeth) (false,[.d (.i w.count)]) ((mOf (l.take k)).map encL)=some ((mOf (l.take (k+1))).map encL):=by rw [mL_set,set_new (m_new hs hw),hmk]
    have hk1:(l.take (k+1)).map (fun w:Whl=>[D.i w.teeth])=(l.take k).map (fun w:Whl=>[D.i w.teeth])++[[D.i w.teeth]]:=by rw [htk];simp
    refine Exec.skipS ?_
    refine Exec.blk ?_
    refine Exec.reg ?_
    refine Run.o1 (by simp only [go_sem,hw,hl,hst,hk1];(try simp (disch:=omega) only [if_pos]);(try simp only [go_sem,hw,hl,hst,hk1])<;> rfl) ?_
    iterate 3 (refine Run.o1 V182 ?_)
    refine Run.nil ?_
    refine Exec.opk 14 ?_
    have hst:=hst
    iterate 7 (refine OpenK.o1 V182 ?_)
    refine OpenK.bfz V208 V182 (by rfl) (by simp) V208 V208 ?_
    refine OpenK.o1 (by simp only [go_sem,hw,hl,hst,hk1];(try simp (disch:=omega) only [if_pos]);(try simp only [go_sem,hw,hl,hst,hk1])<;>first|(refine ite_run ⟨by (try simp only [List.length_append,List.length_drop,List.length_take,List.length_map,List.length_cons,List.length_nil,List.length_replicate,List.length_set,List.length_range,Nat.zero_add]);omega,by (try simp only [List.length_append,List.length_drop,List.length_take,List.length_map,List.length_cons,List.length_nil,List.length_replicate,List.length_set,List.length_range,Nat.zero_add]);omega,by repeat (first|exact al_nil|assumption|refine al_app ?_ ?_|refine al_drop ?_|refine al_take ?_|exact al_map (fun _=>rfl)|exact al_rep rfl|refine al_cons rfl ?_)⟩ ?_;simp only [go_sem,hw,hl,hst,hk1]<;>rfl)|(refine ite_run ⟨by (try simp only [List.length_append,List.length_drop,List.length_take,List.length_map,List.length_cons,List.length_nil,List.length_replicate,List.length_set,List.length_range,Nat.zero_add]);omega,by repeat (first|exact al_nil|assumption|refine al_app ?_ ?_|refine al_drop ?_|refine al_take ?_|exact al_map (fun _=>rfl)|exact al_rep rfl|refine al_cons rfl ?_)⟩ ?_;simp only [go_sem,hw,hl,hst,hk1]<;>rfl)|rfl) ?_
    iterate 3 (refine OpenK.o1 V182 ?_)
    refine OpenK.nil (OpenE.fin V212 V212 ?_)
    refine Exec.opk1 11 ?_
    iterate 9 (refine OpenK.o1 V182 ?_)
    refine OpenK.nil (OpenE.fin V212 V212 ?_)
    refine BlkK.nrm ?_
    refine Exec.reg1 ?_
    refine Run.o1 (by simp only [go_sem,hw,hl,hst,hk1];(try simp (disch:=omega) only [IntWalk.i64_in,IntWalk.u64_in,IntWalk.i32_in,IntWalk.u8_in,if_neg,if_pos])<;> rfl) ?_
    refine Run.o1 V182 ?_
    refine Run.nil ?_
    refine ForK.nxt ?_ ?_ ?_
    ·omega
    ·exact Ghost.kp [6,21,22,23] [20,1000,18] (by simp only [go_sem,hw,hl,hst,hk1]<;>first|exact eqz|rfl)
    ·trivial
   ·skip
    have hke:k=l.length:=by have:=ge_of_dec hb24;omega
    subst hke
    have hta:List.take l.length (List.map (fun w:Whl=>[D.i w.teeth]) l)=(ksOf l).map encInt:=by rw [List.take_of_length_le (by simp),List.map_map];rfl
    have hte:=List.take_length (l:=l)
    refine Exec.exitS ?_
    refine ForK.ext ?_
    refine BlkK.hit ?_
    refine Exec.reg ?_
    refine Run.frz 1000 V200 ?_
    iterate 3 (refine Run.o1 (by simp only [go_sem,hte]<;>rfl) ?_)
    refine Run.nil ?_
    exact Ends.fin [20,18] (rs:=[.tmp 4,.tmp 5]) rfl (by simp only [go_sem,hte]<;>rfl) (by simp only [go_sem,hte]<;>first|rfl|exact eqz)
theorem find_hit {α:Type}{p:α→Bool}{l:List α}{k:Nat}{x:α}(h:(l.take k).any p=false)(hx:l[k]? = some x)(h0:p x=true):l.find? p=some x:=by
 have hl:l=l.take k++x::l.drop (k+1):=by
  obtain ⟨hk,rfl⟩:=List.getElem?_eq_some_iff.1 hx
  rw [←List.drop_eq_getElem_cons hk,List.take_append_drop]
 rw [hl,List.find?_append]
 have hn:(l.take k).find? p=none:=by
  rw [List.find?_eq_none]
  intro y hy
  exact List.any_eq_false.1 h y hy
 rw [hn]
 simp [h0]
theorem find_miss {α:Type}{p:α→Bool}{l:List α}(h:l.any p=false):l.find? p=none:=by
 rw [List.find?_eq_none]
 intro y hy
 exact List.any_eq_false.1 h y hy
def chV (l:List Whl)(g:Gr):AV:=match chooseL l g with
 |some t=>.tup [(true,(encTr t).map .d),(false,[.d (.i (wheelsOf t))]),(false,[.d (.i 0)])]
 |none=>.tup [(true,[.d (prsD []),.d (.i 0)]),(false,[.d (.i 0)]),(false,[.d (.i 4)])]
theorem chV_some {l:List Whl}{g:Gr}{t:Tr}(h:chooseL l g=some t):chV l g=.tup [(true,[.d (prsD t.ps),.d (.i t.idler)]),(false,[.d (.i (wheelsOf t))]),(false,[.d (.i 0)])]:=by unfold chV;rw [h];rfl
theorem chV_none {l:List Whl}{g:Gr}(h:chooseL l g=none):chV l g=.tup [(true,[.d (prsD []),.d (.i 0)]),(false,[.d (.i 0)]),(false,[.d (.i 4)])]:=by unfold chV;rw [h]
def rnC (q:Nat):Nat:=if q=901 then 16018 else if q=16018 then 901 else if q=902 then 2000 else if q=2000 then 902 else q
theorem rnC_inv (q:Nat):rnC (rnC q)=q:=by
 unfold rnC
 repeat' split
 all_goals omega
abbrev QC (v:Value)(m:Lf):List (Nat × AO):=[(16018,.map (m.map encL)),(2000,.pin v (.obj 16018))]
theorem c_all_2 (l:List Whl)(g:Gr)(hs:stockB l=true)(hg:gearB g=true)(v:Value):Con Try.prog 37 [.leaf (.obj 900),.leaf (.d (.pt [tkP g (ksOf l) v]))] ((900,.yl)::QC v (mOf l)) (qB ((allL (ksOf l) g (mOf l)).map rowN) (QC v (mOf l))):=by
 have hn:=(stockB_T hs).2
 obtain ⟨h1,h2,h3⟩:=ks_ok hs
 have:=Con.qren rnC rnC_inv 900 rfl [(901,.map ((mOf l).map encL)),(902,.pin v (.obj 901))] (fun p hp=>by
   simp only [List.mem_cons,List.not_mem_nil,or_false] at hp
   rcases hp with rfl|rfl<;>exact ⟨by simp,by simp⟩) (fun p hp=>by
   simp only [List.mem_cons,List.not_mem_nil,or_false] at hp
   rcases hp with rfl|rfl
   ·exact inn_mL _ _
   ·rfl) (fun x hx=>by
   simp only [List.mem_cons,List.not_mem_nil,or_false] at hx
   rcases hx with rfl|rfl<;>exact ⟨rfl,rfl⟩) (c_all_1 g hg (ksOf l) v h3 V214 (mOf l) h1 h2)
 simp only [List.map_cons,List.map_nil,ren_mL] at this
 exact this
theorem qi_C (v:Value)(m:Lf):∀p∈QC v m,p.2≠.yl∧p.2.inn (nms (QC v m))=true:=by
 intro p hp
 simp only [List.mem_cons,List.not_mem_nil,or_false] at hp
 rcases hp with rfl|rfl
 ·exact ⟨by simp,inn_mL _ m⟩
 ·exact ⟨by simp,rfl⟩
theorem c_Choose (l:List Whl)(g:Gr)(hs:stockB l=true)(hg:gearB g=true):Contract Try.prog 8 [.leaf (.d (whsD l)),grV g] (chV l g) []:=by
 have hn:=(stockB_T hs).2
 obtain ⟨h1,h2,h3⟩:=ks_ok hs
 obtain ⟨g1,g2,g3,g4⟩:=gearB_bd hg
 have hcl:chooseL l g=(allL (ksOf l) g (mOf l)).find? fun t=>excess g t==0:=rfl
 refine con_of follows_mixed Try.func8 rfl (by simp only [List.length_cons,List.length_nil,Try.ntmps8];omega) V215 rfl ?_
 refine Exec.reg ?_
 iterate 4 (refine Run.o ?_)
 refine Run.nil ?_
 refine Exec.reg ?_
 iterate 2 (refine Run.o ?_)
 refine Run.cal (c_newTask l g hs hg) V210 V208 (by exact ⟨WkR.pure rfl,WkR.pure rfl,trivial⟩) (fr2 V208 V208) (by simp only [List.reverse_cons,List.reverse_nil,List.nil_append,List.cons_append,List.map_cons,List.map_nil,ren_mL];simp only [go_sem]<;>rfl) ?_
 iterate 6 (refine Run.o ?_)
 refine Run.nil ?_
 refine Exec.assocS ?_
 refine Exec.reg ?_
 iterate 2 (refine Run.o ?_)
 refine Run.nil ?_
 refine Exec.cndS V208 (fun hb19=>?_) (fun hb19=>?_)
 ·exact absurd hb19 (by simp)
 ·skip
  refine Exec.skipS ?_
  refine Exec.assocS ?_
  refine Exec.reg ?_
  refine Run.pinV 2000 16020 6 16018 V208 V208 V208 (by omega) rfl (fun _=>rfl) (fun v=>V208) (fun v=>(by simp only [go_sem,List.set_cons_succ,List.set_cons_zero]<;>rfl)) (fun v=>?_)
  refine Run.frz 16020 V208 ?_
  refine Run.c1 (c_all g (ksOf l) v) V208 V208 ?_
  refine Run.nil ?_
  refine Exec.blk ?_
  refine Exec.rangeQ 37 [.pt [tkP g (ksOf l) v]] 900 ((allL (ksOf l) g (mOf l)).map rowN) [4,5,6,7,23] [4,5,6,7] (QC v (mOf l)) (fun k=>[]) (fun k=>.ret (chV l g) []) (fun k=>((allL (ksOf l) g (mOf l)).take k).any (fun t=>excess g t==0)=false) (fun k=>by simp only [go_sem]<;>rfl) (by simp only [go_sem,nms]<;>rfl) V208 V208 (fun _=>by rfl) rfl V208 V210 (by rfl) (qi_C v (mOf l)) (c_all_2 l g hs hg v) V212 ?_ (fun k v hv hX=>?_) (fun hX=>?_)
  ·rfl
  ·skip
   obtain ⟨t,ht,rfl⟩:=rows_at hv
   have hto:=allL_mem h3 (List.mem_of_getElem? ht)
   have htl:t.ps.length≤3:=by omega
   refine ⟨rfl,?_⟩
   refine Exec.reg1 ?_
   iterate 2 (refine Run.o ?_)
   refine Run.nil ?_
   refine ⟨rfl,?_⟩
   refine Exec.blk1 ?_
   refine Exec.reg ?_
   iterate 2 (refine Run.o ?_)
   refine Run.c1 (c_excess g hg (ksOf l) v t hto.1 htl) V208 V208 ?_
   iterate 5 (refine Run.o ?_)
   refine Run.nil ?_
   refine Exec.reg ?_
   iterate 2 (refine Run.o ?_)
   refine Run.nil ?_
   refine Exec.cnd V208 (fun hb32=>?_) (fun hb32=>?_)
   ·skip
    have hr:=chV_some (hcl.trans (find_hit hX ht hb32))
    refine Exec.opk 8 ?_
    iterate 2 (refine OpenK.o1 V202 ?_)
    refine OpenK.cal (c_wheels t (by omega)) V210 V202 V96 (fr0) V202 V208 V208 ?_
    iterate 3 (refine OpenK.o1 V202 ?_)
    refine OpenK.nil (OpenE.fin V212 V212 ?_)
    refine Blk1K.ret ?_
    refine RngQ.ret V208 V208 ?_
    refine BlkK.ret ?_
    exact Ends.fin [] (rs:=[.cell 4 35,.cell 5 3,.cell 6 36]) rfl V202 V161
   ·skip
    refine Blk1K.nrm ?_
    refine RngQ.nrm ?_ ?_
    ·exact Ghost.kl [4,5,6,7] (by simp only [go_sem]<;>first|exact eqz|rfl)
    ·exact any_step hX ht hb32
  ·skip
   have hr:=chV_none (hcl.trans (find_miss (by rw [List.length_map,List.take_of_length_le (Nat.le_refl _)] at hX;exact hX)))
   refine BlkK.nrm ?_
   refine Exec.reg ?_
   refine Run.o1 V202 ?_
   refine Run.nildA 36 0 2 V208 V208 V208 ?_
   iterate 3 (refine Run.o1 V202 ?_)
   refine Run.nil ?_
   exact Ends.fin [] (rs:=[.cell 4 35,.cell 5 3,.cell 6 36]) rfl V202 V161
end Go.Mw
namespace Go.Mw
open Go.Proofs
open Go.Li
theorem c_Clone_Pt (l:List Pt)(hn:l.length≤1000):Contract Try.prog 71 [.leaf (.d (ptsD l))] (.leaf (.own 1000 0 l.length l.length)) [(1000,.arr 54 3 (l.map encPt))]:=by
 refine con_of follows_mixed Try.func71 rfl (by simp only [List.length_cons,List.length_nil,Try.ntmps71];omega) V215 rfl ?_
 refine Exec.reg ?_
 refine Run.o ?_
 refine Run.nil ?_
 refine Exec.assocS ?_
 refine Exec.reg ?_
 refine Run.o ?_
 refine Run.eqN V208 V208 _ (fun b=>V208) (fun b hb=>?_)
 refine Run.nil ?_
 refine Exec.cndS V208 (fun hb4=>?_) (fun hb4=>?_)
 ·skip
  have hl:l=[]:=by
   cases l with
   |nil=>rfl
   |cons p r=>have:=hb (by simp);rw [this] at hb4;cases hb4
  subst hl
  refine Exec.assocS ?_
  refine Exec.reg ?_
  refine Run.o ?_
  refine Run.nilo 2 1000 54 3 V208 V208 (by omega) (by omega) V208 ?_
  refine Run.nil ?_
  refine Exec.retS ?_
  exact Ends.fin [1000] (rs:=[.tmp 2]) rfl V208 V171
 ·skip
  refine Exec.skipS ?_
  refine Exec.reg ?_
  refine Run.bsN 1000 V208 V208 (by decide) V208 (by omega) V208 ?_
  refine Run.o ?_
  refine Run.o1 (by simp only [go_sem];(try simp (disch:=omega) only [if_pos]);(try simp only [go_sem])<;>first|(refine ite_run ⟨by (try simp only [List.length_append,List.length_drop,List.length_take,List.length_map,List.length_cons,List.length_nil,List.length_replicate,List.length_set,List.length_range,Nat.zero_add]);omega,by (try simp only [List.length_append,List.length_drop,List.length_take,List.length_map,List.length_cons,List.length_nil,List.length_replicate,List.length_set,List.length_range,Nat.zero_add]);omega,by repeat (first|exact al_nil|assumption|refine al_app ?_ ?_|refine al_drop ?_|refine al_take ?_|exact al_map (fun _=>rfl)|exact al_rep rfl|refine al_cons rfl ?_)⟩ ?_;simp only [go_sem]<;>rfl)|(refine ite_run ⟨by (try simp only [List.length_append,List.length_drop,List.length_take,List.length_map,List.length_cons,List.length_nil,List.length_replicate,List.length_set,List.length_range,Nat.zero_add]);omega,by repeat (first|exact al_nil|assumption|refine al_app ?_ ?_|refine al_drop ?_|refine al_take ?_|exact al_map (fun _=>rfl)|exact al_rep rfl|refine al_cons rfl ?_)⟩ ?_;simp only [go_sem]<;>rfl)|rfl) ?_
  refine Run.o ?_
  refine Run.nil ?_
  exact Ends.fin [1000] (rs:=[.tmp 2]) rfl V208 V171
abbrev mrgF (c:Cv)(fs:List Int):D:=.fn 70 [.pt (encCv c),.pt [intsD fs]]
abbrev rowQ (p:Pt):List AV:=[ptV p]
@[go_sem] def encS (p:Pt):Value × Bool × List AL:=(.int .i64 p.fl,false,[.d (.bo true)])
theorem mS_get (x:Int):∀m:List Pt,mapGet 0 (.int .i64 x) (m.map encS)=some (if m.any (fun p=>p.fl==x) then some (false,[.d (.bo true)]) else none)
 |[]=>rfl
 |b::m=>by
  have ih:=mS_get x m
  by_cases h:b.fl=x
  ·have h1:(x==b.fl)=true:=by simpa using h.symm
   have h2:(b::m).any (fun p=>p.fl==x)=true:=by simp [h]
   rw [h2]
   simp only [List.map_cons,encS,mapGet,keyEq,if_true,h1]
  ·have h1:(x==b.fl)=false:=by simpa using fun e=>h e.symm
   have h2:(b::m).any (fun p=>p.fl==x)=m.any (fun p=>p.fl==x):=by simp [h]
   rw [h2]
   simp only [List.map_cons,encS,mapGet,keyEq,if_true,h1]
   exact ih
theorem mS_new (x:Pt):∀ {m:List Pt},m.any (fun p=>p.fl==x.fl)=false→mapSet 0 (.int .i64 x.fl) (false,[.d (.bo true)]) (m.map encS)=some ((m++[x]).map encS)
 |[],_=>rfl
 |b::m,h=>by
  simp only [List.any_cons,Bool.or_eq_false_iff] at h
  have ih:=mS_new x h.2
  have h1:(x.fl==b.fl)=false:=by have:=h.1;simpa using fun e=>(by simpa using this:¬b.fl=x.fl) e.symm
  simp only [List.map_cons,List.cons_append,encS,mapSet,keyEq,if_true,h1] at ih ⊢
  rw [ih]
@[go_sem ↓] theorem keep_mS (os:List Nat)(bs:List Pt):(AO.map (bs.map encS)).keep os=.map (bs.map encS):=by
 show AO.map _=_
 rw [List.map_map]
 rfl
@[go_sem ↓] theorem ren_mS (r:Nat→Nat)(bs:List Pt):(AO.map (bs.map encS)).ren r=.map (bs.map encS):=by
 show AO.map _=_
 rw [List.map_map]
 rfl
@[go_sem ↓] theorem kp_mS (q:Nat→Bool)(bs:List Pt):(AO.map (bs.map encS)).kp q=.map (bs.map encS):=by
 show AO.map _=_
 rw [List.map_map]
 rfl
theorem mapL_mS {φ:AL→AL}(h:∀x,φ (.d x)=.d x)(bs:List Pt):(AO.map (bs.map encS)).mapL φ=.map (bs.map encS):=by
 show AO.map _=_
 rw [List.map_map]
 congr 1
 refine List.map_congr_left fun b _=>?_
 show (_,_,[φ _])=_
 rw [h];rfl
@[go_sem ↓] theorem frz_mS (o k:Nat)(es:List (List D))(bs:List Pt):(AO.map (bs.map encS)).mapL (AL.frz o k es)=.map (bs.map encS):=mapL_mS (fun _=>rfl) bs
@[go_sem ↓] theorem frzc_mS (o:Nat)(ds:List D)(bs:List Pt):(AO.map (bs.map encS)).mapL (AL.frzc o ds)=.map (bs.map encS):=mapL_mS (fun _=>rfl) bs
@[go_sem ↓] theorem frzf_mS (o:Nat)(d:D)(bs:List Pt):(AO.map (bs.map encS)).mapL (AL.frzf o d)=.map (bs.map encS):=mapL_mS (fun _=>rfl) bs
@[go_sem ↓] theorem frp_mS (o:Nat)(fs:List FL)(bs:List Pt):(AO.map (bs.map encS)).mapL (AL.frp o fs)=.map (bs.map encS):=mapL_mS (fun _=>rfl) bs
def addF (c:Cv)(l:List Pt)(f:Int):List Pt:=if f<c.start then l else if l.any (fun p=>p.fl==f) then l else l++[⟨f,Go.Li.free⟩]
def unsF (c:Cv)(fs:List Int):List Pt:=fs.foldl (addF c) c.ps
theorem unsF_snoc {c:Cv}{fs:List Int}{k:Nat}{f:Int}(h:fs[k]? = some f):unsF c (fs.take (k+1))=addF c (unsF c (fs.take k)) f:=by unfold unsF;rw [take_snoc h,List.foldl_append];rfl
theorem addF_len (c:Cv)(l:List Pt)(f:Int):l.length≤(addF c l f).length∧(addF c l f).length≤l.length+1:=by
 unfold addF
 split
 ·omega
 ·split
  ·omega
  ·simp
theorem unsF_len (c:Cv):∀fs:List Int,(unsF c fs).length≤c.ps.length+fs.length:=by
 intro fs
 have key:∀(fs:List Int) (l:List Pt),(fs.foldl (addF c) l).length≤l.length+fs.length:=by
  intro fs
  induction fs with
  |nil=>intro l;simp
  |cons f fs ih=>
   intro l
   have:=ih (addF c l f)
   have h2:=addF_len c l f
   simp only [List.foldl_cons,List.length_cons]
   omega
 exact key fs c.ps
def ltW (x y:Pt):Bool:=decide (IntKind.i64.wrap (x.fl-y.fl)<0)
theorem ltW_eq {x y:Pt}(hx:0≤x.fl∧x.fl≤100000)(hy:0≤y.fl∧y.fl≤100000):ltW x y=decide (x.fl<y.fl):=by
 unfold ltW
 rw [IntWalk.i64_in _ (by omega),decide_eq_decide]
 omega
def FlB (l:List Pt):Prop:=∀q∈l,0≤q.fl∧q.fl≤100000
theorem sort_asc:∀l:List Pt,Asc l→FlB l→isortE ltW l=l:=by
 refine snoc_ind (fun _ _=>rfl) fun l x ih ha hb=>?_
 have ha2:=List.pairwise_append.1 ha
 rw [isortE_snoc,ih ha2.1 fun q hq=>hb q (by simp [hq])]
 have:=ins_at (lt:=ltW) (x:=x) (l1:=l) (l2:=[]) (fun y hy=>by
  rw [ltW_eq (hb x (by simp)) (hb y V216)]
  have:=ha2.2.2 y hy x (by simp)
  simp;omega) (fun y hy=>by cases hy)
 simpa using this
theorem curve_facts {c:Cv}(h:curveB c=true):Asc c.ps∧FlB c.ps∧(∀q∈c.ps,Bd q.e)∧∀q∈c.ps,q.e.lo≤q.e.hi:=by
 have hc:=curveB_bd h
 have h2:=h
 unfold curveB at h2
 simp only [Bool.and_eq_true,decide_eq_true_eq] at h2
 obtain ⟨a1,a2,a3⟩:=ptsB_asc h2.2
 refine ⟨a1,fun q hq=>?_,a3,fun q hq=>?_⟩
 ·have:=a2 q hq;omega
 ·obtain ⟨i,hi⟩:=List.getElem?_of_mem hq
  exact (curve_ok h hi).2.2.1
theorem sort_uns {c:Cv}(h:curveB c=true){fs:List Int}(hn:fs.length≤1)(hf:∀f∈fs,0≤f∧f≤100000):isortE ltW (unsF c fs)=chainOf c fs:=by
 obtain ⟨h1,h2,_⟩:=curve_facts h
 match fs,hn with
 |[],_=>exact sort_asc _ h1 h2
 |[f],_=>
  show isortE ltW (addF c c.ps f)=(if f<c.start then c.ps else insP f c.ps)
  unfold addF
  by_cases hs:f<c.start
  ·rw [if_pos hs,if_pos hs];exact sort_asc _ h1 h2
  ·rw [if_neg hs,if_neg hs]
   rcases insP_split f c.ps with ⟨U,V,e1,e2,e3,e4⟩|⟨e1,a,e2,e3⟩
   ·have hV:∀q∈V,f<q.fl:=by
     have hp:Asc (U++V):=by rw [←e1];exact h1
     cases V with
     |nil=>intro q hq;cases hq
     |cons v V=>
      have hv:=e4 v rfl
      intro q hq
      rcases List.mem_cons.1 hq with rfl|hq
      ·exact hv
      ·have:=(List.pairwise_cons.1 (List.pairwise_append.1 hp).2.1).1 q hq;omega
    have hany:c.ps.any (fun p=>p.fl==f)=false:=by
     rw [List.any_eq_false]
     intro q hq
     rw [e1] at hq
     rcases List.mem_append.1 hq with hq|hq
     ·have:=e3 q hq;simp;omega
     ·have:=hV q hq;simp;omega
    rw [if_neg (by rw [hany];decide),e2,isortE_snoc,sort_asc _ h1 h2]
    have hfb:=hf f (by simp)
    have hx:0≤(Pt.mk f Go.Li.free).fl∧(Pt.mk f Go.Li.free).fl≤100000:=hfb
    conv=>lhs;rw [e1]
    rw [ins_at (fun y hy=>by rw [ltW_eq hx (h2 y (by rw [e1];simp [hy]))];have:=e3 y hy;simp;omega) (fun y hy=>by rw [ltW_eq hx (h2 y (by rw [e1];simp [hy]))];have:=hV y hy;simpa using this)]
    simp
   ·have hany:c.ps.any (fun p=>p.fl==f)=true:=List.any_eq_true.2 ⟨a,e2,by simp [e3]⟩
    rw [if_pos hany,e1];exact sort_asc _ h1 h2
theorem chain_facts {c:Cv}(h:curveB c=true){fs:List Int}(hn:fs.length≤1)(hf:∀f∈fs,0≤f∧f≤100000):Asc (chainOf c fs)∧FlB (chainOf c fs)∧(∀q∈chainOf c fs,Bd q.e)∧(∀q∈chainOf c fs,q.e.lo≤q.e.hi)∧(chainOf c fs).length≤11:=by
 obtain ⟨h1,h2,h3,h4⟩:=curve_facts h
 have hb:=curveB_bd h
 match fs,hn with
 |[],_=>exact ⟨h1,h2,h3,h4,by show c.ps.length≤11;omega⟩
 |[f],_=>
  show Asc (if f<c.start then c.ps else insP f c.ps)∧FlB (if f<c.start then c.ps else insP f c.ps)∧(∀q∈(if f<c.start then c.ps else insP f c.ps),Bd q.e)∧(∀q∈(if f<c.start then c.ps else insP f c.ps),q.e.lo≤q.e.hi)∧(if f<c.start then c.ps else insP f c.ps).length≤11
  by_cases hs:f<c.start
  ·rw [if_pos hs];exact ⟨h1,h2,h3,h4,by omega⟩
  ·rw [if_neg hs]
   have hi:=insP_facts (f:=f) h1 h3
   refine ⟨hi.1,?_,hi.2.1,?_,?_⟩<;>rcases insP_split f c.ps with ⟨U,V,e1,e2,_⟩|⟨e1,_⟩
   ·rw [e2]
    intro q hq
    rcases List.mem_append.1 hq with hq|hq
    ·exact h2 q (by rw [e1];simp [hq])
    ·rcases List.mem_cons.1 hq with rfl|hq
     ·exact hf f (by simp)
     ·exact h2 q (by rw [e1];simp [hq])
   ·rw [e1];exact h2
   ·rw [e2]
    intro q hq
    rcases List.mem_append.1 hq with hq|hq
    ·exact h4 q (by rw [e1];simp [hq])
    ·rcases List.mem_cons.1 hq with rfl|hq
     ·show Go.Li.free.lo≤Go.Li.free.hi;decide
     ·exact h4 q (by rw [e1];simp [hq])
   ·rw [e1];exact h4
   ·rw [e2]
    have:c.ps.length=U.length+V.length:=by rw [e1];simp
    simp;omega
   ·rw [e1];omega
theorem c_merged (c:Cv)(fs:List Int):Contract Try.prog 47 [cvV c,.leaf (.d (intsD fs))] (.leaf (.d (mrgF c fs))) []:=by
 refine con_of follows_mixed Try.func47 rfl (by simp only [List.length_cons,List.length_nil,Try.ntmps47];omega) V215 rfl ?_
 refine Exec.reg ?_
 iterate 3 (refine Run.o ?_)
 refine Run.nil ?_
 refine Exec.reg ?_
 refine Run.frz 2 V208 ?_
 refine Run.frz 3 V208 ?_
 iterate 2 (refine Run.o ?_)
 refine Run.nil ?_
 exact Ends.fin [] (rs:=[.tmp 4]) rfl V208 V171
theorem c_cmpP (x y:Pt):Contract Try.prog 74 [ptV x,ptV y] (.int (IntKind.i64.wrap (x.fl-y.fl))) []:=by
 refine con_of follows_mixed Try.func74 rfl (by simp only [List.length_cons,List.length_nil,Try.ntmps74];omega) V215 rfl ?_
 refine Exec.reg ?_
 iterate 3 (refine Run.o ?_)
 refine Run.nil ?_
 refine Exec.reg ?_
 iterate 4 (refine Run.o ?_)
 refine Run.o1 V91 ?_
 refine Run.o ?_
 refine Run.nil ?_
 exact Ends.fin [] (rs:=[.tmp 4]) rfl V208 V171
theorem c_merged_1 (c:Cv)(h:curveB c=true)(fs:List Int)(hn:fs.length≤1)(hf:∀f∈fs,0≤f∧f≤100000):Con Try.prog 70 [.leaf (.obj 900),.leaf (.d (.pt (encCv c))),.leaf (.d (.pt [intsD fs]))] [(900,.yl)] (lB ((chainOf c fs).map rowQ)):=by
 have hc:=curveB_bd h
 obtain ⟨a1,a2,a3,a4⟩:=curve_facts h
 have hcl:=(chain_facts h hn hf).2.2.2.2
 have hz0:unsF c []=c.ps:=rfl
 have hsort:=sort_uns h hn hf
 have hul:∀k,(unsF c (fs.take k)).length≤11:=fun k=>by have:=unsF_len c (fs.take k);rw [List.length_take] at this;omega
 refine con_of follows_mixed Try.func70 rfl (by simp only [List.length_cons,List.length_nil,Try.ntmps70];omega) V215 rfl ?_
 refine Exec.reg ?_
 iterate 2 (refine Run.o ?_)
 refine Run.nil ?_
 refine Exec.reg ?_
 iterate 2 (refine Run.o ?_)
 refine Run.cal (c_Clone_Pt c.ps (by omega)) V210 V208 V96 (fr1 V208) V208 ?_
 refine Run.o ?_
 refine Run.nil ?_
 refine Exec.assocS ?_
 refine Exec.reg ?_
 iterate 4 (refine Run.o ?_)
 refine Run.nil ?_
 refine Exec.blk ?_
 refine Exec.forA [0,1,2,4,5,17,18,19] [900,12,17000] (c.ps.length) (fun k=>[.slot 19 (.int k),.obj 12 (.map ((c.ps.take k).map encS))]) (fun _=>True) (fun k=>by simp only [go_sem]<;>rfl) (by simp only [go_sem,Int.natCast_zero,List.take_zero,List.map_nil]<;>rfl) ?_ (fun k hk hX=>?_)
 ·trivial
 ·skip
  refine Exec.reg ?_
  refine Run.o ?_
  refine Run.nil ?_
  refine Exec.cndS V208 (fun hb20=>?_) (fun hb20=>?_)
  ·skip
   have hlt:=lt_of_dec hb20
   obtain ⟨p,hp⟩:=elem_of hb20
   have htk:=take_snoc hp
   have hany:(c.ps.take k).any (fun q=>q.fl==p.fl)=false:=by
    rw [List.any_eq_false]
    intro q hq
    have hpw:=List.pairwise_append.1 (by rw [Asc,←List.take_append_drop k c.ps] at a1;exact a1)
    have:=hpw.2.2 q hq p (by rw [drop_get hp];simp)
    simp;omega
   have hms:=mS_new p hany
   rw [←htk] at hms
   refine Exec.skipS ?_
   refine Exec.blk ?_
   refine Exec.reg ?_
   refine Run.o1 (by simp only [go_sem,hp,hms];(try simp (disch:=omega) only [if_pos]);(try simp only [go_sem,hp,hms])<;> rfl) ?_
   iterate 3 (refine Run.o1 (by simp only [go_sem,hp,hms]<;>rfl) ?_)
   refine Run.nil ?_
   refine Exec.reg1 ?_
   iterate 4 (refine Run.o1 (by simp only [go_sem,hp,hms]<;>rfl) ?_)
   refine Run.nil ?_
   refine BlkK.nrm ?_
   refine Exec.reg1 ?_
   refine Run.o1 (by simp only [go_sem,hp,hms];(try simp (disch:=omega) only [IntWalk.i64_in,IntWalk.u64_in,IntWalk.i32_in,IntWalk.u8_in,if_neg,if_pos])<;> rfl) ?_
   refine Run.o1 (by simp only [go_sem,hp,hms]<;>rfl) ?_
   refine Run.nil ?_
   refine ForK.nxt ?_ ?_ ?_
   ·omega
   ·exact Ghost.kp [0,1,2,4,5,17,18,19] [900,12,17000] (by simp only [go_sem,hp,hms]<;>first|exact eqz|rfl)
   ·trivial
  ·skip
   have hke:k=c.ps.length:=by have:=ge_of_dec hb20;omega
   subst hke
   have e:=List.take_length (l:=c.ps)
   refine Exec.exitS ?_
   refine ForK.ext ?_
   refine BlkK.hit ?_
   refine Exec.assocS ?_
   refine Exec.reg ?_
   iterate 3 (refine Run.o1 V205 ?_)
   refine Run.nil ?_
   refine Exec.blk ?_
   refine Exec.forA [0,1,4,5,27,28,29] [900,12,17000] (fs.length) (fun k=>[.slot 29 (.int k),.slot 5 (.leaf (.own 17000 0 (unsF c (fs.take k)).length (unsF c (fs.take k)).length)),.obj 17000 (.arr 54 3 ((unsF c (fs.take k)).map encPt)),.obj 12 (.map ((unsF c (fs.take k)).map encS))]) (fun _=>True) (fun k=>by simp only [go_sem]<;>rfl) (by simp only [go_sem,e,Int.natCast_zero,List.take_zero,hz0]<;>rfl) ?_ (fun k hk hX=>?_)
   ·trivial
   ·skip
    refine Exec.reg ?_
    refine Run.o1 V205 ?_
    refine Run.nil ?_
    refine Exec.cndS V205 (fun hb30=>?_) (fun hb30=>?_)
    ·skip
     have hlt:=lt_of_dec hb30
     obtain ⟨f,hf1⟩:=elem_of hb30
     have hfb:=hf f (List.mem_of_getElem? hf1)
     have hulk:=hul k
     refine Exec.skipS ?_
     refine Exec.blk ?_
     refine Exec.reg ?_
     refine Run.o1 (by simp only [go_sem,hf1];(try simp (disch:=omega) only [if_pos]);(try simp only [go_sem,hf1])<;> rfl) ?_
     iterate 2 (refine Run.o1 (by simp only [go_sem,hf1]<;>rfl) ?_)
     refine Run.nil ?_
     by_cases hs:f<c.start
     ·skip
      have hadd:addF c (unsF c (fs.take k)) f=(unsF c (fs.take k)):=by unfold addF;rw [if_pos hs]
      have hun:=(unsF_snoc (c:=c) hf1).trans hadd
      have hd:decide (f≥c.start)=false:=decide_eq_false (by omega)
      refine Exec.reg ?_
      iterate 5 (refine Run.o1 V188 ?_)
      iterate 4 (refine Run.s ?_)
      refine Run.o1 V188 ?_
      refine Run.nil ?_
      refine Exec.cnd V188 (fun hb42=>?_) (fun hb42=>?_)
      ·exact absurd hb42 (by simp)
      ·skip
       refine BlkK.nrm ?_
       refine Exec.reg1 ?_
       refine Run.o1 (by simp only [go_sem,hf1,hd,hun];(try simp (disch:=omega) only [IntWalk.i64_in,IntWalk.u64_in,IntWalk.i32_in,IntWalk.u8_in,if_neg,if_pos])<;> rfl) ?_
       refine Run.o1 V188 ?_
       refine Run.nil ?_
       refine ForK.nxt ?_ ?_ ?_
       ·omega
       ·exact Ghost.kp [0,1,4,5,27,28,29] [900,12,17000] (by simp only [go_sem,hf1,hd,hun]<;>first|exact eqz|rfl)
       ·trivial
     ·skip
      have hd:decide (f≥c.start)=true:=decide_eq_true (by omega)
      by_cases hm:(unsF c (fs.take k)).any (fun p=>p.fl==f)=true
      ·skip
       have hany:(unsF c (fs.take k)).any (fun p=>p.fl==f)=true:=by simpa using hm
       have hmg:mapGet 0 (.int .i64 f) ((unsF c (fs.take k)).map encS)=some (some (false,[.d (.bo true)])):=by rw [mS_get,hany];rfl
       have hadd:addF c (unsF c (fs.take k)) f=(unsF c (fs.take k)):=by unfold addF;rw [if_neg hs,hany];rfl
       have hun:=(unsF_snoc (c:=c) hf1).trans hadd
       refine Exec.reg ?_
       iterate 5 (refine Run.o1 V148 ?_)
       iterate 4 (refine Run.y1 V148 ?_)
       refine Run.o1 V148 ?_
       refine Run.nil ?_
       refine Exec.cnd V148 (fun hb42=>?_) (fun hb42=>?_)
       ·exact absurd hb42 (by simp)
       ·skip
        refine BlkK.nrm ?_
        refine Exec.reg1 ?_
        refine Run.o1 (by simp only [go_sem,hf1,hd,hmg,hun,Bool.not_true];(try simp (disch:=omega) only [IntWalk.i64_in,IntWalk.u64_in,IntWalk.i32_in,IntWalk.u8_in,if_neg,if_pos])<;> rfl) ?_
        refine Run.o1 V148 ?_
        refine Run.nil ?_
        refine ForK.nxt ?_ ?_ ?_
        ·omega
        ·exact Ghost.kp [0,1,4,5,27,28,29] [900,12,17000] (by simp only [go_sem,hf1,hd,hmg,hun,Bool.not_true]<;>first|exact eqz|rfl)
        ·trivial
      ·skip
       have hany:(unsF c (fs.take k)).any (fun p=>p.fl==f)=false:=by simpa using hm
       have hmg:mapGet 0 (.int .i64 f) ((unsF c (fs.take k)).map encS)=some none:=by rw [mS_get,hany];rfl
       have hadd:addF c (unsF c (fs.take k)) f=(unsF c (fs.take k))++[⟨f,Go.Li.free⟩]:=by unfold addF;rw [if_neg hs,hany];rfl
       have hun:=(unsF_snoc (c:=c) hf1).trans hadd
       have hms:=mS_new (Pt.mk f Go.Li.free) hany
       have hm2:((unsF c (fs.take k))++[Pt.mk f Go.Li.free]).map encPt=(unsF c (fs.take k)).map encPt++[[.i f,.i Go.Li.free.lo,.i Go.Li.free.hi]]:=by simp [encPt]
       have hl2:((unsF c (fs.take k))++[Pt.mk f Go.Li.free]).length=(unsF c (fs.take k)).length+1:=by simp
       refine Exec.reg ?_
       iterate 5 (refine Run.o1 V136 ?_)
       iterate 4 (refine Run.y1 V136 ?_)
       refine Run.o1 V136 ?_
       refine Run.nil ?_
       refine Exec.cnd V136 (fun hb42=>?_) (fun hb42=>?_)
       ·skip
        refine Exec.reg ?_
        iterate 3 (refine Run.o1 V136 ?_)
        refine Run.nil ?_
        refine Exec.reg1 ?_
        iterate 2 (refine Run.o1 V136 ?_)
        refine Run.c1 (c_free) V136 V136 ?_
        iterate 2 (refine Run.o1 V136 ?_)
        refine Run.o1 (by simp only [go_sem,hf1,hd,hmg,hun,hms,hm2,hl2,Bool.not_false];(try simp (disch:=omega) only [if_pos]);(try simp only [go_sem,hf1,hd,hmg,hun,hms,hm2,hl2,Bool.not_false])<;>first|(refine ite_run ⟨by (try simp only [List.length_append,List.length_drop,List.length_take,List.length_map,List.length_cons,List.length_nil,List.length_replicate,List.length_set,List.length_range,Nat.zero_add]);omega,by (try simp only [List.length_append,List.length_drop,List.length_take,List.length_map,List.length_cons,List.length_nil,List.length_replicate,List.length_set,List.length_range,Nat.zero_add]);omega,by repeat (first|exact al_nil|assumption|refine al_app ?_ ?_|refine al_drop ?_|refine al_take ?_|exact al_map (fun _=>rfl)|exact al_rep rfl|refine al_cons rfl ?_)⟩ ?_;simp only [go_sem,hf1,hd,hmg,hun,hms,hm2,hl2,Bool.not_false]<;>rfl)|(refine ite_run ⟨by (try simp only [List.length_append,List.length_drop,List.length_take,List.length_map,List.length_cons,List.length_nil,List.length_replicate,List.length_set,List.length_range,Nat.zero_add]);omega,by repeat (first|exact al_nil|assumption|refine al_app ?_ ?_|refine al_drop ?_|refine al_take ?_|exact al_map (fun _=>rfl)|exact al_rep rfl|refine al_cons rfl ?_)⟩ ?_;simp only [go_sem,hf1,hd,hmg,hun,hms,hm2,hl2,Bool.not_false]<;>rfl)|rfl) ?_
        refine Run.o1 V136 ?_
        refine Run.nil ?_
        refine BlkK.nrm ?_
        refine Exec.reg1 ?_
        refine Run.o1 (by simp only [go_sem,hf1,hd,hmg,hun,hms,hm2,hl2,Bool.not_false];(try simp (disch:=omega) only [IntWalk.i64_in,IntWalk.u64_in,IntWalk.i32_in,IntWalk.u8_in,if_neg,if_pos])<;> rfl) ?_
        refine Run.o1 V136 ?_
        refine Run.nil ?_
        refine ForK.nxt ?_ ?_ ?_
        ·omega
        ·exact Ghost.kp [0,1,4,5,27,28,29] [900,12,17000] (by simp only [go_sem,hf1,hd,hmg,hun,hms,hm2,hl2,Bool.not_false]<;>first|exact eqz|rfl)
        ·trivial
       ·exact absurd hb42 (by simp)
    ·skip
     have hke:k=fs.length:=by have:=ge_of_dec hb30;omega
     subst hke
     have e:=List.take_length (l:=fs)
     have hsl:(chainOf c fs).length=(unsF c fs).length:=by rw [←hsort,len_isortE]
     have hso:isortE (fun x y=>decide (IntKind.i64.wrap (x.fl-y.fl)<0)) (unsF c fs)=chainOf c fs:=hsort
     refine Exec.exitS ?_
     refine ForK.ext ?_
     refine BlkK.hit ?_
     refine Exec.reg ?_
     refine Run.o1 (by simp only [go_sem,e,hso]<;>rfl) ?_
     refine Run.lendA 900 17000 (c_SortFunc_Point (g:=74) (ds:=[]) (fun x y=>IntKind.i64.wrap (x.fl-y.fl)) V210 (fun x y=>c_cmpP x y) (unsF c fs) (by have:=hul fs.length;rw [List.take_length] at this;omega)) (by simp [len_isortE]) V210 V208 (by simp only [go_sem,e,hso]<;>rfl) (by simp only [go_sem,e,hso]<;>rfl) (by exact ⟨by first|exact WkR.pure rfl|exact WkR.of rfl rfl|exact WkR.nil _|exact WkR.int V179,by first|exact WkR.pure rfl|exact WkR.of rfl rfl|exact WkR.nil _|exact WkR.int V179,trivial⟩) (by simp only [go_sem,e,hso]<;>rfl) ?_
     refine Run.nil ?_
     refine Exec.reg ?_
     iterate 3 (refine Run.o1 (by simp only [go_sem,e,hso,←hsl]<;>rfl) ?_)
     refine Run.nil ?_
     refine Exec.blk1 ?_
     refine Exec.forY [0,54,55,56] [900,17000] ((chainOf c fs).length) (fun k=>[.slot 56 (.int k)]) (fun k=>lB (((chainOf c fs).map rowQ).drop k)) (fun _=>True) (fun k=>by simp only [go_sem]<;>rfl) (by simp only [go_sem,e,hso,←hsl,Int.natCast_zero,List.drop_zero]<;>rfl) ?_ (fun k hk hX=>?_)
     ·trivial
     ·skip
      refine Exec.reg ?_
      refine Run.o1 (by simp only [go_sem,e,hso,←hsl]<;>rfl) ?_
      refine Run.nil ?_
      refine Exec.cndS (by simp only [go_sem,e,hso,←hsl]<;>rfl) (fun hb57=>?_) (fun hb57=>?_)
      ·skip
       have hlt:=lt_of_dec hb57
       obtain ⟨p,hp⟩:=elem_of hb57
       have hdr:=drop_get (show ((chainOf c fs).map rowQ)[k]? = some (rowQ p) by rw [List.getElem?_map,hp];rfl)
       refine Exec.skipS ?_
       refine Exec.blk ?_
       refine Exec.reg ?_
       refine Run.o1 (by simp only [go_sem,e,hso,←hsl,hp];(try simp (disch:=omega) only [if_pos]);(try simp only [go_sem,e,hso,←hsl,hp])<;> rfl) ?_
       iterate 3 (refine Run.o1 V177 ?_)
       refine Run.nil ?_
       refine Exec.reg ?_
       iterate 2 (refine Run.o1 V177 ?_)
       refine Run.yld (args:=rowQ p) V208 V208 (by simp only [go_sem,hp]<;>rfl) V206 (by simp only [hdr,lB_cons]<;>rfl) (fun r=>?_)
       refine Run.o1 V177 ?_
       refine Run.nil ?_
       refine Exec.cnd V177 (fun hb63=>?_) (fun hb63=>?_)
       ·skip
        have hr:r=false:=by simpa using hb63
        subst hr
        refine BlkK.ret ?_
        refine ForK.ret ?_
        refine Blk1K.ret ?_
        exact Ends.fin [] (rs:=[]) rfl V177 (by simp only [go_sem,e,hso,←hsl,hp]<;>first|rfl|exact eqz)
       ·skip
        have hr:r=true:=by simpa using hb63
        subst hr
        refine BlkK.nrm ?_
        refine Exec.reg1 ?_
        refine Run.o1 (by simp only [go_sem,e,hso,←hsl,hp];(try simp (disch:=omega) only [IntWalk.i64_in,IntWalk.u64_in,IntWalk.i32_in,IntWalk.u8_in,if_neg,if_pos])<;> rfl) ?_
        refine Run.o1 V177 ?_
        refine Run.nil ?_
        refine ForK.nxt ?_ ?_ ?_
        ·omega
        ·exact Ghost.kp [0,54,55,56] [900,17000] (by simp only [go_sem,e,hso,←hsl,hp]<;>first|exact eqz|rfl)
        ·trivial
      ·skip
       have hke:k=(chainOf c fs).length:=by have:=ge_of_dec hb57;omega
       have hdn:((chainOf c fs).map rowQ).drop k=[]:=List.drop_eq_nil_of_le V214
       refine Exec.exitS ?_
       refine ForK.ext ?_
       refine Blk1K.hit ?_
       exact Ends.fin0 [] (rs:=[]) rfl (by simp only [go_sem,e,hso,←hsl,hdn,lB_nil]<;>rfl) (by simp only [go_sem,e,hso,←hsl,hdn,lB_nil]<;>first|rfl|exact eqz)
end Go.Mw
namespace Go.Mw
open Go.Proofs Go.Li
structure CP (ps:List Pt):Prop where
 asc:Asc ps
 fl:FlB ps
 bd:∀q∈ps,Bd q.e
 ne:∀q∈ps,q.e.lo≤q.e.hi
 len:ps.length≤11
def pAt (ps:List Pt)(i:Nat):Pt:=ps.getD i ⟨0,⟨0,0⟩⟩
theorem pAt_get {ps:List Pt}{i:Nat}(h:i<ps.length):ps[i]? = some (pAt ps i):=by unfold pAt;rw [List.getD_eq_getElem?_getD,List.getElem?_eq_getElem h];rfl
theorem pAt_mem {ps:List Pt}{i:Nat}(h:i<ps.length):pAt ps i∈ps:=List.mem_of_getElem? (pAt_get h)
theorem pAt_lt {ps:List Pt}(h:CP ps){i j:Nat}(hij:i<j)(hj:j<ps.length):(pAt ps i).fl<(pAt ps j).fl:=by
 have:=(List.pairwise_iff_getElem.1 h.asc) i j (by omega) hj hij
 have e1:=pAt_get (ps:=ps) (i:=i) (by omega)
 have e2:=pAt_get hj
 rw [List.getElem?_eq_getElem (by omega)] at e1
 rw [List.getElem?_eq_getElem hj] at e2
 simp only [Option.some.injEq] at e1 e2
 rw [e1,e2] at this;exact this
def SU (st:Int)(ps:List Pt)(i:Nat):Go.Li.Span:=upS st (pAt ps i).e (lft (pAt ps i).fl (ps.take i).reverse)
def SD (st:Int)(ps:List Pt)(i:Nat):Go.Li.Span:=upS st (pAt ps i).e (rgt (pAt ps i).fl (ps.drop (i+1)))
theorem SU_zero (st:Int)(ps:List Pt):SU st ps 0=(pAt ps 0).e:=rfl
theorem SU_succ (st:Int){ps:List Pt}{i:Nat}(h:i+1<ps.length):SU st ps (i+1)=both (pAt ps (i+1)).e ⟨(SU st ps i).lo,(SU st ps i).hi+st*((pAt ps (i+1)).fl-(pAt ps i).fl)⟩:=by
 unfold SU
 rw [take_snoc (pAt_get (show i<ps.length by omega)),List.reverse_append]
 rfl
theorem SD_last (st:Int){ps:List Pt}{i:Nat}(h:i+1=ps.length):SD st ps i=(pAt ps i).e:=by
 unfold SD
 rw [List.drop_eq_nil_of_le (by omega)];rfl
theorem SD_succ (st:Int){ps:List Pt}{i:Nat}(h:i+1<ps.length):SD st ps i=both (pAt ps i).e ⟨(SD st ps (i+1)).lo,(SD st ps (i+1)).hi+st*((pAt ps (i+1)).fl-(pAt ps i).fl)⟩:=by
 unfold SD
 rw [drop_get (pAt_get h)]
 rfl
theorem SB_of {e:Go.Li.Span}(h:Bd e)(h2:e.lo≤e.hi):SB e:=by
 obtain ⟨a,b⟩:=h
 unfold SB;omega
theorem both_SB {a b:Go.Li.Span}(ha:SB a)(hb1:b.lo≤1000)(hb2:-1000≤b.hi):SB (both a b):=by
 obtain ⟨⟨a1,a2⟩,a3,a4⟩:=ha
 unfold both SB
 simp only
 omega
theorem SU_SB {st:Int}(hst:0≤st){ps:List Pt}(h:CP ps):∀ {i:Nat},i<ps.length→SB (SU st ps i)
 |0,hi=>by rw [SU_zero];exact SB_of (h.bd _ (pAt_mem hi)) (h.ne _ (pAt_mem hi))
 |i+1,hi=>by
  rw [SU_succ st hi]
  have ih:=SU_SB hst h (show i<ps.length by omega)
  have hm:=mul_nn hst (d:=(pAt ps (i+1)).fl-(pAt ps i).fl) (by have:=pAt_lt h (show i<i+1 by omega) hi;omega)
  exact both_SB (SB_of (h.bd _ (pAt_mem hi)) (h.ne _ (pAt_mem hi))) ih.1.2 (by have:=ih.2.1;simp only;omega)
theorem SD_SB {st:Int}(hst:0≤st){ps:List Pt}(h:CP ps):∀(k:Nat) {i:Nat},i+1+k=ps.length→SB (SD st ps i)
 |0,i,hi=>by rw [SD_last st (by omega)];exact SB_of (h.bd _ (pAt_mem (by omega))) (h.ne _ (pAt_mem (by omega)))
 |k+1,i,hi=>by
  have h1:i+1<ps.length:=by omega
  rw [SD_succ st h1]
  have ih:=SD_SB hst h k (i:=i+1) (by omega)
  have hm:=mul_nn hst (d:=(pAt ps (i+1)).fl-(pAt ps i).fl) (by have:=pAt_lt h (show i<i+1 by omega) h1;omega)
  exact both_SB (SB_of (h.bd _ (pAt_mem (by omega))) (h.ne _ (pAt_mem (by omega)))) ih.1.2 (by have:=ih.2.1;simp only;omega)
def rgM (n:Nat)(f:Nat→Go.Li.Span):List Go.Li.Span:=(List.range n).map f
theorem rgM_len (n:Nat)(f:Nat→Go.Li.Span):(rgM n f).length=n:=by unfold rgM;simp
theorem rgM_get {n:Nat}{f:Nat→Go.Li.Span}{i:Nat}(h:i<n):(rgM n f)[i]? = some (f i):=by unfold rgM;rw [List.getElem?_map,List.getElem?_range h];rfl
theorem rgM_set {n:Nat}{f:Nat→Go.Li.Span}(k:Nat)(v:Go.Li.Span):(rgM n f).set k v=rgM n fun i=>if i=k then v else f i:=by
 apply List.ext_getElem?
 intro i
 rw [List.getElem?_set]
 by_cases h:k=i
 ·subst h
  rw [if_pos rfl]
  by_cases hk:k<n
  ·rw [if_pos (by rw [rgM_len];exact hk),rgM_get hk];simp
  ·rw [if_neg (by rw [rgM_len];exact hk),List.getElem?_eq_none (by rw [rgM_len];omega)]
 ·rw [if_neg h]
  by_cases hi:i<n
  ·rw [rgM_get hi,rgM_get hi];simp [Ne.symm h]
  ·rw [List.getElem?_eq_none (by rw [rgM_len];omega),List.getElem?_eq_none (by rw [rgM_len];omega)]
theorem rgM_eq {n:Nat}{f g:Nat→Go.Li.Span}(h:∀i,i<n→f i=g i):rgM n f=rgM n g:=by
 unfold rgM
 exact List.map_congr_left fun i hi=>h i (List.mem_range.1 hi)
theorem rgM_zero (n:Nat):(rgM n fun _=>(⟨0,0⟩:Go.Li.Span)).map encSp=List.replicate n [.i 0,.i 0]:=by
 unfold rgM
 rw [List.map_map]
 apply List.ext_getElem?
 intro i
 by_cases h:i<n
 ·rw [List.getElem?_map,List.getElem?_range h,List.getElem?_replicate,if_pos h];rfl
 ·rw [List.getElem?_eq_none V214,List.getElem?_eq_none V214]
def sideU (st:Int)(ps:List Pt)(k:Nat):List Go.Li.Span:=rgM ps.length fun i=>if i<k then SU st ps i else ⟨0,0⟩
def sideD (st:Int)(ps:List Pt)(k:Nat):List Go.Li.Span:=rgM ps.length fun i=>if ps.length-k≤i then SD st ps i else ⟨0,0⟩
theorem sideU_zero (st:Int)(ps:List Pt):(sideU st ps 0).map encSp=List.replicate ps.length [.i 0,.i 0]:=by
 rw [←rgM_zero];congr 1
theorem sideD_zero (st:Int)(ps:List Pt):(sideD st ps 0).map encSp=List.replicate ps.length [.i 0,.i 0]:=by
 rw [←rgM_zero];congr 1
 exact rgM_eq fun i hi=>by rw [if_neg (by omega)]
theorem sideU_len (st:Int)(ps:List Pt)(k:Nat):(sideU st ps k).length=ps.length:=rgM_len _ _
theorem sideD_len (st:Int)(ps:List Pt)(k:Nat):(sideD st ps k).length=ps.length:=rgM_len _ _
theorem sideU_set (st:Int){ps:List Pt}{k:Nat}:(sideU st ps k).set k (SU st ps k)=sideU st ps (k+1):=by
 unfold sideU
 rw [rgM_set]
 refine rgM_eq fun i hi=>?_
 by_cases h:i=k
 ·subst h;rw [if_pos rfl,if_pos (by omega)]
 ·rw [if_neg h]
  by_cases h2:i<k
  ·rw [if_pos h2,if_pos (by omega)]
  ·rw [if_neg h2,if_neg (by omega)]
theorem sideD_set (st:Int){ps:List Pt}{k:Nat}(hk:k<ps.length):(sideD st ps k).set (ps.length-1-k) (SD st ps (ps.length-1-k))=sideD st ps (k+1):=by
 unfold sideD
 rw [rgM_set]
 refine rgM_eq fun i hi=>?_
 by_cases h:i=ps.length-1-k
 ·subst h;rw [if_pos rfl,if_pos (by omega)]
 ·rw [if_neg h]
  by_cases h2:ps.length-k≤i
  ·rw [if_pos h2,if_pos (by omega)]
  ·rw [if_neg h2,if_neg (by omega)]
theorem sideU_all (st:Int)(ps:List Pt):sideU st ps ps.length=rgM ps.length (SU st ps):=rgM_eq fun i hi=>if_pos hi
theorem sideD_all (st:Int)(ps:List Pt):sideD st ps ps.length=rgM ps.length (SD st ps):=rgM_eq fun i hi=>if_pos (by omega)
def lastB (n k:Nat):Int:=if k=0 then -1 else (n:Int)-k
end Go.Mw
namespace Go.Mw
open Go.Proofs
open Go.Li
theorem c_newChain (c:Cv)(h:curveB c=true)(fs:List Int)(hn:fs.length≤1)(hf:∀f∈fs,0≤f∧f≤100000):Contract Try.prog 24 [cvV c,.leaf (.d (intsD fs))] (.leaf (.d (chP c.steep (chainOf c fs)))) []:=by
 have hc:=curveB_bd h
 have hcl:=(chain_facts h hn hf).2.2.2.2
 refine con_of follows_mixed Try.func24 rfl (by simp only [List.length_cons,List.length_nil,Try.ntmps24];omega) V215 rfl ?_
 refine Exec.reg ?_
 iterate 2 (refine Run.o ?_)
 refine Run.nil ?_
 refine Exec.reg ?_
 iterate 6 (refine Run.o ?_)
 refine Run.nil ?_
 refine Exec.assocS ?_
 refine Exec.reg ?_
 refine Run.nilC 10 1 1000 54 3 V208 V208 V208 (by omega) (by omega) V208 ?_
 iterate 2 (refine Run.o ?_)
 refine Run.c1 (c_merged c fs) V208 V208 ?_
 refine Run.nil ?_
 refine Exec.blk ?_
 refine Exec.rangeL 70 [.pt (encCv c),.pt [intsD fs]] 900 ((chainOf c fs).map rowQ) [5,13] [5,10,1000] (fun k=>[.obj 10 (.cells [.d (.i c.steep),.own 1000 0 k k]),.obj 1000 (.arr 54 3 (((chainOf c fs).take k).map encPt))]) (fun _=>True) (fun k=>by simp only [go_sem]<;>rfl) (by simp only [go_sem,List.take_zero,List.map_nil]<;>rfl) (fun _=>by rfl) (fun _=>by rfl) rfl V208 V210 (c_merged_1 c h fs hn hf) V212 ?_ (fun k v hv hX=>?_) (fun hX=>?_)
 ·trivial
 ·skip
  obtain ⟨p,hp,rfl⟩:=rows_at hv
  have hlt:=(List.getElem?_eq_some_iff.1 hp).1
  have hl:((chainOf c fs).take k).length=k:=by rw [List.length_take];omega
  have hk1:((chainOf c fs).take (k+1)).map encPt=((chainOf c fs).take k).map encPt++[[.i p.fl,.i p.e.lo,.i p.e.hi]]:=by rw [take_snoc hp];simp [encPt]
  refine ⟨rfl,?_⟩
  refine Exec.reg1 ?_
  iterate 2 (refine Run.o1 (by simp only [go_sem,hl,hk1]<;>rfl) ?_)
  refine Run.nil ?_
  refine ⟨rfl,?_⟩
  refine Exec.blk1 ?_
  refine Exec.opk1 13 ?_
  iterate 6 (refine OpenK.o1 (by simp only [go_sem,hl,hk1]<;>rfl) ?_)
  refine OpenK.bfz V208 (by simp only [go_sem,hl,hk1]<;>rfl) (by rfl) (by simp) V208 V208 ?_
  refine OpenK.o1 (by simp only [go_sem,hl,hk1];(try simp (disch:=omega) only [if_pos]);(try simp only [go_sem,hl,hk1])<;>first|(refine ite_run ⟨by (try simp only [List.length_append,List.length_drop,List.length_take,List.length_map,List.length_cons,List.length_nil,List.length_replicate,List.length_set,List.length_range,Nat.zero_add]);omega,by (try simp only [List.length_append,List.length_drop,List.length_take,List.length_map,List.length_cons,List.length_nil,List.length_replicate,List.length_set,List.length_range,Nat.zero_add]);omega,by repeat (first|exact al_nil|assumption|refine al_app ?_ ?_|refine al_drop ?_|refine al_take ?_|exact al_map (fun _=>rfl)|exact al_rep rfl|refine al_cons rfl ?_)⟩ ?_;simp only [go_sem,hl,hk1]<;>rfl)|(refine ite_run ⟨by (try simp only [List.length_append,List.length_drop,List.length_take,List.length_map,List.length_cons,List.length_nil,List.length_replicate,List.length_set,List.length_range,Nat.zero_add]);omega,by repeat (first|exact al_nil|assumption|refine al_app ?_ ?_|refine al_drop ?_|refine al_take ?_|exact al_map (fun _=>rfl)|exact al_rep rfl|refine al_cons rfl ?_)⟩ ?_;simp only [go_sem,hl,hk1]<;>rfl)|rfl) ?_
  iterate 3 (refine OpenK.o1 (by simp only [go_sem,hl,hk1]<;>rfl) ?_)
  refine OpenK.nil (OpenE.fin V212 V212 ?_)
  refine Blk1K.nrm ?_
  refine RngK.nrm ?_ ?_
  ·exact Ghost.kl [5,10,1000] (by simp only [go_sem,hl,hk1]<;>first|exact eqz|rfl)
  ·trivial
 ·skip
  have hta:List.take (chainOf c fs).length (List.map encPt (chainOf c fs))=List.map encPt (chainOf c fs):=List.take_of_length_le (by simp)
  refine BlkK.nrm ?_
  refine Exec.reg ?_
  refine Run.frz 1000 V200 ?_
  refine Run.frz 10 V208 ?_
  iterate 2 (refine Run.o1 (by simp only [go_sem,List.length_map]<;>rfl) ?_)
  refine Run.nil ?_
  exact Ends.fin [] (rs:=[.tmp 4]) rfl (by simp only [go_sem,List.length_map]<;>rfl) (by simp only [go_sem,List.length_map]<;>first|rfl|exact eqz)
theorem c_side_u (st:Int)(hst:0≤st∧st≤1000)(ps:List Pt)(hp:CP ps):Contract Try.prog 54 [.leaf (.d (chP st ps)),.bool false] (.leaf (.d (sksD (sideU st ps ps.length)))) []:=by
 have hpl:=hp.len
 have hz:=sideU_zero st ps
 have hl0:lastB ps.length 0=-1:=rfl
 refine con_of follows_mixed Try.func54 rfl (by simp only [List.length_cons,List.length_nil,Try.ntmps54];omega) V215 rfl ?_
 refine Exec.reg ?_
 refine Run.o ?_
 refine Run.nil ?_
 refine Exec.reg ?_
 iterate 5 (refine Run.o ?_)
 refine Run.o1 (by simp only [go_sem];(try simp (disch:=omega) only [if_pos]);(try simp only [go_sem])<;> rfl) ?_
 refine Run.o ?_
 refine Run.nil ?_
 refine Exec.reg ?_
 refine Run.o ?_
 refine Run.nil ?_
 refine Exec.assocS ?_
 refine Exec.reg ?_
 iterate 6 (refine Run.o ?_)
 refine Run.nil ?_
 refine Exec.blk ?_
 refine Exec.forA [0,1,5,6,20,21] [15] (ps.length) (fun k=>[.slot 21 (.int k),.slot 6 (.int ((k:Int)-1)),.obj 15 (.arr 40 2 ((sideU st ps k).map encSp))]) (fun _=>True) (fun k=>by simp only [go_sem]<;>rfl) (by simp only [go_sem,Int.natCast_zero,hz,hl0,List.length_map,Int.toNat_natCast]<;>rfl) ?_ (fun k hk hX=>?_)
 ·trivial
 ·skip
  refine Exec.reg ?_
  refine Run.o ?_
  refine Run.nil ?_
  refine Exec.cndS V208 (fun hb22=>?_) (fun hb22=>?_)
  ·skip
   have hlt:k<ps.length:=by simpa using lt_of_dec hb22
   have hpl:=hp.len
   have hg:=pAt_get (ps:=ps) (i:=k) (by omega)
   have t0:(k:Int).toNat=k:=by omega
   have hfb:=hp.fl _ (pAt_mem (ps:=ps) (i:=k) (by omega))
   have hln:=sideU_len st ps k
   have hg0:(sideU st ps k)[k]? = some ⟨0,0⟩:=by unfold sideU;rw [rgM_get (by omega),if_neg (by omega)]
   have hgs:((List.map encSp (sideU st ps k)).set k [.i (pAt ps k).e.lo,.i (pAt ps k).e.hi])[k]? = some [.i (pAt ps k).e.lo,.i (pAt ps k).e.hi]:=List.getElem?_set_self (by rw [List.length_map,hln];omega)
   refine Exec.skipS ?_
   refine Exec.blk ?_
   refine Exec.reg ?_
   iterate 2 (refine Run.o1 V131 ?_)
   refine Run.nil ?_
   refine Exec.assocS ?_
   refine Exec.reg ?_
   refine Run.o1 V131 ?_
   refine Run.nil ?_
   refine Exec.cndS V131 (fun hb24=>?_) (fun hb24=>?_)
   ·exact absurd hb24 (by simp)
   ·skip
    refine Exec.skipS ?_
    refine Exec.reg ?_
    iterate 7 (refine Run.o1 V131 ?_)
    refine Run.o1 V47 ?_
    iterate 2 (refine Run.o1 V131 ?_)
    refine Run.o1 V47 ?_
    refine Run.o1 V131 ?_
    refine Run.nil ?_
    refine Exec.assocS ?_
    refine Exec.reg ?_
    iterate 2 (refine Run.o1 V131 ?_)
    refine Run.nil ?_
    refine Exec.cndS V131 (fun hb45=>?_) (fun hb45=>?_)
    ·skip
     have hk1:1≤k:=by
      have:=of_decide_eq_true hb45
      omega
     have t1:((k:Int)-1).toNat=k-1:=by omega
     have hg1:=pAt_get (ps:=ps) (i:=(k-1)) (by omega)
     have hfb1:=hp.fl _ (pAt_mem (ps:=ps) (i:=(k-1)) (by omega))
     have hord:=pAt_lt hp (i:=k-1) (j:=k) (by omega) (by omega)
     have hsb:=SU_SB hst.1 hp (i:=k-1) (by omega)
     have hgo:(sideU st ps k)[(k-1)]? = some (SU st ps (k-1)):=by unfold sideU;rw [rgM_get (by omega),if_pos (by omega)]
     have hne:k≠(k-1):=by omega
     have hval:both (pAt ps k).e ⟨(SU st ps (k-1)).lo,(SU st ps (k-1)).hi+st*((pAt ps k).fl-(pAt ps (k-1)).fl)⟩=SU st ps k:=by
      have e:=SU_succ st (ps:=ps) (i:=k-1) (by omega)
      have e2:k-1+1=k:=by omega
      rw [e2] at e
      exact e.symm
     have hst2:(((sideU st ps k).set k (pAt ps k).e).set k (SU st ps k)).map encSp=(sideU st ps (k+1)).map encSp:=by rw [List.set_set,sideU_set st (ps:=ps) (k:=k)]
     have hlb2:((k+1:Nat):Int)-1=k:=by omega
     refine Exec.assocS ?_
     refine Exec.opk 20 ?_
     iterate 5 (refine OpenK.o1 V93 ?_)
     refine OpenK.o1 V19 ?_
     iterate 7 (refine OpenK.o1 V93 ?_)
     refine OpenK.o1 V19 ?_
     iterate 4 (refine OpenK.o1 V93 ?_)
     refine OpenK.nil (OpenE.finT V215 V215 V215 ?_)
     refine Exec.assocS ?_
     refine Exec.assocS ?_
     refine Exec.reg ?_
     refine Run.o1 V93 ?_
     refine Run.nil ?_
     refine Exec.cndS V93 (fun hb62=>?_) (fun hb62=>?_)
     ·exact absurd hb62 (by simp)
     ·skip
      refine Exec.skipS ?_
      refine Exec.opk 19 ?_
      iterate 4 (refine OpenK.o1 V93 ?_)
      refine OpenK.o1 V19 ?_
      iterate 4 (refine OpenK.o1 V93 ?_)
      refine OpenK.o1 V19 ?_
      iterate 3 (refine OpenK.o1 V93 ?_)
      refine OpenK.cal (c_rise st ps (SU st ps (k-1)) (pAt ps (k-1)).fl (pAt ps k).fl hst hsb (by omega) (by omega) (by omega)) V210 V93 V8 (fr0) V93 V208 V208 ?_
      refine OpenK.cal (c_both (pAt ps k).e ⟨(SU st ps (k-1)).lo,(SU st ps (k-1)).hi+st*((pAt ps k).fl-(pAt ps (k-1)).fl)⟩) V210 V93 V31 (fr0) V93 V208 V208 ?_
      refine OpenK.o1 V19 ?_
      refine OpenK.o1 V93 ?_
      refine OpenK.nil (OpenE.finT V215 V215 V215 ?_)
      refine Exec.reg1 ?_
      iterate 2 (refine Run.o1 V93 ?_)
      refine Run.nil ?_
      refine BlkK.nrm ?_
      refine Exec.reg1 ?_
      refine Run.o1 (by simp only [go_sem,hg,t0,hln,hg0,hgs,List.length_map,List.length_set,t1,hg1,hgo,List.getElem?_set_ne hne,hval,hlb2];(try simp (disch:=omega) only [IntWalk.i64_in,IntWalk.u64_in,IntWalk.i32_in,IntWalk.u8_in,if_neg,if_pos])<;> rfl) ?_
      refine Run.o1 V93 ?_
      refine Run.nil ?_
      refine ForK.nxt ?_ ?_ ?_
      ·omega
      ·exact Ghost.kp [0,1,5,6,20,21] [15] (by simp only [go_sem,hg,t0,hln,hg0,hgs,List.length_map,List.length_set,t1,hg1,hgo,List.getElem?_set_ne hne,hval,hlb2]<;>first|((repeat' (first|with_reducible_and_instances rfl|refine st_eq ?_ ?_ ?_|refine ret_eq ?_|refine tup_eq ?_|refine tm_eq ?_ ?_|refine arr_eq ?_|refine cells_eq ?_|refine val_eq ?_|refine ls_eq ?_ ?_|refine own_eq ?_ ?_|refine sl_eq ?_|refine b_eq ?_|(refine i_eq ?_;omega)));(all_goals (first|omega|(rw [←hst2,List.map_set,List.map_set];rfl))))|rfl)
      ·trivial
    ·skip
     have hk0:k=0:=by
      have:=of_decide_eq_false hb45
      omega
     subst hk0
     have hval:(pAt ps 0).e=SU st ps 0:=rfl
     have hst2:((sideU st ps 0).set 0 (pAt ps 0).e).map encSp=(sideU st ps (0+1)).map encSp:=by rw [hval,sideU_set st (ps:=ps) (k:=0)]
     have hlb2:((0+1:Nat):Int)-1=(0:Nat):=by omega
     refine Exec.skipS ?_
     refine Exec.reg1 ?_
     iterate 2 (refine Run.o1 V123 ?_)
     refine Run.nil ?_
     refine BlkK.nrm ?_
     refine Exec.reg1 ?_
     refine Run.o1 V51 ?_
     refine Run.o1 V123 ?_
     refine Run.nil ?_
     refine ForK.nxt ?_ ?_ ?_
     ·omega
     ·exact Ghost.kp [0,1,5,6,20,21] [15] V9
     ·trivial
  ·skip
   have hke:k=ps.length:=by have:=ge_of_dec (l:=ps) (by simpa using hb22);omega
   subst hke
   have hta:List.take ps.length (List.map encSp (sideU st ps ps.length))=List.map encSp (sideU st ps ps.length):=List.take_of_length_le (by simp [sideU_len])
   have hln:=sideU_len st ps ps.length
   refine Exec.exitS ?_
   refine ForK.ext ?_
   refine BlkK.hit ?_
   refine Exec.reg ?_
   refine Run.frz 15 V200 ?_
   iterate 2 (refine Run.o1 V170 ?_)
   refine Run.nil ?_
   exact Ends.fin [] (rs:=[.tmp 4]) rfl V170 (by simp only [go_sem,hln,List.length_map]<;>first|rfl|exact eqz)
theorem c_side_d (st:Int)(hst:0≤st∧st≤1000)(ps:List Pt)(hp:CP ps):Contract Try.prog 54 [.leaf (.d (chP st ps)),.bool true] (.leaf (.d (sksD (sideD st ps ps.length)))) []:=by
 have hpl:=hp.len
 have hz:=sideD_zero st ps
 have hl0:lastB ps.length 0=-1:=rfl
 refine con_of follows_mixed Try.func54 rfl (by simp only [List.length_cons,List.length_nil,Try.ntmps54];omega) V215 rfl ?_
 refine Exec.reg ?_
 refine Run.o ?_
 refine Run.nil ?_
 refine Exec.reg ?_
 iterate 5 (refine Run.o ?_)
 refine Run.o1 (by simp only [go_sem];(try simp (disch:=omega) only [if_pos]);(try simp only [go_sem])<;> rfl) ?_
 refine Run.o ?_
 refine Run.nil ?_
 refine Exec.reg ?_
 refine Run.o ?_
 refine Run.nil ?_
 refine Exec.assocS ?_
 refine Exec.reg ?_
 iterate 6 (refine Run.o ?_)
 refine Run.nil ?_
 refine Exec.blk ?_
 refine Exec.forA [0,1,5,6,20,21] [15] (ps.length) (fun k=>[.slot 21 (.int k),.slot 6 (.int (lastB ps.length k)),.obj 15 (.arr 40 2 ((sideD st ps k).map encSp))]) (fun _=>True) (fun k=>by simp only [go_sem]<;>rfl) (by simp only [go_sem,Int.natCast_zero,hz,hl0,List.length_map,Int.toNat_natCast]<;>rfl) ?_ (fun k hk hX=>?_)
 ·trivial
 ·skip
  refine Exec.reg ?_
  refine Run.o ?_
  refine Run.nil ?_
  refine Exec.cndS V208 (fun hb22=>?_) (fun hb22=>?_)
  ·skip
   have hlt:k<ps.length:=by simpa using lt_of_dec hb22
   have hpl:=hp.len
   have hg:=pAt_get (ps:=ps) (i:=(ps.length-1-k)) (by omega)
   have t0:((ps.length:Int)-1-(k:Int)).toNat=(ps.length-1-k):=by omega
   have hfb:=hp.fl _ (pAt_mem (ps:=ps) (i:=(ps.length-1-k)) (by omega))
   have hln:=sideD_len st ps k
   have hg0:(sideD st ps k)[(ps.length-1-k)]? = some ⟨0,0⟩:=by unfold sideD;rw [rgM_get (by omega),if_neg (by omega)]
   have hgs:((List.map encSp (sideD st ps k)).set (ps.length-1-k) [.i (pAt ps (ps.length-1-k)).e.lo,.i (pAt ps (ps.length-1-k)).e.hi])[(ps.length-1-k)]? = some [.i (pAt ps (ps.length-1-k)).e.lo,.i (pAt ps (ps.length-1-k)).e.hi]:=List.getElem?_set_self (by rw [List.length_map,hln];omega)
   refine Exec.skipS ?_
   refine Exec.blk ?_
   refine Exec.reg ?_
   iterate 2 (refine Run.o1 V131 ?_)
   refine Run.nil ?_
   refine Exec.assocS ?_
   refine Exec.reg ?_
   refine Run.o1 V131 ?_
   refine Run.nil ?_
   refine Exec.cndS V131 (fun hb24=>?_) (fun hb24=>?_)
   ·skip
    refine Exec.reg ?_
    iterate 5 (refine Run.o1 V131 ?_)
    refine Run.o1 V54 ?_
    refine Run.o1 V131 ?_
    refine Run.o1 V54 ?_
    refine Run.o1 V131 ?_
    refine Run.nil ?_
    refine Exec.reg ?_
    iterate 7 (refine Run.o1 V131 ?_)
    refine Run.o1 V47 ?_
    iterate 2 (refine Run.o1 V131 ?_)
    refine Run.o1 V47 ?_
    refine Run.o1 V131 ?_
    refine Run.nil ?_
    refine Exec.assocS ?_
    refine Exec.reg ?_
    iterate 2 (refine Run.o1 V131 ?_)
    refine Run.nil ?_
    refine Exec.cndS V131 (fun hb45=>?_) (fun hb45=>?_)
    ·skip
     have hk1:1≤k:=by
      have:=of_decide_eq_true hb45
      unfold lastB at this;split at this<;>omega
     have hlb:lastB ps.length k=(ps.length:Int)-k:=by unfold lastB;rw [if_neg (by omega)]
     have t1:((ps.length:Int)-k).toNat=ps.length-k:=by omega
     have hg1:=pAt_get (ps:=ps) (i:=(ps.length-k)) (by omega)
     have hfb1:=hp.fl _ (pAt_mem (ps:=ps) (i:=(ps.length-k)) (by omega))
     have hord:=pAt_lt hp (i:=ps.length-1-k) (j:=ps.length-k) (by omega) (by omega)
     have hsb:=SD_SB hst.1 hp (k-1) (i:=ps.length-k) (by omega)
     have hgo:(sideD st ps k)[(ps.length-k)]? = some (SD st ps (ps.length-k)):=by unfold sideD;rw [rgM_get (by omega),if_pos (by omega)]
     have hne:(ps.length-1-k)≠(ps.length-k):=by omega
     have hval:both (pAt ps (ps.length-1-k)).e ⟨(SD st ps (ps.length-k)).lo,(SD st ps (ps.length-k)).hi+st*(-(pAt ps (ps.length-1-k)).fl - -(pAt ps (ps.length-k)).fl)⟩=SD st ps (ps.length-1-k):=by
      have e:=SD_succ st (ps:=ps) (i:=ps.length-1-k) (by omega)
      have e2:ps.length-1-k+1=ps.length-k:=by omega
      have e3:-(pAt ps (ps.length-1-k)).fl - -(pAt ps (ps.length-k)).fl=(pAt ps (ps.length-k)).fl-(pAt ps (ps.length-1-k)).fl:=by omega
      rw [e,e2,e3]
     have hst2:(((sideD st ps k).set (ps.length-1-k) (pAt ps (ps.length-1-k)).e).set (ps.length-1-k) (SD st ps (ps.length-1-k))).map encSp=(sideD st ps (k+1)).map encSp:=by rw [List.set_set,sideD_set st hlt]
     have hlb2:lastB ps.length (k+1)=(ps.length:Int)-1-k:=by unfold lastB;rw [if_neg (by omega)];omega
     refine Exec.assocS ?_
     refine Exec.opk 20 ?_
     iterate 5 (refine OpenK.o1 V90 ?_)
     refine OpenK.o1 V17 ?_
     iterate 7 (refine OpenK.o1 V90 ?_)
     refine OpenK.o1 V17 ?_
     iterate 4 (refine OpenK.o1 V90 ?_)
     refine OpenK.nil (OpenE.finT V215 V215 V215 ?_)
     refine Exec.assocS ?_
     refine Exec.assocS ?_
     refine Exec.reg ?_
     refine Run.o1 V90 ?_
     refine Run.nil ?_
     refine Exec.cndS V90 (fun hb62=>?_) (fun hb62=>?_)
     ·skip
      refine Exec.reg ?_
      refine Run.o1 V90 ?_
      refine Run.o1 V29 ?_
      refine Run.o1 V90 ?_
      refine Run.o1 V29 ?_
      iterate 2 (refine Run.o1 V90 ?_)
      refine Run.nil ?_
      refine Exec.opk 19 ?_
      iterate 4 (refine OpenK.o1 V90 ?_)
      refine OpenK.o1 V17 ?_
      iterate 4 (refine OpenK.o1 V90 ?_)
      refine OpenK.o1 V17 ?_
      iterate 3 (refine OpenK.o1 V90 ?_)
      refine OpenK.cal (c_rise st ps (SD st ps (ps.length-k)) (-(pAt ps (ps.length-k)).fl) (-(pAt ps (ps.length-1-k)).fl) hst hsb (by omega) (by omega) (by omega)) V210 V90 V8 (fr0) V90 V208 V208 ?_
      refine OpenK.cal (c_both (pAt ps (ps.length-1-k)).e ⟨(SD st ps (ps.length-k)).lo,(SD st ps (ps.length-k)).hi+st*((-(pAt ps (ps.length-1-k)).fl)-(-(pAt ps (ps.length-k)).fl))⟩) V210 V90 V31 (fr0) V90 V208 V208 ?_
      refine OpenK.o1 V17 ?_
      refine OpenK.o1 V90 ?_
      refine OpenK.nil (OpenE.finT V215 V215 V215 ?_)
      refine Exec.reg1 ?_
      iterate 2 (refine Run.o1 V90 ?_)
      refine Run.nil ?_
      refine BlkK.nrm ?_
      refine Exec.reg1 ?_
      refine Run.o1 V29 ?_
      refine Run.o1 V90 ?_
      refine Run.nil ?_
      refine ForK.nxt ?_ ?_ ?_
      ·omega
      ·exact Ghost.kp [0,1,5,6,20,21] [15] (by simp only [go_sem,hg,t0,hln,hg0,hgs,List.length_map,List.length_set,hlb,t1,hg1,hgo,List.getElem?_set_ne hne,hval,hlb2]<;>first|((repeat' (first|with_reducible_and_instances rfl|refine st_eq ?_ ?_ ?_|refine ret_eq ?_|refine tup_eq ?_|refine tm_eq ?_ ?_|refine arr_eq ?_|refine cells_eq ?_|refine val_eq ?_|refine ls_eq ?_ ?_|refine own_eq ?_ ?_|refine sl_eq ?_|refine b_eq ?_|(refine i_eq ?_;omega)));(all_goals (first|omega|(rw [←hst2,List.map_set,List.map_set];rfl))))|rfl)
      ·trivial
     ·exact absurd hb62 (by simp)
    ·skip
     have hk0:k=0:=by
      have:=of_decide_eq_false hb45
      unfold lastB at this;split at this<;>omega
     subst hk0
     have hval:(pAt ps (ps.length-1-0)).e=SD st ps (ps.length-1-0):=(SD_last st (by omega)).symm
     have hst2:((sideD st ps 0).set (ps.length-1-0) (pAt ps (ps.length-1-0)).e).map encSp=(sideD st ps (0+1)).map encSp:=by rw [hval,sideD_set st hlt]
     have hlb2:lastB ps.length (0+1)=(ps.length:Int)-1-(0:Nat):=by unfold lastB;rw [if_neg (by omega)];omega
     refine Exec.skipS ?_
     refine Exec.reg1 ?_
     iterate 2 (refine Run.o1 V123 ?_)
     refine Run.nil ?_
     refine BlkK.nrm ?_
     refine Exec.reg1 ?_
     refine Run.o1 V51 ?_
     refine Run.o1 V123 ?_
     refine Run.nil ?_
     refine ForK.nxt ?_ ?_ ?_
     ·omega
     ·exact Ghost.kp [0,1,5,6,20,21] [15] V9
     ·trivial
   ·exact absurd hb24 (by simp)
  ·skip
   have hke:k=ps.length:=by have:=ge_of_dec (l:=ps) (by simpa using hb22);omega
   subst hke
   have hta:List.take ps.length (List.map encSp (sideD st ps ps.length))=List.map encSp (sideD st ps ps.length):=List.take_of_length_le (by simp [sideD_len])
   have hln:=sideD_len st ps ps.length
   refine Exec.exitS ?_
   refine ForK.ext ?_
   refine BlkK.hit ?_
   refine Exec.reg ?_
   refine Run.frz 15 V200 ?_
   iterate 2 (refine Run.o1 V170 ?_)
   refine Run.nil ?_
   exact Ends.fin [] (rs:=[.tmp 4]) rfl V170 (by simp only [go_sem,hln,List.length_map]<;>first|rfl|exact eqz)
end Go.Mw

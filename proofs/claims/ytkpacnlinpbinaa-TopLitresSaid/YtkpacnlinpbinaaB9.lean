/- What all points can be, for each peak, by their places; no condition but those in each. -/
import Derived.Test.YtkpacnlinpbinaaD1
import Derived.Test.YtkpacnlinpbinaaB8
set_option maxRecDepth 20000
set_option maxHeartbeats 32000000
set_option linter.unusedSimpArgs false
set_option linter.unusedVariables false
set_option linter.unusedSectionVars false
set_option linter.deprecated false
namespace Go.Mw
open Go.Proofs Go.Li
def BK (st:Int)(ps:List Pt)(p:Nat):Nat→Go.Li.Span
 |0=>both (SU st ps p) (SD st ps p)
 |j+1=>both (SU st ps (p-1-j)) ⟨(BK st ps p j).lo-st*((pAt ps (p-j)).fl-(pAt ps (p-1-j)).fl),(BK st ps p j).hi⟩
def FW (st:Int)(ps:List Pt)(p:Nat):Nat→Go.Li.Span
 |0=>both (SU st ps p) (SD st ps p)
 |j+1=>both (SD st ps (p+1+j)) ⟨(FW st ps p j).lo-st*((pAt ps (p+1+j)).fl-(pAt ps (p+j)).fl),(FW st ps p j).hi⟩
def pkF (st:Int)(ps:List Pt)(p i:Nat):Go.Li.Span:=if i≤p then BK st ps p (p-i) else FW st ps p (i-p)
theorem outB (st:Int)(ps:List Pt){p:Nat}(hp:p<ps.length):∀(m j:Nat),m+j=p→outS st (BK st ps p j) (lft (pAt ps m).fl (ps.take m).reverse)=(List.range m).map fun i=>BK st ps p (j+1+i)
 |0,j,_=>rfl
 |m+1,j,h=>by
  rw [take_snoc (pAt_get (show m<ps.length by omega)),List.reverse_append]
  have e1:BK st ps p (j+1)=both (SU st ps m) ⟨(BK st ps p j).lo-st*((pAt ps (m+1)).fl-(pAt ps m).fl),(BK st ps p j).hi⟩:=by
   show both (SU st ps (p-1-j)) _=_
   rw [show p-1-j=m by omega,show p-j=m+1 by omega]
  have ih:=outB st ps hp m (j+1) (by omega)
  show both (upS st (pAt ps m).e (lft (pAt ps m).fl (ps.take m).reverse)) _::outS st (both (upS st (pAt ps m).e (lft (pAt ps m).fl (ps.take m).reverse)) _) (lft (pAt ps m).fl (ps.take m).reverse)=_
  have e2:both (upS st (pAt ps m).e (lft (pAt ps m).fl (ps.take m).reverse)) ⟨(BK st ps p j).lo-st*((pAt ps (m+1)).fl-(pAt ps m).fl),(BK st ps p j).hi⟩=BK st ps p (j+1):=e1.symm
  rw [e2,ih,List.range_succ_eq_map,List.map_cons,List.map_map]
  congr 1
  exact List.map_congr_left fun i _=>by show BK st ps p _=BK st ps p _;congr 1;simp only [Nat.succ_eq_add_one];omega
theorem outF (st:Int)(ps:List Pt){p:Nat}:∀(m j:Nat),p+j+1+m=ps.length→outS st (FW st ps p j) (rgt (pAt ps (p+j)).fl (ps.drop (p+j+1)))=(List.range m).map fun i=>FW st ps p (j+1+i)
 |0,j,h=>by rw [List.drop_eq_nil_of_le (by omega)];rfl
 |m+1,j,h=>by
  rw [drop_get (pAt_get (show p+j+1<ps.length by omega))]
  have ih:=outF st ps (p:=p) m (j+1) (by omega)
  have e0:p+1+j=p+j+1:=by omega
  have e1:both (upS st (pAt ps (p+j+1)).e (rgt (pAt ps (p+j+1)).fl (ps.drop (p+j+1+1)))) ⟨(FW st ps p j).lo-st*((pAt ps (p+j+1)).fl-(pAt ps (p+j)).fl),(FW st ps p j).hi⟩=FW st ps p (j+1):=by
   show _=both (SD st ps (p+1+j)) ⟨(FW st ps p j).lo-st*((pAt ps (p+1+j)).fl-(pAt ps (p+j)).fl),(FW st ps p j).hi⟩
   rw [e0];rfl
  show both (upS st (pAt ps (p+j+1)).e (rgt (pAt ps (p+j+1)).fl (ps.drop (p+j+1+1)))) _::outS st (both (upS st (pAt ps (p+j+1)).e (rgt (pAt ps (p+j+1)).fl (ps.drop (p+j+1+1)))) _) (rgt (pAt ps (p+j+1)).fl (ps.drop (p+j+1+1)))=_
  rw [e1]
  have e2:p+(j+1)=p+j+1:=by omega
  rw [e2] at ih
  rw [ih,List.range_succ_eq_map,List.map_cons,List.map_map]
  congr 1
  exact List.map_congr_left fun i _=>by show FW st ps p _=FW st ps p _;congr 1;simp only [Nat.succ_eq_add_one];omega
theorem pk_eq (st:Int){ps:List Pt}{p:Nat}(hp:p<ps.length):peakAt st ps p=rgM ps.length (pkF st ps p):=by
 have h1:=outB st ps hp p 0 (by omega)
 have h2:=outF st ps (p:=p) (ps.length-(p+1)) 0 (by omega)
 have ht:topS st (ps.take p).reverse (pAt ps p) (ps.drop (p+1))=BK st ps p 0:=rfl
 have ht2:BK st ps p 0=FW st ps p 0:=rfl
 show peakL st (ps.take p).reverse (pAt ps p) (ps.drop (p+1))=_
 unfold peakL
 rw [ht,h1]
 have h2':outS st (BK st ps p 0) (rgt (pAt ps p).fl (ps.drop (p+1)))=(List.range (ps.length-(p+1))).map fun i=>FW st ps p (0+1+i):=by rw [ht2];exact h2
 rw [h2']
 apply List.ext_getElem?
 intro i
 by_cases hi:i<ps.length
 ·rw [rgM_get hi]
  unfold pkF
  by_cases hip:i<p
  ·rw [List.getElem?_append_left (by simp;exact hip),List.getElem?_reverse (by simp;exact hip),if_pos (by omega)]
   simp only [List.length_map,List.length_range]
   rw [List.getElem?_map,List.getElem?_range (by omega)]
   simp only [Option.map_some]
   congr 2;omega
  ·rw [List.getElem?_append_right V214]
   simp only [List.length_reverse,List.length_map,List.length_range]
   by_cases hie:i=p
   ·subst hie
    rw [if_pos (Nat.le_refl _),Nat.sub_self];rfl
   ·rw [if_neg (by omega)]
    obtain ⟨j,rfl⟩:∃j,i=p+1+j:=⟨i-p-1,by omega⟩
    rw [show p+1+j-p=j+1 by omega,List.getElem?_cons_succ,List.getElem?_map,List.getElem?_range (by omega)]
    simp only [Option.map_some]
    congr 2;omega
 ·rw [List.getElem?_eq_none V214,List.getElem?_eq_none (by rw [rgM_len];omega)]
theorem BK_SB {st:Int}(hst:0≤st){ps:List Pt}(h:CP ps){p:Nat}(hp:p<ps.length):∀ {j:Nat},j≤p→SB (BK st ps p j)
 |0,_=>by
  have h1:=SU_SB hst h hp
  have h2:=SD_SB hst h (ps.length-(p+1)) (i:=p) (by omega)
  exact both_SB h1 h2.1.2 h2.2.1
 |j+1,hj=>by
  have ih:=BK_SB hst h hp (show j≤p by omega)
  have hm:=mul_nn hst (d:=(pAt ps (p-j)).fl-(pAt ps (p-1-j)).fl) (by have:=pAt_lt h (show p-1-j<p-j by omega) (by omega);omega)
  exact both_SB (SU_SB hst h (by omega)) (by have:=ih.1.2;simp only;omega) ih.2.1
theorem FW_SB {st:Int}(hst:0≤st){ps:List Pt}(h:CP ps){p:Nat}:∀ {j:Nat},p+j<ps.length→SB (FW st ps p j)
 |0,hp=>by
  have h1:=SU_SB hst h (show p<ps.length by omega)
  have h2:=SD_SB hst h (ps.length-(p+1)) (i:=p) (by omega)
  exact both_SB h1 h2.1.2 h2.2.1
 |j+1,hj=>by
  have ih:=FW_SB hst h (p:=p) (show p+j<ps.length by omega)
  have hm:=mul_nn hst (d:=(pAt ps (p+1+j)).fl-(pAt ps (p+j)).fl) (by have:=pAt_lt h (show p+j<p+1+j by omega) (by omega);omega)
  exact both_SB (SD_SB hst h (ps.length-(p+1+j+1)) (by omega)) (by have:=ih.1.2;simp only;omega) ih.2.1
def F1 (st:Int)(ps:List Pt)(p k:Nat):List Go.Li.Span:=rgM ps.length fun i=>if i<k then (if i>p then SD st ps i else SU st ps i) else ⟨0,0⟩
def F2 (st:Int)(ps:List Pt)(p k:Nat):List Go.Li.Span:=rgM ps.length fun i=>if i>p then SD st ps i else if p-k≤i then BK st ps p (p-i) else SU st ps i
def F3 (st:Int)(ps:List Pt)(p k:Nat):List Go.Li.Span:=rgM ps.length fun i=>if i≤p then BK st ps p (p-i) else if i≤p+k then FW st ps p (i-p) else SD st ps i
theorem F1_len (st:Int)(ps:List Pt)(p k:Nat):(F1 st ps p k).length=ps.length:=rgM_len _ _
theorem F2_len (st:Int)(ps:List Pt)(p k:Nat):(F2 st ps p k).length=ps.length:=rgM_len _ _
theorem F3_len (st:Int)(ps:List Pt)(p k:Nat):(F3 st ps p k).length=ps.length:=rgM_len _ _
theorem F1_zero (st:Int)(ps:List Pt)(p:Nat):(F1 st ps p 0).map encSp=List.replicate ps.length [.i 0,.i 0]:=by rw [←rgM_zero];congr 1
theorem F1_yes (st:Int){ps:List Pt}{p k:Nat}(h:k>p):((F1 st ps p k).set k (SU st ps k)).set k (SD st ps k)=F1 st ps p (k+1):=by
 rw [List.set_set]
 unfold F1
 rw [rgM_set]
 refine rgM_eq fun i hi=>?_
 by_cases e:i=k
 ·subst e;rw [if_pos rfl,if_pos (by omega),if_pos h]
 ·rw [if_neg e]
  by_cases h2:i<k
  ·rw [if_pos h2,if_pos (show i<k+1 by omega)]
  ·rw [if_neg h2,if_neg (show ¬i<k+1 by omega)]
theorem F1_no (st:Int){ps:List Pt}{p k:Nat}(h:¬k>p):(F1 st ps p k).set k (SU st ps k)=F1 st ps p (k+1):=by
 unfold F1
 rw [rgM_set]
 refine rgM_eq fun i hi=>?_
 by_cases e:i=k
 ·subst e;rw [if_pos rfl,if_pos (by omega),if_neg h]
 ·rw [if_neg e]
  by_cases h2:i<k
  ·rw [if_pos h2,if_pos (show i<k+1 by omega)]
  ·rw [if_neg h2,if_neg (show ¬i<k+1 by omega)]
theorem F1_top (st:Int){ps:List Pt}{p:Nat}:(F1 st ps p ps.length).set p (both (SU st ps p) (SD st ps p))=F2 st ps p 0:=by
 unfold F1 F2
 rw [rgM_set]
 refine rgM_eq fun i hi=>?_
 by_cases e:i=p
 ·subst e;rw [if_pos rfl,if_neg (by omega),if_pos (by omega),Nat.sub_self];rfl
 ·rw [if_neg e,if_pos hi]
  by_cases h2:i>p
  ·rw [if_pos h2,if_pos h2]
  ·rw [if_neg h2,if_neg h2,if_neg (by omega)]
theorem F2_set (st:Int){ps:List Pt}{p k:Nat}(h:k<p):(F2 st ps p k).set (p-k-1) (BK st ps p (k+1))=F2 st ps p (k+1):=by
 unfold F2
 rw [rgM_set]
 refine rgM_eq fun i hi=>?_
 by_cases e:i=p-k-1
 ·subst e;rw [if_pos rfl,if_neg (by omega),if_pos (by omega),show p-(p-k-1)=k+1 by omega]
 ·rw [if_neg e]
  by_cases h2:i>p
  ·rw [if_pos h2,if_pos h2]
  ·rw [if_neg h2,if_neg h2]
   by_cases h3:p-k≤i
   ·rw [if_pos h3,if_pos (by omega)]
   ·rw [if_neg h3,if_neg (by omega)]
theorem F2_end (st:Int)(ps:List Pt)(p:Nat):F2 st ps p p=F3 st ps p 0:=by
 refine rgM_eq fun i hi=>?_
 by_cases h2:i>p
 ·rw [if_pos h2,if_neg (by omega),if_neg (by omega)]
 ·rw [if_neg h2,if_pos (by omega),if_pos (by omega)]
theorem F3_set (st:Int){ps:List Pt}{p k:Nat}:(F3 st ps p k).set (p+k+1) (FW st ps p (k+1))=F3 st ps p (k+1):=by
 unfold F3
 rw [rgM_set]
 refine rgM_eq fun i hi=>?_
 by_cases e:i=p+k+1
 ·subst e;rw [if_pos rfl,if_neg (by omega),if_pos (by omega),show p+k+1-p=k+1 by omega]
 ·rw [if_neg e]
  by_cases h2:i≤p
  ·rw [if_pos h2,if_pos h2]
  ·rw [if_neg h2,if_neg h2]
   by_cases h3:i≤p+k
   ·rw [if_pos h3,if_pos (by omega)]
   ·rw [if_neg h3,if_neg (by omega)]
theorem F3_end (st:Int){ps:List Pt}{p:Nat}(hp:p<ps.length):F3 st ps p (ps.length-1-p)=peakAt st ps p:=by
 rw [pk_eq st hp]
 refine rgM_eq fun i hi=>?_
 unfold pkF
 by_cases h2:i≤p
 ·rw [if_pos h2,if_pos h2]
 ·rw [if_neg h2,if_neg h2,if_pos (by omega)]
theorem pk_len (st:Int){ps:List Pt}{p:Nat}(hp:p<ps.length):(peakAt st ps p).length=ps.length:=by rw [pk_eq st hp,rgM_len]
def fsK (st:Int)(ps:List Pt)(k:Nat):List (List Go.Li.Span):=((List.range k).map (peakAt st ps)).filter goodL
theorem fsK_yes {st:Int}{ps:List Pt}{k:Nat}(h:goodL (peakAt st ps k)=true):fsK st ps (k+1)=fsK st ps k++[peakAt st ps k]:=by
 unfold fsK;rw [List.range_succ,List.map_append,List.filter_append];simp [h]
theorem fsK_no {st:Int}{ps:List Pt}{k:Nat}(h:goodL (peakAt st ps k)=false):fsK st ps (k+1)=fsK st ps k:=by
 unfold fsK;rw [List.range_succ,List.map_append,List.filter_append];simp [h]
theorem fsK_all (st:Int)(ps:List Pt):fsK st ps ps.length=peaksL st ps:=rfl
theorem good_no {l:List Go.Li.Span}{k:Nat}{s:Go.Li.Span}(hs:l[k]? = some s)(h:s.lo>s.hi):goodL l=false:=by
 unfold goodL
 rw [List.all_eq_false]
 exact ⟨s,List.mem_of_getElem? hs,by simp;omega⟩
theorem good_all {l:List Go.Li.Span}(h:∀(k:Nat) (s:Go.Li.Span),l[k]? = some s→s.lo≤s.hi):goodL l=true:=by
 unfold goodL
 rw [List.all_eq_true]
 intro s hs
 obtain ⟨k,hk⟩:=List.getElem?_of_mem hs
 simpa using h k s hk
end Go.Mw
namespace Go.Mw
open Go.Proofs
open Go.Li
theorem c_can_1 (k:Int)(l:List Go.Li.Span)(b:Bool):Con Try.prog 69 [.int k,.leaf (.d (sksD l)),.leaf (.ptr 902 0)] [(902,.cells [.d (.bo b)])] (.ret (.tup []) [(902,.cells [.d (.bo true)])]):=by
 refine con_of follows_mixed Try.func69 rfl (by simp only [List.length_cons,List.length_nil,Try.ntmps69];omega) V215 rfl ?_
 refine Exec.reg1 ?_
 refine Run.o ?_
 refine Run.nil ?_
 exact Ends.fin0 [902] (rs:=[]) rfl V208 V171
theorem c_peaks_can (st:Int)(hst:0≤st∧st≤1000)(ps:List Pt)(hp:CP ps)(b0:Bool):Con Try.prog 28 [.leaf (.d (chP st ps)),.leaf (.obj 901)] [(901,.clo 69 [.ptr 902 0]),(902,.cells [.d (.bo (b0 || !(fsK st ps 0).isEmpty))])] (.ret (.tup []) [(901,.clo 69 [.ptr 902 0]),(902,.cells [.d (.bo (b0 || !(fsK st ps ps.length).isEmpty))])]):=by
 have hpl:=hp.len
 have hlu:=sideU_len st ps ps.length
 have hld:=sideD_len st ps ps.length
 refine con_of follows_mixed Try.func28 rfl V145 V215 rfl ?_
 refine Exec.scp ?_
 refine Exec.reg ?_
 refine Run.o1 V156 ?_
 refine Run.c1 (c_side_u st hst ps hp) V156 V156 ?_
 refine Run.o1 V156 ?_
 refine Run.c1 (c_side_d st hst ps hp) V156 V156 ?_
 iterate 2 (refine Run.o1 V156 ?_)
 refine Run.nil ?_
 refine Exec.reg ?_
 iterate 3 (refine Run.o1 V156 ?_)
 refine Run.nil ?_
 refine Exec.lblS ?_
 refine Exec.reg ?_
 iterate 6 (refine Run.o1 V156 ?_)
 refine Run.nil ?_
 refine Exec.blk1 ?_
 refine Exec.forA [0,1,4,5,6,24,25] [901,902,19] (ps.length) (fun k=>[.slot 25 (.int k),.obj 901 (.clo 69 [.ptr 902 0]),.obj 902 (.cells [.d (.bo (b0 || !(fsK st ps k).isEmpty))])]) (fun _=>True) (fun k=>by simp only [go_sem]<;>rfl) V140 ?_ (fun k hk hX=>?_)
 ·trivial
 ·skip
  refine Exec.reg ?_
  refine Run.o1 V156 ?_
  refine Run.nil ?_
  refine Exec.cndS V156 (fun hb26=>?_) (fun hb26=>?_)
  ·skip
   have hk0:k<ps.length:=by simpa using lt_of_dec hb26
   have tk:(k:Int).toNat=k:=Int.toNat_natCast k
   refine Exec.skipS ?_
   refine Exec.blk ?_
   refine Exec.reg ?_
   iterate 2 (refine Run.o1 V151 ?_)
   refine Run.nil ?_
   refine Exec.reg ?_
   iterate 5 (refine Run.o1 V151 ?_)
   refine Run.o1 V75 ?_
   refine Run.o1 V151 ?_
   refine Run.nil ?_
   refine Exec.assocS ?_
   refine Exec.reg ?_
   iterate 3 (refine Run.o1 V151 ?_)
   refine Run.nil ?_
   refine Exec.blk ?_
   refine Exec.forA [0,1,4,5,6,7,8,24,25,35,36] [901,902,19,33] (ps.length) (fun j=>[.slot 36 (.int j),.obj 33 (.arr 40 2 ((F1 st ps k j).map encSp))]) (fun _=>True) (fun j=>by simp only [go_sem]<;>rfl) V115 ?_ (fun j hj Xj=>?_)
   ·trivial
   ·skip
    refine Exec.reg ?_
    refine Run.o1 V151 ?_
    refine Run.nil ?_
    refine Exec.cndS V151 (fun hb37=>?_) (fun hb37=>?_)
    ·skip
     have hj0:j<ps.length:=by have:=of_decide_eq_true hb37;omega
     have tj:(j:Int).toNat=j:=Int.toNat_natCast j
     have hl1:=F1_len st ps k j
     have hu_j:(sideU st ps ps.length)[j]? = some (SU st ps j):=by rw [sideU_all,rgM_get (by omega)]
     have hd_j:(sideD st ps ps.length)[j]? = some (SD st ps j):=by rw [sideD_all,rgM_get (by omega)]
     have hg0:(F1 st ps k j)[j]? = some ⟨0,0⟩:=by unfold F1;rw [rgM_get hj0,if_neg (by omega)]
     have hgs:((List.map encSp (F1 st ps k j)).set j [.i (SU st ps j).lo,.i (SU st ps j).hi])[j]? = some [.i (SU st ps j).lo,.i (SU st ps j).hi]:=List.getElem?_set_self (by rw [List.length_map,hl1];omega)
     refine Exec.skipS ?_
     refine Exec.blk ?_
     refine Exec.reg ?_
     iterate 2 (refine Run.o1 V112 ?_)
     refine Run.nil ?_
     refine Exec.reg ?_
     iterate 4 (refine Run.o1 V112 ?_)
     refine Run.o1 V30 ?_
     refine Run.o1 V112 ?_
     refine Run.o1 V30 ?_
     refine Run.o1 V112 ?_
     refine Run.nil ?_
     refine Exec.reg ?_
     iterate 3 (refine Run.o1 V112 ?_)
     refine Run.nil ?_
     refine Exec.cnd V112 (fun hb48=>?_) (fun hb48=>?_)
     ·skip
      have hgt:j>k:=by have:=of_decide_eq_true hb48;omega
      have hst2:=congrArg (List.map encSp) (F1_yes st (ps:=ps) hgt)
      refine Exec.reg1 ?_
      iterate 4 (refine Run.o1 V112 ?_)
      refine Run.o1 V30 ?_
      refine Run.o1 V112 ?_
      refine Run.o1 V30 ?_
      refine Run.o1 V112 ?_
      refine Run.nil ?_
      refine BlkK.nrm ?_
      refine Exec.reg1 ?_
      refine Run.o1 V41 ?_
      refine Run.o1 V112 ?_
      refine Run.nil ?_
      refine ForK.nxt ?_ ?_ ?_
      ·omega
      ·exact Ghost.kp [0,1,4,5,6,7,8,24,25,35,36] [901,902,19,33] V10
      ·trivial
     ·skip
      have hgt:¬j>k:=by have:=of_decide_eq_false hb48;omega
      have hst2:=congrArg (List.map encSp) (F1_no st (ps:=ps) hgt)
      refine BlkK.nrm ?_
      refine Exec.reg1 ?_
      refine Run.o1 V41 ?_
      refine Run.o1 V112 ?_
      refine Run.nil ?_
      refine ForK.nxt ?_ ?_ ?_
      ·omega
      ·exact Ghost.kp [0,1,4,5,6,7,8,24,25,35,36] [901,902,19,33] V12
      ·trivial
    ·skip
     have hje:j=ps.length:=by have:=of_decide_eq_false hb37;omega
     subst hje
     have hl1:=F1_len st ps k ps.length
     refine Exec.exitS ?_
     refine ForK.ext ?_
     refine BlkK.hit ?_
     refine Exec.opk 15 ?_
     have hu_k:(sideU st ps ps.length)[k]? = some (SU st ps k):=by rw [sideU_all,rgM_get (by omega)]
     have hd_k:(sideD st ps ps.length)[k]? = some (SD st ps k):=by rw [sideD_all,rgM_get (by omega)]
     have hga:(F1 st ps k ps.length)[k]? = some (SU st ps k):=by unfold F1;rw [rgM_get hk0,if_pos hk0,if_neg (by omega)]
     have hst3:(List.map encSp (F1 st ps k ps.length)).set k [.i (both (SU st ps k) (SD st ps k)).lo,.i (both (SU st ps k) (SD st ps k)).hi]=List.map encSp (F2 st ps k 0):=by rw [←F1_top,List.map_set];rfl
     iterate 4 (refine OpenK.o1 V128 ?_)
     refine OpenK.o1 V45 ?_
     iterate 3 (refine OpenK.o1 V128 ?_)
     refine OpenK.o1 V45 ?_
     refine OpenK.o1 V128 ?_
     refine OpenK.cal (c_both (SU st ps k) (SD st ps k)) V210 V128 V31 (fr0) V128 V208 V208 ?_
     refine OpenK.o1 V45 ?_
     refine OpenK.o1 V128 ?_
     refine OpenK.nil (OpenE.fin V212 V212 ?_)
     refine Exec.assocS ?_
     refine Exec.reg ?_
     iterate 2 (refine Run.o1 V128 ?_)
     refine Run.nil ?_
     refine Exec.blk ?_
     refine Exec.forA [0,1,4,5,6,7,8,10,24,25] [901,902,19,33] (k) (fun j=>[.slot 10 (.int ((k:Int)-j)),.obj 33 (.arr 40 2 ((F2 st ps k j).map encSp))]) (fun _=>True) (fun j=>by simp only [go_sem]<;>rfl) V106 ?_ (fun j hj Xj=>?_)
     ·trivial
     ·skip
      refine Exec.assocS ?_
      refine Exec.reg ?_
      iterate 2 (refine Run.o1 V128 ?_)
      refine Run.nil ?_
      refine Exec.cndS V128 (fun hb71=>?_) (fun hb71=>?_)
      ·skip
       have hj0:j<k:=by have:=of_decide_eq_true hb71;omega
       have hl2:=F2_len st ps k j
       have t1:((k:Int)-(j:Int)).toNat=k-j:=by omega
       have t2:((k:Int)-(j:Int)-1).toNat=k-j-1:=by omega
       have hga:(F2 st ps k j)[k-j-1]? = some (SU st ps (k-j-1)):=by unfold F2;rw [rgM_get (by omega),if_neg (by omega),if_neg (by omega)]
       have hgb:(F2 st ps k j)[k-j]? = some (BK st ps k j):=by unfold F2;rw [rgM_get (by omega),if_neg (by omega),if_pos (by omega),show k-(k-j)=j by omega]
       have hp1:=pAt_get (ps:=ps) (i:=k-j) (by omega)
       have hp2:=pAt_get (ps:=ps) (i:=k-j-1) (by omega)
       have hf1:=hp.fl _ (pAt_mem (ps:=ps) (i:=k-j) (by omega))
       have hf2:=hp.fl _ (pAt_mem (ps:=ps) (i:=k-j-1) (by omega))
       have hord:=pAt_lt hp (i:=k-j-1) (j:=k-j) (by omega) (by omega)
       have hsb:=BK_SB hst.1 hp hk0 (j:=j) (by omega)
       have hbk:both (SU st ps (k-j-1)) ⟨(BK st ps k j).lo-st*((pAt ps (k-j)).fl-(pAt ps (k-j-1)).fl),(BK st ps k j).hi⟩=BK st ps k (j+1):=by
        show _=both (SU st ps (k-1-j)) ⟨(BK st ps k j).lo-st*((pAt ps (k-j)).fl-(pAt ps (k-1-j)).fl),(BK st ps k j).hi⟩
        rw [show k-1-j=k-j-1 by omega]
       have hst2:=congrArg (List.map encSp) (F2_set st (ps:=ps) hj0)
       refine Exec.skipS ?_
       refine Exec.blk ?_
       refine Exec.opk1 36 ?_
       iterate 2 (refine OpenK.o1 V99 ?_)
       refine OpenK.o1 V34 ?_
       iterate 2 (refine OpenK.o1 V99 ?_)
       refine OpenK.o1 V34 ?_
       refine OpenK.o1 V22 ?_
       iterate 4 (refine OpenK.o1 V99 ?_)
       refine OpenK.o1 V22 ?_
       iterate 6 (refine OpenK.o1 V99 ?_)
       refine OpenK.o1 V22 ?_
       iterate 7 (refine OpenK.o1 V99 ?_)
       refine OpenK.o1 V34 ?_
       refine OpenK.o1 V22 ?_
       iterate 2 (refine OpenK.o1 V99 ?_)
       refine OpenK.calm (c:=19) V208 (c_fall st ps (BK st ps k j) (pAt ps (k-j)).fl (pAt ps (k-j-1)).fl hst hsb (by omega) (by omega) (by omega)) V210 V208 V208 V99 V141 V208 V208 V208 ?_
       refine OpenK.cal (c_both (SU st ps (k-j-1)) ⟨(BK st ps k j).lo-st*((pAt ps (k-j)).fl-(pAt ps (k-j-1)).fl),(BK st ps k j).hi⟩) V210 V99 V31 (fr0) V99 V208 V208 ?_
       refine OpenK.o1 V22 ?_
       refine OpenK.o1 V99 ?_
       refine OpenK.nil (OpenE.finT V215 V215 V215 ?_)
       refine BlkK.nrm ?_
       refine Exec.reg1 ?_
       refine Run.o1 V99 ?_
       refine Run.o1 V34 ?_
       refine Run.o1 V99 ?_
       refine Run.nil ?_
       refine ForK.nxt ?_ ?_ ?_
       ·omega
       ·exact Ghost.kp [0,1,4,5,6,7,8,10,24,25] [901,902,19,33] V7
       ·trivial
      ·skip
       have hje:j=k:=by have:=of_decide_eq_false hb71;omega
       rw [hje]
       have hF:=F2_end st ps k
       refine Exec.exitS ?_
       refine ForK.ext ?_
       refine BlkK.hit ?_
       refine Exec.assocS ?_
       refine Exec.reg ?_
       iterate 2 (refine Run.o1 V124 ?_)
       refine Run.nil ?_
       refine Exec.blk ?_
       refine Exec.forA [0,1,4,5,6,7,8,11,24,25] [901,902,19,33] (ps.length-1-k) (fun j=>[.slot 11 (.int ((k:Int)+j)),.obj 33 (.arr 40 2 ((F3 st ps k j).map encSp))]) (fun _=>True) (fun j=>by simp only [go_sem]<;>rfl) V104 ?_ (fun j hj Xj=>?_)
       ·trivial
       ·skip
        have hl3:=F3_len st ps k j
        refine Exec.assocS ?_
        refine Exec.reg ?_
        refine Run.o1 V120 ?_
        refine Run.o1 V49 ?_
        iterate 3 (refine Run.o1 V120 ?_)
        refine Run.nil ?_
        refine Exec.cndS V120 (fun hb112=>?_) (fun hb112=>?_)
        ·skip
         have hj0:k+j+1<ps.length:=by have:=of_decide_eq_true hb112;omega
         have t1:((k:Int)+(j:Int)).toNat=k+j:=by omega
         have t2:((k:Int)+(j:Int)+1).toNat=k+j+1:=by omega
         have hga:(F3 st ps k j)[k+j+1]? = some (SD st ps (k+j+1)):=by unfold F3;rw [rgM_get (by omega),if_neg (by omega),if_neg (by omega)]
         have hgb:(F3 st ps k j)[k+j]? = some (FW st ps k j):=by
          unfold F3
          rw [rgM_get (by omega)]
          by_cases e:j=0
          ·rw [if_pos (by omega),show k-(k+j)=0 by omega,e];rfl
          ·rw [if_neg (by omega),if_pos (by omega),show k+j-k=j by omega]
         have hp1:=pAt_get (ps:=ps) (i:=k+j) (by omega)
         have hp2:=pAt_get (ps:=ps) (i:=k+j+1) (by omega)
         have hf1:=hp.fl _ (pAt_mem (ps:=ps) (i:=k+j) (by omega))
         have hf2:=hp.fl _ (pAt_mem (ps:=ps) (i:=k+j+1) (by omega))
         have hord:=pAt_lt hp (i:=k+j) (j:=k+j+1) (by omega) (by omega)
         have hsb:=FW_SB hst.1 hp (p:=k) (j:=j) (by omega)
         have hbk:both (SD st ps (k+j+1)) ⟨(FW st ps k j).lo-st*(-(pAt ps (k+j)).fl - -(pAt ps (k+j+1)).fl),(FW st ps k j).hi⟩=FW st ps k (j+1):=by
          show _=both (SD st ps (k+1+j)) ⟨(FW st ps k j).lo-st*((pAt ps (k+1+j)).fl-(pAt ps (k+j)).fl),(FW st ps k j).hi⟩
          rw [show k+1+j=k+j+1 by omega,show -(pAt ps (k+j)).fl - -(pAt ps (k+j+1)).fl=(pAt ps (k+j+1)).fl-(pAt ps (k+j)).fl by omega]
         have hst2:=congrArg (List.map encSp) (F3_set st (ps:=ps) (p:=k) (k:=j))
         refine Exec.skipS ?_
         refine Exec.blk ?_
         refine Exec.opk1 38 ?_
         iterate 2 (refine OpenK.o1 V98 ?_)
         refine OpenK.o1 V33 ?_
         iterate 2 (refine OpenK.o1 V98 ?_)
         refine OpenK.o1 V33 ?_
         refine OpenK.o1 V21 ?_
         iterate 4 (refine OpenK.o1 V98 ?_)
         refine OpenK.o1 V21 ?_
         iterate 6 (refine OpenK.o1 V98 ?_)
         refine OpenK.o1 V21 ?_
         iterate 2 (refine OpenK.o1 V98 ?_)
         refine OpenK.o1 V33 ?_
         iterate 5 (refine OpenK.o1 V98 ?_)
         refine OpenK.o1 V33 ?_
         refine OpenK.o1 V21 ?_
         iterate 2 (refine OpenK.o1 V98 ?_)
         refine OpenK.o1 V33 ?_
         refine OpenK.calm (c:=19) V208 (c_fall st ps (FW st ps k j) (-(pAt ps (k+j)).fl) (-(pAt ps (k+j+1)).fl) hst hsb (by omega) (by omega) (by omega)) V210 V208 V208 V98 V132 V208 V208 V208 ?_
         refine OpenK.cal (c_both (SD st ps (k+j+1)) ⟨(FW st ps k j).lo-st*(-(pAt ps (k+j)).fl - -(pAt ps (k+j+1)).fl),(FW st ps k j).hi⟩) V210 V98 V31 (fr0) V98 V208 V208 ?_
         refine OpenK.o1 V21 ?_
         refine OpenK.o1 V98 ?_
         refine OpenK.nil (OpenE.finT V215 V215 V215 ?_)
         refine BlkK.nrm ?_
         refine Exec.reg1 ?_
         refine Run.o1 V98 ?_
         refine Run.o1 V33 ?_
         refine Run.o1 V98 ?_
         refine Run.nil ?_
         refine ForK.nxt ?_ ?_ ?_
         ·omega
         ·exact Ghost.kp [0,1,4,5,6,7,8,11,24,25] [901,902,19,33] V6
         ·trivial
        ·skip
         have hje:j=ps.length-1-k:=by have:=of_decide_eq_false hb112;omega
         rw [hje]
         have hF3:=F3_end st hk0
         have hlp:=pk_len st hk0
         refine Exec.exitS ?_
         refine ForK.ext ?_
         refine BlkK.hit ?_
         refine Exec.assocS ?_
         refine Exec.reg ?_
         iterate 3 (refine Run.o1 V113 ?_)
         refine Run.nil ?_
         refine Exec.blk ?_
         refine Exec.forA [0,1,4,5,6,7,8,24,25,150,151,152] [901,902,19,33] (ps.length) (fun j=>[.slot 152 (.int j)]) (fun j=>∀i s,i<j→(peakAt st ps k)[i]? = some s→s.lo≤s.hi) (fun j=>by simp only [go_sem]<;>rfl) V102 ?_ (fun j hj Xj=>?_)
         ·exact fun i s hi=>absurd hi (by omega)
         ·skip
          refine Exec.reg ?_
          refine Run.o1 V113 ?_
          refine Run.nil ?_
          refine Exec.cndS V113 (fun hb153=>?_) (fun hb153=>?_)
          ·skip
           have hj0:j<ps.length:=by have:=of_decide_eq_true hb153;omega
           have tj:(j:Int).toNat=j:=Int.toNat_natCast j
           obtain ⟨s,hs⟩:∃s,(peakAt st ps k)[j]? = some s:=⟨_,List.getElem?_eq_getElem (by rw [hlp];exact hj0)⟩
           refine Exec.skipS ?_
           refine Exec.blk ?_
           refine Exec.reg ?_
           refine Run.o1 V25 ?_
           iterate 3 (refine Run.o1 V109 ?_)
           refine Run.nil ?_
           refine Exec.reg ?_
           iterate 5 (refine Run.o1 V109 ?_)
           refine Run.nil ?_
           refine Exec.cnd V109 (fun hb160=>?_) (fun hb160=>?_)
           ·skip
            have hgood:goodL (peakAt st ps k)=false:=good_no hs (of_decide_eq_true hb160)
            have hfs:=fsK_no hgood
            refine BlkK.mis (by decide) ?_
            refine ForK.ext ?_
            refine BlkK.mis (by decide) ?_
            refine BlkK.hit ?_
            refine Exec.reg1 ?_
            refine Run.o1 (by simp only [go_sem,hlu,hld,List.length_map,tk,hl1,hu_k,hd_k,hga,hst3,hF,hl3,hF3,hlp,tj,hs,hfs];(try simp (disch:=omega) only [IntWalk.i64_in,IntWalk.u64_in,IntWalk.i32_in,IntWalk.u8_in,if_neg,if_pos])<;> rfl) ?_
            refine Run.o1 (by simp only [go_sem,hlu,hld,List.length_map,tk,hl1,hu_k,hd_k,hga,hst3,hF,hl3,hF3,hlp,tj,hs,hfs]<;>rfl) ?_
            refine Run.nil ?_
            refine ForK.nxt ?_ ?_ ?_
            ·omega
            ·exact Ghost.kp [0,1,4,5,6,24,25] [901,902,19] (by simp only [go_sem,hlu,hld,List.length_map,tk,hl1,hu_k,hd_k,hga,hst3,hF,hl3,hF3,hlp,tj,hs,hfs]<;>first|exact eqz|rfl)
            ·trivial
           ·skip
            have hns:¬s.lo>s.hi:=of_decide_eq_false hb160
            have hXn:∀i s,i<j+1→(peakAt st ps k)[i]? = some s→s.lo≤s.hi:=fun i u hi hu=>by
             by_cases e:i=j
             ·subst e;rw [hs] at hu;cases hu;omega
             ·exact Xj i u (by omega) hu
            refine BlkK.nrm ?_
            refine Exec.reg1 ?_
            refine Run.o1 V38 ?_
            refine Run.o1 V109 ?_
            refine Run.nil ?_
            refine ForK.nxt ?_ ?_ ?_
            ·omega
            ·exact Ghost.kp [0,1,4,5,6,7,8,24,25,150,151,152] [901,902,19,33] V95
            ·exact hXn
          ·skip
           have hje:j=ps.length:=by have:=of_decide_eq_false hb153;omega
           subst hje
           have hX2:∀i s,i<ps.length→(peakAt st ps k)[i]? = some s→s.lo≤s.hi:=Xj
           have hta:List.take ps.length (List.map encSp (peakAt st ps k))=List.map encSp (peakAt st ps k):=List.take_of_length_le (by simp [hlp])
           refine Exec.exitS ?_
           refine ForK.ext ?_
           refine BlkK.hit ?_
           refine Exec.reg1 ?_
           have hgood:goodL (peakAt st ps k)=true:=good_all fun i s hs=>hX2 i s V133 hs
           have hfs:(b0 || !(fsK st ps (k+1)).isEmpty)=true:=by rw [fsK_yes hgood];simp
           refine Run.frz 33 (by simp only [go_sem,hF3,hta]<;>rfl) ?_
           iterate 3 (refine Run.o1 (by simp only [go_sem,hlu,hld,List.length_map,tk,hl1,hu_k,hd_k,hga,hst3,hF,hl3,hF3,hlp,hfs]<;>rfl) ?_)
           refine Run.lendG [(902,902)] V208 (c_can_1 k (peakAt st ps k) (b0 || !(fsK st ps k).isEmpty)) V210 (.inr ⟨901,by simp only [go_sem]<;>rfl,by simp only [go_sem]<;>rfl⟩) V208 (by exact ⟨by first|exact WkR.pure rfl|exact WkR.of rfl rfl|exact WkR.nil _|exact WkR.int V179|exact WkR.fptW rfl ⟨by first|exact .inl rfl|exact .inr rfl,by first|exact .inl rfl|exact .inr rfl,by first|exact .inl rfl|exact .inr rfl,by first|exact .inl rfl|exact .inr rfl,by first|exact .inl rfl|exact .inr rfl,by first|exact .inl rfl|exact .inr rfl,trivial⟩,by first|exact WkR.pure rfl|exact WkR.of rfl rfl|exact WkR.nil _|exact WkR.int V179|exact WkR.fptW rfl ⟨by first|exact .inl rfl|exact .inr rfl,by first|exact .inl rfl|exact .inr rfl,by first|exact .inl rfl|exact .inr rfl,by first|exact .inl rfl|exact .inr rfl,by first|exact .inl rfl|exact .inr rfl,by first|exact .inl rfl|exact .inr rfl,trivial⟩,by first|exact WkR.pure rfl|exact WkR.of rfl rfl|exact WkR.nil _|exact WkR.int V179|exact WkR.fptW rfl ⟨by first|exact .inl rfl|exact .inr rfl,by first|exact .inl rfl|exact .inr rfl,by first|exact .inl rfl|exact .inr rfl,by first|exact .inl rfl|exact .inr rfl,by first|exact .inl rfl|exact .inr rfl,by first|exact .inl rfl|exact .inr rfl,trivial⟩,trivial⟩) rfl (by decide) V59 V73 (by intro p hp;simp only [List.mem_cons,List.not_mem_nil,or_false] at hp;rcases hp with rfl<;>(first|exact ⟨_,rfl,back_refl _⟩|exact ⟨_,rfl,rfl⟩|exact ⟨_,rfl,_,rfl⟩)) V107 V208 ?_
           refine Run.nil ?_
           refine BlkK.nrm ?_
           refine Exec.reg1 ?_
           refine Run.o1 (by simp only [go_sem,hlu,hld,List.length_map,tk,hl1,hu_k,hd_k,hga,hst3,hF,hl3,hF3,hlp,hfs];(try simp (disch:=omega) only [IntWalk.i64_in,IntWalk.u64_in,IntWalk.i32_in,IntWalk.u8_in,if_neg,if_pos])<;> rfl) ?_
           refine Run.o1 (by simp only [go_sem,hlu,hld,List.length_map,tk,hl1,hu_k,hd_k,hga,hst3,hF,hl3,hF3,hlp,hfs]<;>rfl) ?_
           refine Run.nil ?_
           refine ForK.nxt ?_ ?_ ?_
           ·omega
           ·exact Ghost.kp [0,1,4,5,6,24,25] [901,902,19] (by simp only [go_sem,hlu,hld,List.length_map,tk,hl1,hu_k,hd_k,hga,hst3,hF,hl3,hF3,hlp,hfs]<;>first|exact eqz|rfl)
           ·trivial
  ·skip
   have hke:k=ps.length:=by have:=ge_of_dec (l:=ps) (by simpa using hb26);omega
   subst hke
   refine Exec.exitS ?_
   refine ForK.ext ?_
   refine Blk1K.hit ?_
   exact Ends.fin0 [901,902] (rs:=[]) rfl V156 V139
end Go.Mw
namespace Go.Mw
open Go.Proofs
open Go.Li
theorem len_isE {α:Type}(l:List α):((l.length:Int)==0)=l.isEmpty:=by
 cases l with
 |nil=>rfl
 |cons x l=>simp;omega
theorem c_pk_can (st:Int)(hst:0≤st∧st≤1000)(ps:List Pt)(hp:CP ps)(b0:Bool):Con Try.prog 28 [.leaf (.d (chP st ps)),.leaf (.obj 901)] [(901,.clo 69 [.ptr 902 0]),(902,.cells [.d (.bo b0)])]
  (.ret (.tup []) [(901,.clo 69 [.ptr 902 0]),(902,.cells [.d (.bo (b0 || !(peaksL st ps).isEmpty))])]):=by
 have:=c_peaks_can st hst ps hp b0
 rw [fsK_all] at this
 have h0:(b0 || !(fsK st ps 0).isEmpty)=b0:=by cases b0<;>rfl
 rw [h0] at this
 exact this
def wK (st:Int)(ps:List Pt)(own k:Nat):Go.Li.Span:=widL ⟨0,0⟩ true ((fsK st ps k).map fun l=>l.getD own ⟨0,0⟩)
theorem widL_snoc (x:Go.Li.Span):∀(l:List Go.Li.Span) (a:Go.Li.Span) (f:Bool),widL a f (l++[x])=widen (widL a f l) x (f&&l.isEmpty)
 |[],a,f=>by cases f<;>rfl
 |b::r,a,f=>by
  show widL (widen a b f) false (r++[x])=widen (widL (widen a b f) false r) x (f&&false)
  rw [widL_snoc x r,Bool.false_and,Bool.and_false]
theorem wK_yes {st:Int}{ps:List Pt}{own k:Nat}(h:goodL (peakAt st ps k)=true):wK st ps own (k+1)=widen (wK st ps own k) ((peakAt st ps k).getD own ⟨0,0⟩) (fsK st ps k).isEmpty:=by
 unfold wK
 rw [fsK_yes h,List.map_append,List.map_cons,List.map_nil,widL_snoc,Bool.true_and]
 congr 1
 cases fsK st ps k<;>rfl
theorem wK_no {st:Int}{ps:List Pt}{own k:Nat}(h:goodL (peakAt st ps k)=false):wK st ps own (k+1)=wK st ps own k:=by unfold wK;rw [fsK_no h]
theorem cp_of {c:Cv}(h:curveB c=true){fs:List Int}(hn:fs.length≤1)(hf:∀f∈fs,0≤f∧f≤100000):CP (chainOf c fs):=by
 obtain ⟨h1,h2,h3,h4,h5⟩:=chain_facts h hn hf
 exact ⟨h1,h2,h3,h4,h5⟩
theorem own_some {f:Int}{ps:List Pt}(h:ps.any (fun p=>p.fl==f)=true):ps.findIdx? (fun p=>p.fl==f)=some (ownI f ps)∧ownI f ps<ps.length:=by
 have hlt:ps.findIdx (fun p=>p.fl==f)<ps.length:=by
  obtain ⟨p,hp,hq⟩:=List.any_eq_true.1 h
  exact List.findIdx_lt_length_of_exists ⟨p,hp,hq⟩
 exact ⟨List.findIdx?_eq_some_iff_findIdx_eq.2 ⟨hlt,rfl⟩,hlt⟩
theorem c_can (st:Int)(hst:0≤st∧st≤1000)(ps:List Pt)(hp:CP ps):Contract Try.prog 41 [.leaf (.d (chP st ps))] (.bool (canB st ps)) []:=by
 have hpl:=hp.len
 have hle:=len_isE ps
 have hr:canB st ps=(ps.isEmpty || !(peaksL st ps).isEmpty):=rfl
 refine con_of follows_mixed Try.func41 rfl (by simp only [List.length_cons,List.length_nil,Try.ntmps41];omega) V215 rfl ?_
 refine Exec.reg ?_
 refine Run.o1 V196 ?_
 refine Run.nil ?_
 refine Exec.reg ?_
 iterate 8 (refine Run.o1 V196 ?_)
 refine Run.nil ?_
 refine Exec.reg ?_
 iterate 2 (refine Run.o1 V196 ?_)
 refine Run.lendG [(901,11),(902,3)] V208 (c_pk_can st hst ps hp ps.isEmpty) V210 (.inl ⟨[],by simp only [go_sem]<;>rfl,rfl⟩) V208 V4 rfl (by decide) V59 V67 V52 V101 V208 ?_
 refine Run.nil ?_
 refine Exec.reg ?_
 iterate 2 (refine Run.o1 V196 ?_)
 refine Run.nil ?_
 exact Ends.fin [] (rs:=[.tmp 2]) rfl V196 (by simp only [go_sem,hle,hr]<;>first|rfl|exact eqz)
theorem c_at_2 (k:Int)(l:List Go.Li.Span)(own:Nat)(ho:own<l.length)(w:Go.Li.Span)(f:Bool):Con Try.prog 44 [.int k,.leaf (.d (sksD l)),.leaf (.ptr 903 0),.leaf (.d (.pt [.i own])),.leaf (.ptr 904 0)] [(903,.cells [.d (.i w.lo),.d (.i w.hi)]),(904,.cells [.d (.bo f)])] (.ret (.tup []) [(903,.cells [.d (.i (widen w (l.getD own ⟨0,0⟩) f).lo),.d (.i (widen w (l.getD own ⟨0,0⟩) f).hi)]),(904,.cells [.d (.bo false)])]):=by
 obtain ⟨s,hs⟩:∃s,l[own]? = some s:=⟨_,List.getElem?_eq_getElem ho⟩
 have hg:l.getD own ⟨0,0⟩=s:=getD_of hs
 refine con_of follows_mixed Try.func44 rfl (by simp only [List.length_cons,List.length_nil,Try.ntmps44];omega) V215 rfl ?_
 refine Exec.opk1 11 ?_
 iterate 3 (refine OpenK.o1 V157 ?_)
 refine OpenK.o1 (by simp only [go_sem,hs,hg,Int.toNat_natCast];(try simp (disch:=omega) only [if_pos]);(try simp only [go_sem,hs,hg,Int.toNat_natCast])<;> rfl) ?_
 iterate 2 (refine OpenK.o1 V157 ?_)
 refine OpenK.cal (c_widen w s f) V210 V157 V16 (fr0) V157 V208 V208 ?_
 iterate 2 (refine OpenK.o1 V157 ?_)
 refine OpenK.nil (OpenE.fin V212 V212 ?_)
 exact Ends.fin0 [903,904] (rs:=[]) rfl V157 (by simp only [go_sem,hs,hg,Int.toNat_natCast]<;>first|rfl|exact eqz)
theorem c_peaks_at (st:Int)(hst:0≤st∧st≤1000)(ps:List Pt)(hp:CP ps)(own:Nat)(ho:own<ps.length):Con Try.prog 28 [.leaf (.d (chP st ps)),.leaf (.obj 901)] [(901,.clo 44 [.ptr 903 0,.d (.pt [.i own]),.ptr 904 0]),(903,.cells [.d (.i (wK st ps own 0).lo),.d (.i (wK st ps own 0).hi)]),(904,.cells [.d (.bo (fsK st ps 0).isEmpty)])] (.ret (.tup []) [(901,.clo 44 [.ptr 903 0,.d (.pt [.i own]),.ptr 904 0]),(903,.cells [.d (.i (wK st ps own ps.length).lo),.d (.i (wK st ps own ps.length).hi)]),(904,.cells [.d (.bo (fsK st ps ps.length).isEmpty)])]):=by
 have hpl:=hp.len
 have hlu:=sideU_len st ps ps.length
 have hld:=sideD_len st ps ps.length
 refine con_of follows_mixed Try.func28 rfl V145 V215 rfl ?_
 refine Exec.scp ?_
 refine Exec.reg ?_
 refine Run.o1 V156 ?_
 refine Run.c1 (c_side_u st hst ps hp) V156 V156 ?_
 refine Run.o1 V156 ?_
 refine Run.c1 (c_side_d st hst ps hp) V156 V156 ?_
 iterate 2 (refine Run.o1 V156 ?_)
 refine Run.nil ?_
 refine Exec.reg ?_
 iterate 3 (refine Run.o1 V156 ?_)
 refine Run.nil ?_
 refine Exec.lblS ?_
 refine Exec.reg ?_
 iterate 6 (refine Run.o1 V156 ?_)
 refine Run.nil ?_
 refine Exec.blk1 ?_
 refine Exec.forA [0,1,4,5,6,24,25] [901,903,904,19] (ps.length) (fun k=>[.slot 25 (.int k),.obj 901 (.clo 44 [.ptr 903 0,.d (.pt [.i own]),.ptr 904 0]),.obj 903 (.cells [.d (.i (wK st ps own k).lo),.d (.i (wK st ps own k).hi)]),.obj 904 (.cells [.d (.bo (fsK st ps k).isEmpty)])]) (fun _=>True) (fun k=>by simp only [go_sem]<;>rfl) V140 ?_ (fun k hk hX=>?_)
 ·trivial
 ·skip
  refine Exec.reg ?_
  refine Run.o1 V156 ?_
  refine Run.nil ?_
  refine Exec.cndS V156 (fun hb26=>?_) (fun hb26=>?_)
  ·skip
   have hk0:k<ps.length:=by simpa using lt_of_dec hb26
   have tk:(k:Int).toNat=k:=Int.toNat_natCast k
   refine Exec.skipS ?_
   refine Exec.blk ?_
   refine Exec.reg ?_
   iterate 2 (refine Run.o1 V151 ?_)
   refine Run.nil ?_
   refine Exec.reg ?_
   iterate 5 (refine Run.o1 V151 ?_)
   refine Run.o1 V75 ?_
   refine Run.o1 V151 ?_
   refine Run.nil ?_
   refine Exec.assocS ?_
   refine Exec.reg ?_
   iterate 3 (refine Run.o1 V151 ?_)
   refine Run.nil ?_
   refine Exec.blk ?_
   refine Exec.forA [0,1,4,5,6,7,8,24,25,35,36] [901,903,904,19,33] (ps.length) (fun j=>[.slot 36 (.int j),.obj 33 (.arr 40 2 ((F1 st ps k j).map encSp))]) (fun _=>True) (fun j=>by simp only [go_sem]<;>rfl) V115 ?_ (fun j hj Xj=>?_)
   ·trivial
   ·skip
    refine Exec.reg ?_
    refine Run.o1 V151 ?_
    refine Run.nil ?_
    refine Exec.cndS V151 (fun hb37=>?_) (fun hb37=>?_)
    ·skip
     have hj0:j<ps.length:=by have:=of_decide_eq_true hb37;omega
     have tj:(j:Int).toNat=j:=Int.toNat_natCast j
     have hl1:=F1_len st ps k j
     have hu_j:(sideU st ps ps.length)[j]? = some (SU st ps j):=by rw [sideU_all,rgM_get (by omega)]
     have hd_j:(sideD st ps ps.length)[j]? = some (SD st ps j):=by rw [sideD_all,rgM_get (by omega)]
     have hg0:(F1 st ps k j)[j]? = some ⟨0,0⟩:=by unfold F1;rw [rgM_get hj0,if_neg (by omega)]
     have hgs:((List.map encSp (F1 st ps k j)).set j [.i (SU st ps j).lo,.i (SU st ps j).hi])[j]? = some [.i (SU st ps j).lo,.i (SU st ps j).hi]:=List.getElem?_set_self (by rw [List.length_map,hl1];omega)
     refine Exec.skipS ?_
     refine Exec.blk ?_
     refine Exec.reg ?_
     iterate 2 (refine Run.o1 V112 ?_)
     refine Run.nil ?_
     refine Exec.reg ?_
     iterate 4 (refine Run.o1 V112 ?_)
     refine Run.o1 V30 ?_
     refine Run.o1 V112 ?_
     refine Run.o1 V30 ?_
     refine Run.o1 V112 ?_
     refine Run.nil ?_
     refine Exec.reg ?_
     iterate 3 (refine Run.o1 V112 ?_)
     refine Run.nil ?_
     refine Exec.cnd V112 (fun hb48=>?_) (fun hb48=>?_)
     ·skip
      have hgt:j>k:=by have:=of_decide_eq_true hb48;omega
      have hst2:=congrArg (List.map encSp) (F1_yes st (ps:=ps) hgt)
      refine Exec.reg1 ?_
      iterate 4 (refine Run.o1 V112 ?_)
      refine Run.o1 V30 ?_
      refine Run.o1 V112 ?_
      refine Run.o1 V30 ?_
      refine Run.o1 V112 ?_
      refine Run.nil ?_
      refine BlkK.nrm ?_
      refine Exec.reg1 ?_
      refine Run.o1 V41 ?_
      refine Run.o1 V112 ?_
      refine Run.nil ?_
      refine ForK.nxt ?_ ?_ ?_
      ·omega
      ·exact Ghost.kp [0,1,4,5,6,7,8,24,25,35,36] [901,903,904,19,33] V10
      ·trivial
     ·skip
      have hgt:¬j>k:=by have:=of_decide_eq_false hb48;omega
      have hst2:=congrArg (List.map encSp) (F1_no st (ps:=ps) hgt)
      refine BlkK.nrm ?_
      refine Exec.reg1 ?_
      refine Run.o1 V41 ?_
      refine Run.o1 V112 ?_
      refine Run.nil ?_
      refine ForK.nxt ?_ ?_ ?_
      ·omega
      ·exact Ghost.kp [0,1,4,5,6,7,8,24,25,35,36] [901,903,904,19,33] V12
      ·trivial
    ·skip
     have hje:j=ps.length:=by have:=of_decide_eq_false hb37;omega
     subst hje
     have hl1:=F1_len st ps k ps.length
     refine Exec.exitS ?_
     refine ForK.ext ?_
     refine BlkK.hit ?_
     refine Exec.opk 15 ?_
     have hu_k:(sideU st ps ps.length)[k]? = some (SU st ps k):=by rw [sideU_all,rgM_get (by omega)]
     have hd_k:(sideD st ps ps.length)[k]? = some (SD st ps k):=by rw [sideD_all,rgM_get (by omega)]
     have hga:(F1 st ps k ps.length)[k]? = some (SU st ps k):=by unfold F1;rw [rgM_get hk0,if_pos hk0,if_neg (by omega)]
     have hst3:(List.map encSp (F1 st ps k ps.length)).set k [.i (both (SU st ps k) (SD st ps k)).lo,.i (both (SU st ps k) (SD st ps k)).hi]=List.map encSp (F2 st ps k 0):=by rw [←F1_top,List.map_set];rfl
     iterate 4 (refine OpenK.o1 V128 ?_)
     refine OpenK.o1 V45 ?_
     iterate 3 (refine OpenK.o1 V128 ?_)
     refine OpenK.o1 V45 ?_
     refine OpenK.o1 V128 ?_
     refine OpenK.cal (c_both (SU st ps k) (SD st ps k)) V210 V128 V31 (fr0) V128 V208 V208 ?_
     refine OpenK.o1 V45 ?_
     refine OpenK.o1 V128 ?_
     refine OpenK.nil (OpenE.fin V212 V212 ?_)
     refine Exec.assocS ?_
     refine Exec.reg ?_
     iterate 2 (refine Run.o1 V128 ?_)
     refine Run.nil ?_
     refine Exec.blk ?_
     refine Exec.forA [0,1,4,5,6,7,8,10,24,25] [901,903,904,19,33] (k) (fun j=>[.slot 10 (.int ((k:Int)-j)),.obj 33 (.arr 40 2 ((F2 st ps k j).map encSp))]) (fun _=>True) (fun j=>by simp only [go_sem]<;>rfl) V106 ?_ (fun j hj Xj=>?_)
     ·trivial
     ·skip
      refine Exec.assocS ?_
      refine Exec.reg ?_
      iterate 2 (refine Run.o1 V128 ?_)
      refine Run.nil ?_
      refine Exec.cndS V128 (fun hb71=>?_) (fun hb71=>?_)
      ·skip
       have hj0:j<k:=by have:=of_decide_eq_true hb71;omega
       have hl2:=F2_len st ps k j
       have t1:((k:Int)-(j:Int)).toNat=k-j:=by omega
       have t2:((k:Int)-(j:Int)-1).toNat=k-j-1:=by omega
       have hga:(F2 st ps k j)[k-j-1]? = some (SU st ps (k-j-1)):=by unfold F2;rw [rgM_get (by omega),if_neg (by omega),if_neg (by omega)]
       have hgb:(F2 st ps k j)[k-j]? = some (BK st ps k j):=by unfold F2;rw [rgM_get (by omega),if_neg (by omega),if_pos (by omega),show k-(k-j)=j by omega]
       have hp1:=pAt_get (ps:=ps) (i:=k-j) (by omega)
       have hp2:=pAt_get (ps:=ps) (i:=k-j-1) (by omega)
       have hf1:=hp.fl _ (pAt_mem (ps:=ps) (i:=k-j) (by omega))
       have hf2:=hp.fl _ (pAt_mem (ps:=ps) (i:=k-j-1) (by omega))
       have hord:=pAt_lt hp (i:=k-j-1) (j:=k-j) (by omega) (by omega)
       have hsb:=BK_SB hst.1 hp hk0 (j:=j) (by omega)
       have hbk:both (SU st ps (k-j-1)) ⟨(BK st ps k j).lo-st*((pAt ps (k-j)).fl-(pAt ps (k-j-1)).fl),(BK st ps k j).hi⟩=BK st ps k (j+1):=by
        show _=both (SU st ps (k-1-j)) ⟨(BK st ps k j).lo-st*((pAt ps (k-j)).fl-(pAt ps (k-1-j)).fl),(BK st ps k j).hi⟩
        rw [show k-1-j=k-j-1 by omega]
       have hst2:=congrArg (List.map encSp) (F2_set st (ps:=ps) hj0)
       refine Exec.skipS ?_
       refine Exec.blk ?_
       refine Exec.opk1 36 ?_
       iterate 2 (refine OpenK.o1 V99 ?_)
       refine OpenK.o1 V34 ?_
       iterate 2 (refine OpenK.o1 V99 ?_)
       refine OpenK.o1 V34 ?_
       refine OpenK.o1 V22 ?_
       iterate 4 (refine OpenK.o1 V99 ?_)
       refine OpenK.o1 V22 ?_
       iterate 6 (refine OpenK.o1 V99 ?_)
       refine OpenK.o1 V22 ?_
       iterate 7 (refine OpenK.o1 V99 ?_)
       refine OpenK.o1 V34 ?_
       refine OpenK.o1 V22 ?_
       iterate 2 (refine OpenK.o1 V99 ?_)
       refine OpenK.calm (c:=19) V208 (c_fall st ps (BK st ps k j) (pAt ps (k-j)).fl (pAt ps (k-j-1)).fl hst hsb (by omega) (by omega) (by omega)) V210 V208 V208 V99 V141 V208 V208 V208 ?_
       refine OpenK.cal (c_both (SU st ps (k-j-1)) ⟨(BK st ps k j).lo-st*((pAt ps (k-j)).fl-(pAt ps (k-j-1)).fl),(BK st ps k j).hi⟩) V210 V99 V31 (fr0) V99 V208 V208 ?_
       refine OpenK.o1 V22 ?_
       refine OpenK.o1 V99 ?_
       refine OpenK.nil (OpenE.finT V215 V215 V215 ?_)
       refine BlkK.nrm ?_
       refine Exec.reg1 ?_
       refine Run.o1 V99 ?_
       refine Run.o1 V34 ?_
       refine Run.o1 V99 ?_
       refine Run.nil ?_
       refine ForK.nxt ?_ ?_ ?_
       ·omega
       ·exact Ghost.kp [0,1,4,5,6,7,8,10,24,25] [901,903,904,19,33] V7
       ·trivial
      ·skip
       have hje:j=k:=by have:=of_decide_eq_false hb71;omega
       rw [hje]
       have hF:=F2_end st ps k
       refine Exec.exitS ?_
       refine ForK.ext ?_
       refine BlkK.hit ?_
       refine Exec.assocS ?_
       refine Exec.reg ?_
       iterate 2 (refine Run.o1 V124 ?_)
       refine Run.nil ?_
       refine Exec.blk ?_
       refine Exec.forA [0,1,4,5,6,7,8,11,24,25] [901,903,904,19,33] (ps.length-1-k) (fun j=>[.slot 11 (.int ((k:Int)+j)),.obj 33 (.arr 40 2 ((F3 st ps k j).map encSp))]) (fun _=>True) (fun j=>by simp only [go_sem]<;>rfl) V104 ?_ (fun j hj Xj=>?_)
       ·trivial
       ·skip
        have hl3:=F3_len st ps k j
        refine Exec.assocS ?_
        refine Exec.reg ?_
        refine Run.o1 V120 ?_
        refine Run.o1 V49 ?_
        iterate 3 (refine Run.o1 V120 ?_)
        refine Run.nil ?_
        refine Exec.cndS V120 (fun hb112=>?_) (fun hb112=>?_)
        ·skip
         have hj0:k+j+1<ps.length:=by have:=of_decide_eq_true hb112;omega
         have t1:((k:Int)+(j:Int)).toNat=k+j:=by omega
         have t2:((k:Int)+(j:Int)+1).toNat=k+j+1:=by omega
         have hga:(F3 st ps k j)[k+j+1]? = some (SD st ps (k+j+1)):=by unfold F3;rw [rgM_get (by omega),if_neg (by omega),if_neg (by omega)]
         have hgb:(F3 st ps k j)[k+j]? = some (FW st ps k j):=by
          unfold F3
          rw [rgM_get (by omega)]
          by_cases e:j=0
          ·rw [if_pos (by omega),show k-(k+j)=0 by omega,e];rfl
          ·rw [if_neg (by omega),if_pos (by omega),show k+j-k=j by omega]
         have hp1:=pAt_get (ps:=ps) (i:=k+j) (by omega)
         have hp2:=pAt_get (ps:=ps) (i:=k+j+1) (by omega)
         have hf1:=hp.fl _ (pAt_mem (ps:=ps) (i:=k+j) (by omega))
         have hf2:=hp.fl _ (pAt_mem (ps:=ps) (i:=k+j+1) (by omega))
         have hord:=pAt_lt hp (i:=k+j) (j:=k+j+1) (by omega) (by omega)
         have hsb:=FW_SB hst.1 hp (p:=k) (j:=j) (by omega)
         have hbk:both (SD st ps (k+j+1)) ⟨(FW st ps k j).lo-st*(-(pAt ps (k+j)).fl - -(pAt ps (k+j+1)).fl),(FW st ps k j).hi⟩=FW st ps k (j+1):=by
          show _=both (SD st ps (k+1+j)) ⟨(FW st ps k j).lo-st*((pAt ps (k+1+j)).fl-(pAt ps (k+j)).fl),(FW st ps k j).hi⟩
          rw [show k+1+j=k+j+1 by omega,show -(pAt ps (k+j)).fl - -(pAt ps (k+j+1)).fl=(pAt ps (k+j+1)).fl-(pAt ps (k+j)).fl by omega]
         have hst2:=congrArg (List.map encSp) (F3_set st (ps:=ps) (p:=k) (k:=j))
         refine Exec.skipS ?_
         refine Exec.blk ?_
         refine Exec.opk1 38 ?_
         iterate 2 (refine OpenK.o1 V98 ?_)
         refine OpenK.o1 V33 ?_
         iterate 2 (refine OpenK.o1 V98 ?_)
         refine OpenK.o1 V33 ?_
         refine OpenK.o1 V21 ?_
         iterate 4 (refine OpenK.o1 V98 ?_)
         refine OpenK.o1 V21 ?_
         iterate 6 (refine OpenK.o1 V98 ?_)
         refine OpenK.o1 V21 ?_
         iterate 2 (refine OpenK.o1 V98 ?_)
         refine OpenK.o1 V33 ?_
         iterate 5 (refine OpenK.o1 V98 ?_)
         refine OpenK.o1 V33 ?_
         refine OpenK.o1 V21 ?_
         iterate 2 (refine OpenK.o1 V98 ?_)
         refine OpenK.o1 V33 ?_
         refine OpenK.calm (c:=19) V208 (c_fall st ps (FW st ps k j) (-(pAt ps (k+j)).fl) (-(pAt ps (k+j+1)).fl) hst hsb (by omega) (by omega) (by omega)) V210 V208 V208 V98 V132 V208 V208 V208 ?_
         refine OpenK.cal (c_both (SD st ps (k+j+1)) ⟨(FW st ps k j).lo-st*(-(pAt ps (k+j)).fl - -(pAt ps (k+j+1)).fl),(FW st ps k j).hi⟩) V210 V98 V31 (fr0) V98 V208 V208 ?_
         refine OpenK.o1 V21 ?_
         refine OpenK.o1 V98 ?_
         refine OpenK.nil (OpenE.finT V215 V215 V215 ?_)
         refine BlkK.nrm ?_
         refine Exec.reg1 ?_
         refine Run.o1 V98 ?_
         refine Run.o1 V33 ?_
         refine Run.o1 V98 ?_
         refine Run.nil ?_
         refine ForK.nxt ?_ ?_ ?_
         ·omega
         ·exact Ghost.kp [0,1,4,5,6,7,8,11,24,25] [901,903,904,19,33] V6
         ·trivial
        ·skip
         have hje:j=ps.length-1-k:=by have:=of_decide_eq_false hb112;omega
         rw [hje]
         have hF3:=F3_end st hk0
         have hlp:=pk_len st hk0
         refine Exec.exitS ?_
         refine ForK.ext ?_
         refine BlkK.hit ?_
         refine Exec.assocS ?_
         refine Exec.reg ?_
         iterate 3 (refine Run.o1 V113 ?_)
         refine Run.nil ?_
         refine Exec.blk ?_
         refine Exec.forA [0,1,4,5,6,7,8,24,25,150,151,152] [901,903,904,19,33] (ps.length) (fun j=>[.slot 152 (.int j)]) (fun j=>∀i s,i<j→(peakAt st ps k)[i]? = some s→s.lo≤s.hi) (fun j=>by simp only [go_sem]<;>rfl) V102 ?_ (fun j hj Xj=>?_)
         ·exact fun i s hi=>absurd hi (by omega)
         ·skip
          refine Exec.reg ?_
          refine Run.o1 V113 ?_
          refine Run.nil ?_
          refine Exec.cndS V113 (fun hb153=>?_) (fun hb153=>?_)
          ·skip
           have hj0:j<ps.length:=by have:=of_decide_eq_true hb153;omega
           have tj:(j:Int).toNat=j:=Int.toNat_natCast j
           obtain ⟨s,hs⟩:∃s,(peakAt st ps k)[j]? = some s:=⟨_,List.getElem?_eq_getElem (by rw [hlp];exact hj0)⟩
           refine Exec.skipS ?_
           refine Exec.blk ?_
           refine Exec.reg ?_
           refine Run.o1 V25 ?_
           iterate 3 (refine Run.o1 V109 ?_)
           refine Run.nil ?_
           refine Exec.reg ?_
           iterate 5 (refine Run.o1 V109 ?_)
           refine Run.nil ?_
           refine Exec.cnd V109 (fun hb160=>?_) (fun hb160=>?_)
           ·skip
            have hgood:goodL (peakAt st ps k)=false:=good_no hs (of_decide_eq_true hb160)
            have hfs:=wK_no (own:=own) hgood
            have hfe:=fsK_no hgood
            refine BlkK.mis (by decide) ?_
            refine ForK.ext ?_
            refine BlkK.mis (by decide) ?_
            refine BlkK.hit ?_
            refine Exec.reg1 ?_
            refine Run.o1 V35 ?_
            refine Run.o1 V103 ?_
            refine Run.nil ?_
            refine ForK.nxt ?_ ?_ ?_
            ·omega
            ·exact Ghost.kp [0,1,4,5,6,24,25] [901,903,904,19] V88
            ·trivial
           ·skip
            have hns:¬s.lo>s.hi:=of_decide_eq_false hb160
            have hXn:∀i s,i<j+1→(peakAt st ps k)[i]? = some s→s.lo≤s.hi:=fun i u hi hu=>by
             by_cases e:i=j
             ·subst e;rw [hs] at hu;cases hu;omega
             ·exact Xj i u (by omega) hu
            refine BlkK.nrm ?_
            refine Exec.reg1 ?_
            refine Run.o1 V38 ?_
            refine Run.o1 V109 ?_
            refine Run.nil ?_
            refine ForK.nxt ?_ ?_ ?_
            ·omega
            ·exact Ghost.kp [0,1,4,5,6,7,8,24,25,150,151,152] [901,903,904,19,33] V95
            ·exact hXn
          ·skip
           have hje:j=ps.length:=by have:=of_decide_eq_false hb153;omega
           subst hje
           have hX2:∀i s,i<ps.length→(peakAt st ps k)[i]? = some s→s.lo≤s.hi:=Xj
           have hta:List.take ps.length (List.map encSp (peakAt st ps k))=List.map encSp (peakAt st ps k):=List.take_of_length_le (by simp [hlp])
           refine Exec.exitS ?_
           refine ForK.ext ?_
           refine BlkK.hit ?_
           refine Exec.reg1 ?_
           have hgood:goodL (peakAt st ps k)=true:=good_all fun i s hs=>hX2 i s V133 hs
           have hfs:=wK_yes (own:=own) hgood
           have hfe:(fsK st ps (k+1)).isEmpty=false:=by rw [fsK_yes hgood];simp
           refine Run.frz 33 (by simp only [go_sem,hF3,hta]<;>rfl) ?_
           iterate 3 (refine Run.o1 V108 ?_)
           refine Run.lendG [(903,903),(904,904)] V208 (c_at_2 k (peakAt st ps k) own (by rw [hlp];exact ho) (wK st ps own k) (fsK st ps k).isEmpty) V210 (.inr ⟨901,by simp only [go_sem]<;>rfl,by simp only [go_sem]<;>rfl⟩) V208 (by exact ⟨by first|exact WkR.pure rfl|exact WkR.of rfl rfl|exact WkR.nil _|exact WkR.int V179|exact WkR.fptW rfl ⟨by first|exact .inl rfl|exact .inr rfl,by first|exact .inl rfl|exact .inr rfl,by first|exact .inl rfl|exact .inr rfl,by first|exact .inl rfl|exact .inr rfl,by first|exact .inl rfl|exact .inr rfl,by first|exact .inl rfl|exact .inr rfl,trivial⟩,by first|exact WkR.pure rfl|exact WkR.of rfl rfl|exact WkR.nil _|exact WkR.int V179|exact WkR.fptW rfl ⟨by first|exact .inl rfl|exact .inr rfl,by first|exact .inl rfl|exact .inr rfl,by first|exact .inl rfl|exact .inr rfl,by first|exact .inl rfl|exact .inr rfl,by first|exact .inl rfl|exact .inr rfl,by first|exact .inl rfl|exact .inr rfl,trivial⟩,by first|exact WkR.pure rfl|exact WkR.of rfl rfl|exact WkR.nil _|exact WkR.int V179|exact WkR.fptW rfl ⟨by first|exact .inl rfl|exact .inr rfl,by first|exact .inl rfl|exact .inr rfl,by first|exact .inl rfl|exact .inr rfl,by first|exact .inl rfl|exact .inr rfl,by first|exact .inl rfl|exact .inr rfl,by first|exact .inl rfl|exact .inr rfl,trivial⟩,by first|exact WkR.pure rfl|exact WkR.of rfl rfl|exact WkR.nil _|exact WkR.int V179|exact WkR.fptW rfl ⟨by first|exact .inl rfl|exact .inr rfl,by first|exact .inl rfl|exact .inr rfl,by first|exact .inl rfl|exact .inr rfl,by first|exact .inl rfl|exact .inr rfl,by first|exact .inl rfl|exact .inr rfl,by first|exact .inl rfl|exact .inr rfl,trivial⟩,by first|exact WkR.pure rfl|exact WkR.of rfl rfl|exact WkR.nil _|exact WkR.int V179|exact WkR.fptW rfl ⟨by first|exact .inl rfl|exact .inr rfl,by first|exact .inl rfl|exact .inr rfl,by first|exact .inl rfl|exact .inr rfl,by first|exact .inl rfl|exact .inr rfl,by first|exact .inl rfl|exact .inr rfl,by first|exact .inl rfl|exact .inr rfl,trivial⟩,trivial⟩) rfl (by decide) V59 V67 V61 V101 V208 ?_
           refine Run.nil ?_
           refine BlkK.nrm ?_
           refine Exec.reg1 ?_
           refine Run.o1 V37 ?_
           refine Run.o1 V108 ?_
           refine Run.nil ?_
           refine ForK.nxt ?_ ?_ ?_
           ·omega
           ·exact Ghost.kp [0,1,4,5,6,24,25] [901,903,904,19] V94
           ·trivial
  ·skip
   have hke:k=ps.length:=by have:=ge_of_dec (l:=ps) (by simpa using hb26);omega
   subst hke
   refine Exec.exitS ?_
   refine ForK.ext ?_
   refine Blk1K.hit ?_
   exact Ends.fin0 [901,903,904] (rs:=[]) rfl V156 V139
end Go.Mw
namespace Go.Mw
open Go.Proofs
open Go.Li
theorem c_pk_at (st:Int)(hst:0≤st∧st≤1000)(ps:List Pt)(hp:CP ps)(own:Nat)(ho:own<ps.length):Con Try.prog 28 [.leaf (.d (chP st ps)),.leaf (.obj 901)] [(901,.clo 44 [.ptr 903 0,.d (.pt [.i own]),.ptr 904 0]),(903,.cells [.d (.i 0),.d (.i 0)]),(904,.cells [.d (.bo true)])]
  (.ret (.tup []) [(901,.clo 44 [.ptr 903 0,.d (.pt [.i own]),.ptr 904 0]),(903,.cells [.d (.i (widL ⟨0,0⟩ true ((peaksL st ps).map fun l=>l.getD own ⟨0,0⟩)).lo),.d (.i (widL ⟨0,0⟩ true ((peaksL st ps).map fun l=>l.getD own ⟨0,0⟩)).hi)]),(904,.cells [.d (.bo (peaksL st ps).isEmpty)])]):=by
 have:=c_peaks_at st hst ps hp own ho
 rw [fsK_all] at this
 exact this
theorem c_at (c:Cv)(h:curveB c=true)(f:Int)(hf:0≤f∧f≤100000):Contract Try.prog 20 [cvV c,.int f] (spV (atS c f)) []:=by
 have hb:=curveB_bd h
 refine con_of follows_mixed Try.func20 rfl (by simp only [List.length_cons,List.length_nil,Try.ntmps20];omega) V215 rfl ?_
 refine Exec.reg ?_
 iterate 3 (refine Run.o ?_)
 refine Run.nil ?_
 refine Exec.assocS ?_
 refine Exec.reg ?_
 iterate 4 (refine Run.o ?_)
 refine Run.nil ?_
 refine Exec.cndS V208 (fun hb11=>?_) (fun hb11=>?_)
 ·skip
  have hs:f<c.start:=of_decide_eq_true hb11
  have hr:atS c f=⟨-1000,-1000⟩:=by unfold atS;rw [if_pos hs]
  refine Exec.assocS ?_
  refine Exec.reg ?_
  refine Run.c1 (c_still) V191 V191 ?_
  refine Run.o1 V191 ?_
  refine Run.nil ?_
  refine Exec.retS ?_
  exact Ends.fin [] (rs:=[.cell 4 40]) rfl V191 (by simp only [go_sem,hr,stillS]<;>first|rfl|exact eqz)
 ·skip
  have hs:¬f<c.start:=of_decide_eq_false hb11
  have hcp:=cp_of h (fs:=[f]) (by simp) (fun x hx=>by rw [List.mem_singleton.1 hx];exact hf)
  have hch:chainOf c [f]=insP f c.ps:=by unfold chainOf;simp [hs]
  have hic:=(insP_facts (f:=f) (curve_facts h).1 (curve_facts h).2.2.1).2.2
  rw [←hch] at hic
  have hown:=own_some hic
  have hidx:idxI ((chainOf c [f]).findIdx? fun p=>p.fl==f)=(ownI f (chainOf c [f]):Int):=by rw [hown.1];rfl
  have hr:atS c f=widL ⟨0,0⟩ true ((peaksL c.steep (chainOf c [f])).map fun l=>l.getD (ownI f (chainOf c [f])) ⟨0,0⟩):=by unfold atS;rw [if_neg hs]
  refine Exec.skipS ?_
  refine Exec.reg ?_
  iterate 3 (refine Run.o1 V193 ?_)
  refine Run.frz 15 V208 ?_
  refine Run.c1 (c_newChain c h [f] (by simp) (fun x hx=>by rw [List.mem_singleton.1 hx];exact hf)) V193 V193 ?_
  iterate 3 (refine Run.o1 V193 ?_)
  refine Run.nil ?_
  refine Exec.reg ?_
  refine Run.frz 3 V208 ?_
  iterate 5 (refine Run.o1 V193 ?_)
  refine Run.c1 (c_IndexFunc_Pt (fun p=>p.fl==f) (ds:=[.pt [.i f]]) V210 (chainOf c [f]) (by have:=hcp.len;omega) (fun p _=>c_at_1 p f)) V193 V193 ?_
  iterate 2 (refine Run.o1 V193 ?_)
  refine Run.nil ?_
  refine Exec.reg ?_
  refine Run.frz 7 V208 ?_
  iterate 2 (refine Run.o1 V193 ?_)
  refine Run.lendG [(901,24),(903,4),(904,6)] V208 (c_pk_at c.steep (by omega) (chainOf c [f]) hcp (ownI f (chainOf c [f])) hown.2) V210 (.inl ⟨[],by simp only [go_sem]<;>rfl,rfl⟩) V208 V4 rfl (by decide) V59 (by intro p hp n hn;simp only [List.mem_cons,List.not_mem_nil,or_false] at hp;rcases hp with rfl|rfl|rfl<;>(simp [look] at hn;subst hn;simp only [go_sem]<;>rfl)) (by intro p hp;simp only [List.mem_cons,List.not_mem_nil,or_false] at hp;rcases hp with rfl|rfl|rfl<;>(first|exact ⟨_,rfl,back_refl _⟩|exact ⟨_,rfl,_,rfl,by simp⟩|exact ⟨_,rfl,_,rfl⟩)) (by intro p hp hn;simp only [List.mem_cons,List.not_mem_nil,or_false] at hp;rcases hp with rfl|rfl|rfl<;>simp [look] at hn) V208 ?_
  refine Run.nil ?_
  refine Exec.reg ?_
  iterate 2 (refine Run.o1 V193 ?_)
  refine Run.nil ?_
  exact Ends.fin [] (rs:=[.cell 4 40]) rfl V193 (by simp only [go_sem,hidx,hr]<;>first|rfl|exact eqz)
def errI (c:Cv):Int:=if canB c.steep c.ps then 0 else 6
theorem errI_yes {c:Cv}(h:canB c.steep c.ps=true):errI c=0:=if_pos h
theorem errI_no {c:Cv}(h:canB c.steep c.ps=false):errI c=6:=if_neg (by rw [h];decide)
theorem c_errorOf (c:Cv)(h:curveB c=true)(many most:Int)(hm:many≤most):Contract Try.prog 18 [cvV c,.int many,.int most,.bool true] (.int (errI c)) []:=by
 have hb:=curveB_bd h
 have hcp:CP c.ps:=cp_of h (fs:=[]) (by simp) (fun x hx=>by cases hx)
 have hd:decide (many>most)=false:=decide_eq_false (by omega)
 have hc0:=c_newChain c h [] (by simp) (fun x hx=>by cases hx)
 refine con_of follows_mixed Try.func18 rfl (by simp only [List.length_cons,List.length_nil,Try.ntmps18];omega) V215 rfl ?_
 refine Exec.reg ?_
 iterate 2 (refine Run.o1 V178 ?_)
 refine Run.nil ?_
 refine Exec.blk ?_
 refine Exec.reg ?_
 refine Run.o1 V178 ?_
 refine Run.c1 (c_isCurve c h) V178 V178 ?_
 iterate 2 (refine Run.o1 V178 ?_)
 refine Run.nil ?_
 refine Exec.cnd V178 (fun hb9=>?_) (fun hb9=>?_)
 ·exact absurd hb9 (by simp)
 ·skip
  refine Exec.reg ?_
  iterate 4 (refine Run.o1 V178 ?_)
  refine Run.nil ?_
  refine Exec.cnd V178 (fun hb13=>?_) (fun hb13=>?_)
  ·exact absurd hb13 (by simp)
  ·skip
   refine Exec.reg ?_
   iterate 3 (refine Run.o1 V178 ?_)
   refine Run.nil ?_
   refine Exec.cnd V178 (fun hb17=>?_) (fun hb17=>?_)
   ·exact absurd hb17 (by simp)
   ·skip
    refine Exec.reg ?_
    refine Run.o1 V178 ?_
    refine Run.c1 (hc0) V178 V178 ?_
    refine Run.c1 (c_can c.steep (by omega) c.ps hcp) V178 V178 ?_
    iterate 2 (refine Run.o1 V178 ?_)
    refine Run.nil ?_
    refine Exec.cnd V178 (fun hb20=>?_) (fun hb20=>?_)
    ·skip
     have hr:=errI_no (c:=c) (by simpa using hb20)
     refine Exec.reg ?_
     refine Run.o1 V202 ?_
     refine Run.nil ?_
     refine BlkK.ret ?_
     exact Ends.fin [] (rs:=[.tmp 8]) rfl V202 V161
    ·skip
     have hr:=errI_yes (c:=c) (by simpa using hb20)
     refine BlkK.nrm ?_
     refine Exec.reg ?_
     refine Run.o1 V202 ?_
     refine Run.nil ?_
     exact Ends.fin [] (rs:=[.tmp 8]) rfl V202 V161
def atR (c:Cv)(f:Int):AV:=if canB c.steep c.ps then .tup [(true,[.d (.i (atS c f).lo),.d (.i (atS c f).hi)]),(false,[.d (.i 0)])] else .tup [(true,[.d (.i 0),.d (.i 0)]),(false,[.d (.i 6)])]
theorem atR_yes {c:Cv}{f:Int}(h:canB c.steep c.ps=true):atR c f=.tup [(true,[.d (.i (atS c f).lo),.d (.i (atS c f).hi)]),(false,[.d (.i 0)])]:=if_pos h
theorem atR_no {c:Cv}{f:Int}(h:canB c.steep c.ps=false):atR c f=.tup [(true,[.d (.i 0),.d (.i 0)]),(false,[.d (.i 6)])]:=if_neg (by rw [h];decide)
theorem errI_ne {c:Cv}:(errI c != 0) = !canB c.steep c.ps:=by unfold errI;cases canB c.steep c.ps<;>rfl
theorem c_At (c:Cv)(h:curveB c=true)(f:Int)(hf:0≤f∧f≤100000):Contract Try.prog 9 [cvV c,.int f] (atR c f) []:=by
 have hin:inL f 0 100000=true:=by unfold inL;simp;omega
 have hne:=errI_ne (c:=c)
 refine con_of follows_mixed Try.func9 rfl (by simp only [List.length_cons,List.length_nil,Try.ntmps9];omega) V215 rfl ?_
 refine Exec.reg ?_
 iterate 3 (refine Run.o1 V194 ?_)
 refine Run.nil ?_
 refine Exec.assocS ?_
 refine Exec.opk 7 ?_
 iterate 2 (refine OpenK.o1 V194 ?_)
 refine OpenK.cal (c_curve_isFlow f) V210 V194 V96 (fr0) V194 V208 V208 ?_
 refine OpenK.cal (c_errorOf c h 1 1 (by omega)) V210 V194 V8 (fr0) V194 V208 V208 ?_
 refine OpenK.o1 V194 ?_
 refine OpenK.nil (OpenE.fin V212 V212 ?_)
 refine Exec.assocS ?_
 refine Exec.reg ?_
 iterate 2 (refine Run.o1 V194 ?_)
 refine Run.nil ?_
 refine Exec.cndS V194 (fun hb12=>?_) (fun hb12=>?_)
 ·skip
  have hcan:canB c.steep c.ps=false:=by simpa using hb12
  have hr:=atR_no (f:=f) hcan
  have he:=errI_no hcan
  refine Exec.assocS ?_
  refine Exec.reg ?_
  iterate 4 (refine Run.o1 (by simp only [go_sem,hr,he]<;>rfl) ?_)
  refine Run.nil ?_
  refine Exec.retS ?_
  exact Ends.fin [] (rs:=[.cell 4 40,.tmp 5]) rfl (by simp only [go_sem,hr,he]<;>rfl) (by simp only [go_sem,hr,he]<;>first|rfl|exact eqz)
 ·skip
  have hcan:canB c.steep c.ps=true:=by simpa using hb12
  have hr:=atR_yes (f:=f) hcan
  refine Exec.skipS ?_
  refine Exec.reg ?_
  iterate 2 (refine Run.o1 V202 ?_)
  refine Run.c1 (c_at c h f hf) V202 V202 ?_
  iterate 2 (refine Run.o1 V202 ?_)
  refine Run.nil ?_
  exact Ends.fin [] (rs:=[.cell 4 40,.tmp 5]) rfl V202 V161
end Go.Mw
namespace Go.Mw
open Go.Proofs
open Go.Li
@[go_sem] def endD (side:Bool):List D:=match side with
 |false=>[.fn 50 [],.fn 51 [],.fn 48 []]
 |true=>[.fn 52 [],.fn 53 [],.fn 49 [.pt [.fn 48 []]]]
def mI (ps:List Pt)(k:Nat):Lf:=(List.range k).map fun i=>((pAt ps i).fl,(i:Int))
theorem mI_succ (ps:List Pt)(k:Nat):mI ps (k+1)=mI ps k++[((pAt ps k).fl,(k:Int))]:=by unfold mI;rw [List.range_succ,List.map_append];rfl
theorem mI_new {ps:List Pt}(h:CP ps){k:Nat}(hk:k<ps.length):(pAt ps k).fl ∉ (mI ps k).map Prod.fst:=by
 intro hm
 obtain ⟨p,hp,he⟩:=List.mem_map.1 hm
 obtain ⟨i,hi,rfl⟩:=List.mem_map.1 hp
 have:=pAt_lt h (List.mem_range.1 hi) hk
 simp only at he;omega
theorem find_app {t:Int}:∀ {a b:Lf},t ∉ a.map Prod.fst→findL t (a++b)=findL t b
 |[],b,_=>rfl
 |p::a,b,h=>by
  have h1:(p.1==t)=false:=by simpa using fun e:p.1=t=>h (by simp [e])
  have ih:=find_app (a:=a) (b:=b) fun h2=>h (by simp at h2 ⊢;exact .inr h2)
  unfold findL at ih ⊢
  rw [List.cons_append,List.find?_cons,h1];exact ih
theorem mI_at {ps:List Pt}(h:CP ps){i n:Nat}(hin:i<n)(hn:n≤ps.length):findL (pAt ps i).fl (mI ps n)=some (i:Int):=by
 have hs:mI ps n=mI ps i++(((pAt ps i).fl,(i:Int))::((List.range n).drop (i+1)).map fun j=>((pAt ps j).fl,(j:Int))):=by
  unfold mI
  have:List.range n=(List.range n).take i++i::(List.range n).drop (i+1):=by
   have hd:=drop_get (l:=List.range n) (k:=i) (x:=i) (List.getElem?_range hin)
   rw [←hd,List.take_append_drop]
  conv=>lhs;rw [this]
  rw [List.map_append,List.map_cons,List.take_range,Nat.min_eq_left (by omega)]
 rw [hs,find_app (mI_new h (by omega))]
 unfold findL
 rw [List.find?_cons];simp
theorem mI_find {ps:List Pt}(h:CP ps)(f:Int):findL f (mI ps ps.length)=if ps.any (fun p=>p.fl==f) then some (ownI f ps:Int) else none:=by
 by_cases ha:ps.any (fun p=>p.fl==f)=true
 ·rw [if_pos ha]
  obtain ⟨h1,h2⟩:=own_some ha
  have hf:(pAt ps (ownI f ps)).fl=f:=by
   have h3:=pAt_get h2
   have h4:=List.findIdx_getElem (w:=h2)
   rw [List.getElem?_eq_getElem h2] at h3
   simp only [Option.some.injEq] at h3
   rw [←h3]
   have:ps[ps.findIdx fun p=>p.fl==f].fl=f:=by simpa using h4
   exact this
  have:=mI_at h h2 (Nat.le_refl _)
  rw [hf] at this
  exact this
 ·rw [if_neg ha]
  unfold findL
  have:(mI ps ps.length).find? (fun p=>p.1==f)=none:=by
   rw [List.find?_eq_none]
   intro p hp
   obtain ⟨i,hi,rfl⟩:=List.mem_map.1 hp
   have hm:=pAt_mem (List.mem_range.1 hi)
   intro e
   exact ha (List.any_eq_true.2 ⟨_,hm,e⟩)
  rw [this];rfl
theorem bestL_snoc (far:Int→Int→Bool)(x:Int):∀(l:List Int) (f:Bool) (b:Int),bestL far f b (l++[x])=if (f&&l.isEmpty) || far x (bestL far f b l) then x else bestL far f b l
 |[],f,b=>by cases f<;>rfl
 |y::r,f,b=>by
  show (if f || far y b then bestL far false y (r++[x]) else bestL far f b (r++[x]))=if (f&&false) || far x (if f || far y b then bestL far false y r else bestL far f b r) then x else (if f || far y b then bestL far false y r else bestL far f b r)
  rw [Bool.and_false,Bool.false_or]
  by_cases h:(f || far y b)=true
  ·rw [if_pos h,if_pos h,bestL_snoc far x r false y,Bool.false_and,Bool.false_or]
  ·rw [if_neg h,if_neg h]
   have hf:f=false:=by cases f<;>simp_all
   subst hf
   rw [bestL_snoc far x r false b,Bool.false_and,Bool.false_or]
def bK (side:Bool)(st:Int)(ps:List Pt)(f n:Int)(k:Nat):Int:=bestL (farB side) true 0 ((fsK st ps k).map (sumI side f n ps))
theorem bK_yes {side:Bool}{st:Int}{ps:List Pt}{f n:Int}{k:Nat}(h:goodL (peakAt st ps k)=true) :
  bK side st ps f n (k+1)=if (fsK st ps k).isEmpty || farB side (sumI side f n ps (peakAt st ps k)) (bK side st ps f n k) then sumI side f n ps (peakAt st ps k) else bK side st ps f n k:=by
 unfold bK
 rw [fsK_yes h,List.map_append,List.map_cons,List.map_nil,bestL_snoc,Bool.true_and]
 congr 2
 cases fsK st ps k<;>rfl
theorem bK_no {side:Bool}{st:Int}{ps:List Pt}{f n:Int}{k:Nat}(h:goodL (peakAt st ps k)=false):bK side st ps f n (k+1)=bK side st ps f n k:=by unfold bK;rw [fsK_no h]
theorem peak_SB {st:Int}(hst:0≤st){ps:List Pt}(h:CP ps){k:Nat}(hk:k<ps.length):∀s∈peakAt st ps k,SB s:=by
 rw [pk_eq st hk]
 intro s hs
 obtain ⟨i,hi,rfl⟩:=List.mem_map.1 hs
 have hi:=List.mem_range.1 hi
 unfold pkF
 split
 ·exact BK_SB hst h hk (by omega)
 ·exact FW_SB hst h (by omega)
theorem span_SB {f:Int}{ps:List Pt}{l:List Go.Li.Span}(h:∀s∈l,SB s):SB (spanAt f ps l):=by
 unfold spanAt
 split
 ·rw [List.getD_eq_getElem?_getD]
  cases ho:l[ownI f ps]? with
  |none=>exact ⟨⟨by decide,by decide⟩,by decide,by decide⟩
  |some s=>exact h s (List.mem_of_getElem? ho)
 ·exact ⟨⟨by decide,by decide⟩,by decide,by decide⟩
theorem of_bd {side:Bool}{s:Go.Li.Span}(h:SB s):-1000≤ofSide side s∧ofSide side s≤1000:=by
 cases side
 ·exact h.1
 ·exact h.2
theorem sum_bd {side:Bool}{f n:Int}{ps:List Pt}{l:List Go.Li.Span}(hn:0≤n∧n≤1073741824)(h:SB (spanAt f ps l)):0≤sumI side f n ps l∧sumI side f n ps l≤2147483648000:=by
 have:=of_bd (side:=side) h
 have m:=mulN (a:=n) (b:=1000+ofSide side (spanAt f ps l)) (A:=1073741824) (B:=2000) hn (by omega)
 exact m
theorem c_Shown_2_0 (f n:Int)(hn:0≤n∧n≤1073741824)(ps:List Pt)(hp:CP ps)(l:List Go.Li.Span)(hb:SB (spanAt f ps l))(ho:ps.any (fun p=>p.fl==f)=true→ownI f ps<l.length):Con Try.prog 26 [.leaf (.d (sksD l)),.leaf (.d (.pt [dwsD [(f,n)]])),.leaf (.ptr 907 0),.leaf (.d (.pt (endD false)))] [(907,.cells [.obj 908]),(908,.map ((mI ps ps.length).map encL))] (.ret (.int (sumI false f n ps l)) [(907,.cells [.obj 908]),(908,.map ((mI ps ps.length).map encL))]):=by
 have hlk:=mI_find hp f
 have hbd:=of_bd (side:=false) hb
 have hsb:=sum_bd (side:=false) hn hb
 have hsum:sumI false f n ps l=n*(1000+ofSide false (spanAt f ps l)):=rfl
 have hof:ofSide false (spanAt f ps l)=(spanAt f ps l).lo:=rfl
 have hh:endD false=[.fn 50 [],.fn 51 [],.fn 48 []]:=rfl
 rw [hsum,hof] at hsb
 rw [hof] at hbd
 rw [hsum,hof,hh]
 refine con_of follows_mixed Try.func26 rfl (by simp only [List.length_cons,List.length_nil,Try.ntmps26];omega) V215 rfl ?_
 refine Exec.reg ?_
 refine Run.o1 V189 ?_
 refine Run.nil ?_
 refine Exec.assocS ?_
 refine Exec.reg ?_
 iterate 3 (refine Run.o1 V189 ?_)
 refine Run.nil ?_
 refine Exec.blk ?_
 refine Exec.forA [0,2,3,5,11,12,13] [907,908] (1) (fun k=>[.slot 13 (.int k),.slot 5 (.int (if k=0 then 0 else n*(1000+(spanAt f ps l).lo)))]) (fun _=>True) (fun k=>by simp only [go_sem]<;>rfl) (by simp only [go_sem,Int.zero_add,Int.natCast_zero,if_true]<;>rfl) ?_ (fun k hk hX=>?_)
 ·trivial
 ·skip
  refine Exec.reg ?_
  refine Run.o1 V189 ?_
  refine Run.nil ?_
  refine Exec.cndS V189 (fun hb14=>?_) (fun hb14=>?_)
  ·skip
   have hk0:k=0:=by have:=of_decide_eq_true hb14;simp at this;omega
   subst hk0
   refine Exec.skipS ?_
   refine Exec.blk ?_
   refine Exec.reg ?_
   refine Run.o1 V18 ?_
   iterate 3 (refine Run.o1 V92 ?_)
   refine Run.nil ?_
   refine Exec.reg ?_
   refine Run.c1 (c_still) V92 V92 ?_
   iterate 2 (refine Run.o1 V92 ?_)
   refine Run.nil ?_
   refine Exec.assocS ?_
   by_cases ha:ps.any (fun p=>p.fl==f)=true
   ·skip
    rw [if_pos ha] at hlk
    have hmg:mapGet 0 (.int .i64 f) ((mI ps ps.length).map encL)=some (some (false,[.d (.i (ownI f ps))])):=by rw [mL_get,hlk];rfl
    obtain ⟨s,hs⟩:∃s,l[ownI f ps]? = some s:=⟨_,List.getElem?_eq_getElem (ho ha)⟩
    have hsp:spanAt f ps l=s:=by unfold spanAt;rw [if_pos ha,getD_of hs]
    rw [hsp] at hbd hsb
    refine Exec.reg ?_
    iterate 9 (refine Run.o1 V64 ?_)
    refine Run.nil ?_
    refine Exec.assocS ?_
    refine Exec.reg ?_
    refine Run.o1 V64 ?_
    refine Run.nil ?_
    refine Exec.cndS V64 (fun hb25=>?_) (fun hb25=>?_)
    ·skip
     refine Exec.reg ?_
     iterate 2 (refine Run.o1 V64 ?_)
     refine Run.o1 V14 ?_
     iterate 2 (refine Run.o1 V64 ?_)
     refine Run.nil ?_
     refine Exec.opk1 13 ?_
     iterate 6 (refine OpenK.o1 V64 ?_)
     refine OpenK.calw V208 (c_of0 s) V210 V64 V64 V96 (fr0) V64 V208 V208 ?_
     iterate 3 (refine OpenK.o1 V23 ?_)
     refine OpenK.o1 V64 ?_
     refine OpenK.nil (OpenE.fin V212 V212 ?_)
     refine BlkK.nrm ?_
     refine Exec.reg1 ?_
     refine Run.o1 V23 ?_
     refine Run.o1 V64 ?_
     refine Run.nil ?_
     refine ForK.nxt ?_ ?_ ?_
     ·omega
     ·exact Ghost.kp [0,2,3,5,11,12,13] [907,908] V58
     ·trivial
    ·exact absurd hb25 (by simp)
   ·skip
    rw [if_neg ha] at hlk
    have hmg:mapGet 0 (.int .i64 f) ((mI ps ps.length).map encL)=some none:=by rw [mL_get,hlk];rfl
    have hsp:spanAt f ps l=stillS:=by unfold spanAt;rw [if_neg ha]
    rw [hsp] at hbd hsb
    refine Exec.reg ?_
    iterate 9 (refine Run.o1 V81 ?_)
    refine Run.nil ?_
    refine Exec.assocS ?_
    refine Exec.reg ?_
    refine Run.o1 V81 ?_
    refine Run.nil ?_
    refine Exec.cndS V81 (fun hb25=>?_) (fun hb25=>?_)
    ·exact absurd hb25 (by simp)
    ·skip
     refine Exec.skipS ?_
     refine Exec.opk1 13 ?_
     iterate 6 (refine OpenK.o1 V81 ?_)
     refine OpenK.calw V208 (c_of0 stillS) V210 V81 V81 V96 (fr0) V81 V208 V208 ?_
     iterate 3 (refine OpenK.o1 V26 ?_)
     refine OpenK.o1 V81 ?_
     refine OpenK.nil (OpenE.fin V212 V212 ?_)
     refine BlkK.nrm ?_
     refine Exec.reg1 ?_
     refine Run.o1 V26 ?_
     refine Run.o1 V81 ?_
     refine Run.nil ?_
     refine ForK.nxt ?_ ?_ ?_
     ·omega
     ·exact Ghost.kp [0,2,3,5,11,12,13] [907,908] V65
     ·trivial
  ·skip
   have hk1:k=1:=by have:=of_decide_eq_false hb14;simp at this;omega
   subst hk1
   have h10:¬(1:Nat)=0:=by decide
   refine Exec.exitS ?_
   refine ForK.ext ?_
   refine BlkK.hit ?_
   refine Exec.reg ?_
   iterate 2 (refine Run.o1 V154 ?_)
   refine Run.nil ?_
   exact Ends.fin [907,908] (rs:=[.tmp 5]) rfl V154 (by simp only [go_sem,Int.zero_add,h10,if_false]<;>first|rfl|exact eqz)
theorem c_Shown_2_1 (f n:Int)(hn:0≤n∧n≤1073741824)(ps:List Pt)(hp:CP ps)(l:List Go.Li.Span)(hb:SB (spanAt f ps l))(ho:ps.any (fun p=>p.fl==f)=true→ownI f ps<l.length):Con Try.prog 26 [.leaf (.d (sksD l)),.leaf (.d (.pt [dwsD [(f,n)]])),.leaf (.ptr 907 0),.leaf (.d (.pt (endD true)))] [(907,.cells [.obj 908]),(908,.map ((mI ps ps.length).map encL))] (.ret (.int (sumI true f n ps l)) [(907,.cells [.obj 908]),(908,.map ((mI ps ps.length).map encL))]):=by
 have hlk:=mI_find hp f
 have hbd:=of_bd (side:=true) hb
 have hsb:=sum_bd (side:=true) hn hb
 have hsum:sumI true f n ps l=n*(1000+ofSide true (spanAt f ps l)):=rfl
 have hof:ofSide true (spanAt f ps l)=(spanAt f ps l).hi:=rfl
 have hh:endD true=[.fn 52 [],.fn 53 [],.fn 49 [.pt [.fn 48 []]]]:=rfl
 rw [hsum,hof] at hsb
 rw [hof] at hbd
 rw [hsum,hof,hh]
 refine con_of follows_mixed Try.func26 rfl (by simp only [List.length_cons,List.length_nil,Try.ntmps26];omega) V215 rfl ?_
 refine Exec.reg ?_
 refine Run.o1 V189 ?_
 refine Run.nil ?_
 refine Exec.assocS ?_
 refine Exec.reg ?_
 iterate 3 (refine Run.o1 V189 ?_)
 refine Run.nil ?_
 refine Exec.blk ?_
 refine Exec.forA [0,2,3,5,11,12,13] [907,908] (1) (fun k=>[.slot 13 (.int k),.slot 5 (.int (if k=0 then 0 else n*(1000+(spanAt f ps l).hi)))]) (fun _=>True) (fun k=>by simp only [go_sem]<;>rfl) (by simp only [go_sem,Int.zero_add,Int.natCast_zero,if_true]<;>rfl) ?_ (fun k hk hX=>?_)
 ·trivial
 ·skip
  refine Exec.reg ?_
  refine Run.o1 V189 ?_
  refine Run.nil ?_
  refine Exec.cndS V189 (fun hb14=>?_) (fun hb14=>?_)
  ·skip
   have hk0:k=0:=by have:=of_decide_eq_true hb14;simp at this;omega
   subst hk0
   refine Exec.skipS ?_
   refine Exec.blk ?_
   refine Exec.reg ?_
   refine Run.o1 V18 ?_
   iterate 3 (refine Run.o1 V92 ?_)
   refine Run.nil ?_
   refine Exec.reg ?_
   refine Run.c1 (c_still) V92 V92 ?_
   iterate 2 (refine Run.o1 V92 ?_)
   refine Run.nil ?_
   refine Exec.assocS ?_
   by_cases ha:ps.any (fun p=>p.fl==f)=true
   ·skip
    rw [if_pos ha] at hlk
    have hmg:mapGet 0 (.int .i64 f) ((mI ps ps.length).map encL)=some (some (false,[.d (.i (ownI f ps))])):=by rw [mL_get,hlk];rfl
    obtain ⟨s,hs⟩:∃s,l[ownI f ps]? = some s:=⟨_,List.getElem?_eq_getElem (ho ha)⟩
    have hsp:spanAt f ps l=s:=by unfold spanAt;rw [if_pos ha,getD_of hs]
    rw [hsp] at hbd hsb
    refine Exec.reg ?_
    iterate 9 (refine Run.o1 V64 ?_)
    refine Run.nil ?_
    refine Exec.assocS ?_
    refine Exec.reg ?_
    refine Run.o1 V64 ?_
    refine Run.nil ?_
    refine Exec.cndS V64 (fun hb25=>?_) (fun hb25=>?_)
    ·skip
     refine Exec.reg ?_
     iterate 2 (refine Run.o1 V64 ?_)
     refine Run.o1 V14 ?_
     iterate 2 (refine Run.o1 V64 ?_)
     refine Run.nil ?_
     refine Exec.opk1 13 ?_
     iterate 6 (refine OpenK.o1 V64 ?_)
     refine OpenK.calw V208 (c_of1 s) V210 V64 V64 V96 (fr0) V64 V208 V208 ?_
     iterate 3 (refine OpenK.o1 V23 ?_)
     refine OpenK.o1 V64 ?_
     refine OpenK.nil (OpenE.fin V212 V212 ?_)
     refine BlkK.nrm ?_
     refine Exec.reg1 ?_
     refine Run.o1 V23 ?_
     refine Run.o1 V64 ?_
     refine Run.nil ?_
     refine ForK.nxt ?_ ?_ ?_
     ·omega
     ·exact Ghost.kp [0,2,3,5,11,12,13] [907,908] V58
     ·trivial
    ·exact absurd hb25 (by simp)
   ·skip
    rw [if_neg ha] at hlk
    have hmg:mapGet 0 (.int .i64 f) ((mI ps ps.length).map encL)=some none:=by rw [mL_get,hlk];rfl
    have hsp:spanAt f ps l=stillS:=by unfold spanAt;rw [if_neg ha]
    rw [hsp] at hbd hsb
    refine Exec.reg ?_
    iterate 9 (refine Run.o1 V81 ?_)
    refine Run.nil ?_
    refine Exec.assocS ?_
    refine Exec.reg ?_
    refine Run.o1 V81 ?_
    refine Run.nil ?_
    refine Exec.cndS V81 (fun hb25=>?_) (fun hb25=>?_)
    ·exact absurd hb25 (by simp)
    ·skip
     refine Exec.skipS ?_
     refine Exec.opk1 13 ?_
     iterate 6 (refine OpenK.o1 V81 ?_)
     refine OpenK.calw V208 (c_of1 stillS) V210 V81 V81 V96 (fr0) V81 V208 V208 ?_
     iterate 3 (refine OpenK.o1 V26 ?_)
     refine OpenK.o1 V81 ?_
     refine OpenK.nil (OpenE.fin V212 V212 ?_)
     refine BlkK.nrm ?_
     refine Exec.reg1 ?_
     refine Run.o1 V26 ?_
     refine Run.o1 V81 ?_
     refine Run.nil ?_
     refine ForK.nxt ?_ ?_ ?_
     ·omega
     ·exact Ghost.kp [0,2,3,5,11,12,13] [907,908] V65
     ·trivial
  ·skip
   have hk1:k=1:=by have:=of_decide_eq_false hb14;simp at this;omega
   subst hk1
   have h10:¬(1:Nat)=0:=by decide
   refine Exec.exitS ?_
   refine ForK.ext ?_
   refine BlkK.hit ?_
   refine Exec.reg ?_
   iterate 2 (refine Run.o1 V154 ?_)
   refine Run.nil ?_
   exact Ends.fin [907,908] (rs:=[.tmp 5]) rfl V154 (by simp only [go_sem,Int.zero_add,h10,if_false]<;>first|rfl|exact eqz)
end Go.Mw

/- Contracts of the functions that the litres reach: peaks, for what is shown. -/
import Derived.Test.YtkpacnlinpbinaaD1
import Derived.Test.YtkpacnlinpbinaaB9
import Derived.Test.YtkpacnlinpbinaaB6
import Derived.Test.YtkpacnlinpbinaaB7
set_option maxRecDepth 20000
set_option maxHeartbeats 32000000
set_option linter.unusedSimpArgs false
set_option linter.unusedVariables false
set_option linter.unusedSectionVars false
set_option linter.deprecated false
namespace Go.Mw
open Go.Proofs
open Go.Li
theorem c_Shown_3_0 (f n:Int)(hn:0≤n∧n≤1073741824)(ps:List Pt)(hp:CP ps)(i:Int)(l:List Go.Li.Span)(hb:SB (spanAt f ps l))(ho:ps.any (fun p=>p.fl==f)=true→ownI f ps<l.length)(fb:Bool)(z:Int):Con Try.prog 29 [.int i,.leaf (.d (sksD l)),.leaf (.ptr 905 0),.leaf (.ptr 904 0),.leaf (.d (.pt (endD false))),.leaf (.ptr 903 0)] [(905,.cells [.obj 906]),(906,.clo 26 [.d (.pt [dwsD [(f,n)]]),.ptr 907 0,.d (.pt (endD false))]),(907,.cells [.obj 908]),(908,.map ((mI ps ps.length).map encL)),(904,.cells [.d (.bo fb)]),(903,.cells [.d (.i z)])] (.ret (.tup []) [(905,.cells [.obj 906]),(906,.clo 26 [.d (.pt [dwsD [(f,n)]]),.ptr 907 0,.d (.pt (endD false))]),(907,.cells [.obj 908]),(908,.map ((mI ps ps.length).map encL)),(904,.cells [.d (.bo false)]),(903,.cells [.d (.i (if (fb || farB false (sumI false f n ps l) z)=true then (sumI false f n ps l) else z))])]):=by
 refine con_of follows_mixed Try.func29 rfl (by simp only [List.length_cons,List.length_nil,Try.ntmps29];omega) V215 rfl ?_
 refine Exec.reg ?_
 iterate 2 (refine Run.o ?_)
 refine Run.lendG [(907,907),(908,908)] V208 (c_Shown_2_0 f n hn ps hp l hb ho) V210 (.inr ⟨906,by simp only [go_sem]<;>rfl,by simp only [go_sem]<;>rfl⟩) V208 V2 rfl (by decide) V60 V57 V61 V101 V208 ?_
 refine Run.o ?_
 refine Run.nil ?_
 by_cases hfb:fb=true
 ·skip
  subst hfb
  refine Exec.reg ?_
  iterate 2 (refine Run.o1 V168 ?_)
  iterate 5 (refine Run.s ?_)
  refine Run.o1 V168 ?_
  refine Run.nil ?_
  refine Exec.cnd V168 (fun hb19=>?_) (fun hb19=>?_)
  ·skip
   refine Exec.reg1 ?_
   iterate 3 (refine Run.o1 V168 ?_)
   refine Run.nil ?_
   exact Ends.fin0 [905,906,907,908,904,903] (rs:=[]) rfl V168 (by simp only [go_sem,Bool.true_or,if_true]<;>first|rfl|exact eqz)
  ·exact absurd hb19 (by simp)
 ·skip
  have hfb:fb=false:=by simpa using hfb
  subst hfb
  refine Exec.reg ?_
  iterate 2 (refine Run.o1 V185 ?_)
  iterate 4 (refine Run.y1 V185 ?_)
  refine Run.calw V208 (c_far0 (sumI false f n ps l) z) V210 V185 V185 V31 (fr0) V185 ?_
  refine Run.o1 V185 ?_
  refine Run.nil ?_
  refine Exec.cnd V185 (fun hb19=>?_) (fun hb19=>?_)
  ·skip
   have hfar:farB false (sumI false f n ps l) z=true:=hb19
   refine Exec.reg1 ?_
   iterate 3 (refine Run.o1 V153 ?_)
   refine Run.nil ?_
   exact Ends.fin0 [905,906,907,908,904,903] (rs:=[]) rfl V153 (by simp only [go_sem,Bool.false_or,hfar,if_true]<;>first|rfl|exact eqz)
  ·skip
   have hfar:farB false (sumI false f n ps l) z=false:=hb19
   have hff:¬(false=true):=by decide
   exact Ends.fin0 [905,906,907,908,904,903] (rs:=[]) rfl (by simp only [go_sem,Bool.false_or,hfar,hff,if_false]<;>rfl) (by simp only [go_sem,Bool.false_or,hfar,hff,if_false]<;>first|rfl|exact eqz)
theorem c_peaks_s0 (st:Int)(hst:0≤st∧st≤1000)(ps:List Pt)(hp:CP ps)(f n:Int)(hn:0≤n∧n≤1073741824):Con Try.prog 28 [.leaf (.d (chP st ps)),.leaf (.obj 901)] [(901,.clo 29 [.ptr 905 0,.ptr 904 0,.d (.pt (endD false)),.ptr 903 0]),(905,.cells [.obj 906]),(906,.clo 26 [.d (.pt [dwsD [(f,n)]]),.ptr 907 0,.d (.pt (endD false))]),(907,.cells [.obj 908]),(908,.map ((mI ps ps.length).map encL)),(904,.cells [.d (.bo (fsK st ps 0).isEmpty)]),(903,.cells [.d (.i (bK false st ps f n 0))])] (.ret (.tup []) [(901,.clo 29 [.ptr 905 0,.ptr 904 0,.d (.pt (endD false)),.ptr 903 0]),(905,.cells [.obj 906]),(906,.clo 26 [.d (.pt [dwsD [(f,n)]]),.ptr 907 0,.d (.pt (endD false))]),(907,.cells [.obj 908]),(908,.map ((mI ps ps.length).map encL)),(904,.cells [.d (.bo (fsK st ps ps.length).isEmpty)]),(903,.cells [.d (.i (bK false st ps f n ps.length))])]):=by
 have hpl:=hp.len
 have hlu:=sideU_len st ps ps.length
 have hld:=sideD_len st ps ps.length
 refine con_of follows_mixed Try.func28 rfl V145 V215 rfl ?_
 refine Exec.scp ?_
 refine Exec.reg ?_
 refine Run.o1 V156 ?_
 refine Run.c1 (c_side_u st hst ps hp) V156 V156 ?_
 refine Run.o1 V156 ?_
 refine Run.c1 (c_side_d st hst ps hp) V156 V156 ?_
 iterate 2 (refine Run.o1 V156 ?_)
 refine Run.nil ?_
 refine Exec.reg ?_
 iterate 3 (refine Run.o1 V156 ?_)
 refine Run.nil ?_
 refine Exec.lblS ?_
 refine Exec.reg ?_
 iterate 6 (refine Run.o1 V156 ?_)
 refine Run.nil ?_
 refine Exec.blk1 ?_
 refine Exec.forA [0,1,4,5,6,24,25] [901,905,906,907,908,904,903,19] (ps.length) (fun k=>[.slot 25 (.int k),.obj 901 (.clo 29 [.ptr 905 0,.ptr 904 0,.d (.pt (endD false)),.ptr 903 0]),.obj 905 (.cells [.obj 906]),.obj 906 (.clo 26 [.d (.pt [dwsD [(f,n)]]),.ptr 907 0,.d (.pt (endD false))]),.obj 907 (.cells [.obj 908]),.obj 908 (.map ((mI ps ps.length).map encL)),.obj 904 (.cells [.d (.bo (fsK st ps k).isEmpty)]),.obj 903 (.cells [.d (.i (bK false st ps f n k))])]) (fun _=>True) (fun k=>by simp only [go_sem]<;>rfl) V140 ?_ (fun k hk hX=>?_)
 ·trivial
 ·skip
  refine Exec.reg ?_
  refine Run.o1 V156 ?_
  refine Run.nil ?_
  refine Exec.cndS V156 (fun hb26=>?_) (fun hb26=>?_)
  ·skip
   have hk0:k<ps.length:=by simpa using lt_of_dec hb26
   have tk:(k:Int).toNat=k:=Int.toNat_natCast k
   refine Exec.skipS ?_
   refine Exec.blk ?_
   refine Exec.reg ?_
   iterate 2 (refine Run.o1 V151 ?_)
   refine Run.nil ?_
   refine Exec.reg ?_
   iterate 5 (refine Run.o1 V151 ?_)
   refine Run.o1 V75 ?_
   refine Run.o1 V151 ?_
   refine Run.nil ?_
   refine Exec.assocS ?_
   refine Exec.reg ?_
   iterate 3 (refine Run.o1 V151 ?_)
   refine Run.nil ?_
   refine Exec.blk ?_
   refine Exec.forA [0,1,4,5,6,7,8,24,25,35,36] [901,905,906,907,908,904,903,19,33] (ps.length) (fun j=>[.slot 36 (.int j),.obj 33 (.arr 40 2 ((F1 st ps k j).map encSp))]) (fun _=>True) (fun j=>by simp only [go_sem]<;>rfl) V115 ?_ (fun j hj Xj=>?_)
   ·trivial
   ·skip
    refine Exec.reg ?_
    refine Run.o1 V151 ?_
    refine Run.nil ?_
    refine Exec.cndS V151 (fun hb37=>?_) (fun hb37=>?_)
    ·skip
     have hj0:j<ps.length:=by have:=of_decide_eq_true hb37;omega
     have tj:(j:Int).toNat=j:=Int.toNat_natCast j
     have hl1:=F1_len st ps k j
     have hu_j:(sideU st ps ps.length)[j]? = some (SU st ps j):=by rw [sideU_all,rgM_get (by omega)]
     have hd_j:(sideD st ps ps.length)[j]? = some (SD st ps j):=by rw [sideD_all,rgM_get (by omega)]
     have hg0:(F1 st ps k j)[j]? = some ⟨0,0⟩:=by unfold F1;rw [rgM_get hj0,if_neg (by omega)]
     have hgs:((List.map encSp (F1 st ps k j)).set j [.i (SU st ps j).lo,.i (SU st ps j).hi])[j]? = some [.i (SU st ps j).lo,.i (SU st ps j).hi]:=List.getElem?_set_self (by rw [List.length_map,hl1];omega)
     refine Exec.skipS ?_
     refine Exec.blk ?_
     refine Exec.reg ?_
     iterate 2 (refine Run.o1 V112 ?_)
     refine Run.nil ?_
     refine Exec.reg ?_
     iterate 4 (refine Run.o1 V112 ?_)
     refine Run.o1 V30 ?_
     refine Run.o1 V112 ?_
     refine Run.o1 V30 ?_
     refine Run.o1 V112 ?_
     refine Run.nil ?_
     refine Exec.reg ?_
     iterate 3 (refine Run.o1 V112 ?_)
     refine Run.nil ?_
     refine Exec.cnd V112 (fun hb48=>?_) (fun hb48=>?_)
     ·skip
      have hgt:j>k:=by have:=of_decide_eq_true hb48;omega
      have hst2:=congrArg (List.map encSp) (F1_yes st (ps:=ps) hgt)
      refine Exec.reg1 ?_
      iterate 4 (refine Run.o1 V112 ?_)
      refine Run.o1 V30 ?_
      refine Run.o1 V112 ?_
      refine Run.o1 V30 ?_
      refine Run.o1 V112 ?_
      refine Run.nil ?_
      refine BlkK.nrm ?_
      refine Exec.reg1 ?_
      refine Run.o1 V41 ?_
      refine Run.o1 V112 ?_
      refine Run.nil ?_
      refine ForK.nxt ?_ ?_ ?_
      ·omega
      ·exact Ghost.kp [0,1,4,5,6,7,8,24,25,35,36] [901,905,906,907,908,904,903,19,33] V10
      ·trivial
     ·skip
      have hgt:¬j>k:=by have:=of_decide_eq_false hb48;omega
      have hst2:=congrArg (List.map encSp) (F1_no st (ps:=ps) hgt)
      refine BlkK.nrm ?_
      refine Exec.reg1 ?_
      refine Run.o1 V41 ?_
      refine Run.o1 V112 ?_
      refine Run.nil ?_
      refine ForK.nxt ?_ ?_ ?_
      ·omega
      ·exact Ghost.kp [0,1,4,5,6,7,8,24,25,35,36] [901,905,906,907,908,904,903,19,33] V12
      ·trivial
    ·skip
     have hje:j=ps.length:=by have:=of_decide_eq_false hb37;omega
     subst hje
     have hl1:=F1_len st ps k ps.length
     refine Exec.exitS ?_
     refine ForK.ext ?_
     refine BlkK.hit ?_
     refine Exec.opk 15 ?_
     have hu_k:(sideU st ps ps.length)[k]? = some (SU st ps k):=by rw [sideU_all,rgM_get (by omega)]
     have hd_k:(sideD st ps ps.length)[k]? = some (SD st ps k):=by rw [sideD_all,rgM_get (by omega)]
     have hga:(F1 st ps k ps.length)[k]? = some (SU st ps k):=by unfold F1;rw [rgM_get hk0,if_pos hk0,if_neg (by omega)]
     have hst3:(List.map encSp (F1 st ps k ps.length)).set k [.i (both (SU st ps k) (SD st ps k)).lo,.i (both (SU st ps k) (SD st ps k)).hi]=List.map encSp (F2 st ps k 0):=by rw [←F1_top,List.map_set];rfl
     iterate 4 (refine OpenK.o1 V128 ?_)
     refine OpenK.o1 V45 ?_
     iterate 3 (refine OpenK.o1 V128 ?_)
     refine OpenK.o1 V45 ?_
     refine OpenK.o1 V128 ?_
     refine OpenK.cal (c_both (SU st ps k) (SD st ps k)) V210 V128 V31 (fr0) V128 V208 V208 ?_
     refine OpenK.o1 V45 ?_
     refine OpenK.o1 V128 ?_
     refine OpenK.nil (OpenE.fin V212 V212 ?_)
     refine Exec.assocS ?_
     refine Exec.reg ?_
     iterate 2 (refine Run.o1 V128 ?_)
     refine Run.nil ?_
     refine Exec.blk ?_
     refine Exec.forA [0,1,4,5,6,7,8,10,24,25] [901,905,906,907,908,904,903,19,33] (k) (fun j=>[.slot 10 (.int ((k:Int)-j)),.obj 33 (.arr 40 2 ((F2 st ps k j).map encSp))]) (fun _=>True) (fun j=>by simp only [go_sem]<;>rfl) V106 ?_ (fun j hj Xj=>?_)
     ·trivial
     ·skip
      refine Exec.assocS ?_
      refine Exec.reg ?_
      iterate 2 (refine Run.o1 V128 ?_)
      refine Run.nil ?_
      refine Exec.cndS V128 (fun hb71=>?_) (fun hb71=>?_)
      ·skip
       have hj0:j<k:=by have:=of_decide_eq_true hb71;omega
       have hl2:=F2_len st ps k j
       have t1:((k:Int)-(j:Int)).toNat=k-j:=by omega
       have t2:((k:Int)-(j:Int)-1).toNat=k-j-1:=by omega
       have hga:(F2 st ps k j)[k-j-1]? = some (SU st ps (k-j-1)):=by unfold F2;rw [rgM_get (by omega),if_neg (by omega),if_neg (by omega)]
       have hgb:(F2 st ps k j)[k-j]? = some (BK st ps k j):=by unfold F2;rw [rgM_get (by omega),if_neg (by omega),if_pos (by omega),show k-(k-j)=j by omega]
       have hp1:=pAt_get (ps:=ps) (i:=k-j) (by omega)
       have hp2:=pAt_get (ps:=ps) (i:=k-j-1) (by omega)
       have hf1:=hp.fl _ (pAt_mem (ps:=ps) (i:=k-j) (by omega))
       have hf2:=hp.fl _ (pAt_mem (ps:=ps) (i:=k-j-1) (by omega))
       have hord:=pAt_lt hp (i:=k-j-1) (j:=k-j) (by omega) (by omega)
       have hsb:=BK_SB hst.1 hp hk0 (j:=j) (by omega)
       have hbk:both (SU st ps (k-j-1)) ⟨(BK st ps k j).lo-st*((pAt ps (k-j)).fl-(pAt ps (k-j-1)).fl),(BK st ps k j).hi⟩=BK st ps k (j+1):=by
        show _=both (SU st ps (k-1-j)) ⟨(BK st ps k j).lo-st*((pAt ps (k-j)).fl-(pAt ps (k-1-j)).fl),(BK st ps k j).hi⟩
        rw [show k-1-j=k-j-1 by omega]
       have hst2:=congrArg (List.map encSp) (F2_set st (ps:=ps) hj0)
       refine Exec.skipS ?_
       refine Exec.blk ?_
       refine Exec.opk1 36 ?_
       iterate 2 (refine OpenK.o1 V99 ?_)
       refine OpenK.o1 V34 ?_
       iterate 2 (refine OpenK.o1 V99 ?_)
       refine OpenK.o1 V34 ?_
       refine OpenK.o1 V22 ?_
       iterate 4 (refine OpenK.o1 V99 ?_)
       refine OpenK.o1 V22 ?_
       iterate 6 (refine OpenK.o1 V99 ?_)
       refine OpenK.o1 V22 ?_
       iterate 7 (refine OpenK.o1 V99 ?_)
       refine OpenK.o1 V34 ?_
       refine OpenK.o1 V22 ?_
       iterate 2 (refine OpenK.o1 V99 ?_)
       refine OpenK.calm (c:=19) V208 (c_fall st ps (BK st ps k j) (pAt ps (k-j)).fl (pAt ps (k-j-1)).fl hst hsb (by omega) (by omega) (by omega)) V210 V208 V208 V99 V141 V208 V208 V208 ?_
       refine OpenK.cal (c_both (SU st ps (k-j-1)) ⟨(BK st ps k j).lo-st*((pAt ps (k-j)).fl-(pAt ps (k-j-1)).fl),(BK st ps k j).hi⟩) V210 V99 V31 (fr0) V99 V208 V208 ?_
       refine OpenK.o1 V22 ?_
       refine OpenK.o1 V99 ?_
       refine OpenK.nil (OpenE.finT V215 V215 V215 ?_)
       refine BlkK.nrm ?_
       refine Exec.reg1 ?_
       refine Run.o1 V99 ?_
       refine Run.o1 V34 ?_
       refine Run.o1 V99 ?_
       refine Run.nil ?_
       refine ForK.nxt ?_ ?_ ?_
       ·omega
       ·exact Ghost.kp [0,1,4,5,6,7,8,10,24,25] [901,905,906,907,908,904,903,19,33] V7
       ·trivial
      ·skip
       have hje:j=k:=by have:=of_decide_eq_false hb71;omega
       rw [hje]
       have hF:=F2_end st ps k
       refine Exec.exitS ?_
       refine ForK.ext ?_
       refine BlkK.hit ?_
       refine Exec.assocS ?_
       refine Exec.reg ?_
       iterate 2 (refine Run.o1 V124 ?_)
       refine Run.nil ?_
       refine Exec.blk ?_
       refine Exec.forA [0,1,4,5,6,7,8,11,24,25] [901,905,906,907,908,904,903,19,33] (ps.length-1-k) (fun j=>[.slot 11 (.int ((k:Int)+j)),.obj 33 (.arr 40 2 ((F3 st ps k j).map encSp))]) (fun _=>True) (fun j=>by simp only [go_sem]<;>rfl) V104 ?_ (fun j hj Xj=>?_)
       ·trivial
       ·skip
        have hl3:=F3_len st ps k j
        refine Exec.assocS ?_
        refine Exec.reg ?_
        refine Run.o1 V120 ?_
        refine Run.o1 V49 ?_
        iterate 3 (refine Run.o1 V120 ?_)
        refine Run.nil ?_
        refine Exec.cndS V120 (fun hb112=>?_) (fun hb112=>?_)
        ·skip
         have hj0:k+j+1<ps.length:=by have:=of_decide_eq_true hb112;omega
         have t1:((k:Int)+(j:Int)).toNat=k+j:=by omega
         have t2:((k:Int)+(j:Int)+1).toNat=k+j+1:=by omega
         have hga:(F3 st ps k j)[k+j+1]? = some (SD st ps (k+j+1)):=by unfold F3;rw [rgM_get (by omega),if_neg (by omega),if_neg (by omega)]
         have hgb:(F3 st ps k j)[k+j]? = some (FW st ps k j):=by
          unfold F3
          rw [rgM_get (by omega)]
          by_cases e:j=0
          ·rw [if_pos (by omega),show k-(k+j)=0 by omega,e];rfl
          ·rw [if_neg (by omega),if_pos (by omega),show k+j-k=j by omega]
         have hp1:=pAt_get (ps:=ps) (i:=k+j) (by omega)
         have hp2:=pAt_get (ps:=ps) (i:=k+j+1) (by omega)
         have hf1:=hp.fl _ (pAt_mem (ps:=ps) (i:=k+j) (by omega))
         have hf2:=hp.fl _ (pAt_mem (ps:=ps) (i:=k+j+1) (by omega))
         have hord:=pAt_lt hp (i:=k+j) (j:=k+j+1) (by omega) (by omega)
         have hsb:=FW_SB hst.1 hp (p:=k) (j:=j) (by omega)
         have hbk:both (SD st ps (k+j+1)) ⟨(FW st ps k j).lo-st*(-(pAt ps (k+j)).fl - -(pAt ps (k+j+1)).fl),(FW st ps k j).hi⟩=FW st ps k (j+1):=by
          show _=both (SD st ps (k+1+j)) ⟨(FW st ps k j).lo-st*((pAt ps (k+1+j)).fl-(pAt ps (k+j)).fl),(FW st ps k j).hi⟩
          rw [show k+1+j=k+j+1 by omega,show -(pAt ps (k+j)).fl - -(pAt ps (k+j+1)).fl=(pAt ps (k+j+1)).fl-(pAt ps (k+j)).fl by omega]
         have hst2:=congrArg (List.map encSp) (F3_set st (ps:=ps) (p:=k) (k:=j))
         refine Exec.skipS ?_
         refine Exec.blk ?_
         refine Exec.opk1 38 ?_
         iterate 2 (refine OpenK.o1 V98 ?_)
         refine OpenK.o1 V33 ?_
         iterate 2 (refine OpenK.o1 V98 ?_)
         refine OpenK.o1 V33 ?_
         refine OpenK.o1 V21 ?_
         iterate 4 (refine OpenK.o1 V98 ?_)
         refine OpenK.o1 V21 ?_
         iterate 6 (refine OpenK.o1 V98 ?_)
         refine OpenK.o1 V21 ?_
         iterate 2 (refine OpenK.o1 V98 ?_)
         refine OpenK.o1 V33 ?_
         iterate 5 (refine OpenK.o1 V98 ?_)
         refine OpenK.o1 V33 ?_
         refine OpenK.o1 V21 ?_
         iterate 2 (refine OpenK.o1 V98 ?_)
         refine OpenK.o1 V33 ?_
         refine OpenK.calm (c:=19) V208 (c_fall st ps (FW st ps k j) (-(pAt ps (k+j)).fl) (-(pAt ps (k+j+1)).fl) hst hsb (by omega) (by omega) (by omega)) V210 V208 V208 V98 V132 V208 V208 V208 ?_
         refine OpenK.cal (c_both (SD st ps (k+j+1)) ⟨(FW st ps k j).lo-st*(-(pAt ps (k+j)).fl - -(pAt ps (k+j+1)).fl),(FW st ps k j).hi⟩) V210 V98 V31 (fr0) V98 V208 V208 ?_
         refine OpenK.o1 V21 ?_
         refine OpenK.o1 V98 ?_
         refine OpenK.nil (OpenE.finT V215 V215 V215 ?_)
         refine BlkK.nrm ?_
         refine Exec.reg1 ?_
         refine Run.o1 V98 ?_
         refine Run.o1 V33 ?_
         refine Run.o1 V98 ?_
         refine Run.nil ?_
         refine ForK.nxt ?_ ?_ ?_
         ·omega
         ·exact Ghost.kp [0,1,4,5,6,7,8,11,24,25] [901,905,906,907,908,904,903,19,33] V6
         ·trivial
        ·skip
         have hje:j=ps.length-1-k:=by have:=of_decide_eq_false hb112;omega
         rw [hje]
         have hF3:=F3_end st hk0
         have hlp:=pk_len st hk0
         refine Exec.exitS ?_
         refine ForK.ext ?_
         refine BlkK.hit ?_
         refine Exec.assocS ?_
         refine Exec.reg ?_
         iterate 3 (refine Run.o1 V113 ?_)
         refine Run.nil ?_
         refine Exec.blk ?_
         refine Exec.forA [0,1,4,5,6,7,8,24,25,150,151,152] [901,905,906,907,908,904,903,19,33] (ps.length) (fun j=>[.slot 152 (.int j)]) (fun j=>∀i s,i<j→(peakAt st ps k)[i]? = some s→s.lo≤s.hi) (fun j=>by simp only [go_sem]<;>rfl) V102 ?_ (fun j hj Xj=>?_)
         ·exact fun i s hi=>absurd hi (by omega)
         ·skip
          refine Exec.reg ?_
          refine Run.o1 V113 ?_
          refine Run.nil ?_
          refine Exec.cndS V113 (fun hb153=>?_) (fun hb153=>?_)
          ·skip
           have hj0:j<ps.length:=by have:=of_decide_eq_true hb153;omega
           have tj:(j:Int).toNat=j:=Int.toNat_natCast j
           obtain ⟨s,hs⟩:∃s,(peakAt st ps k)[j]? = some s:=⟨_,List.getElem?_eq_getElem (by rw [hlp];exact hj0)⟩
           refine Exec.skipS ?_
           refine Exec.blk ?_
           refine Exec.reg ?_
           refine Run.o1 V25 ?_
           iterate 3 (refine Run.o1 V109 ?_)
           refine Run.nil ?_
           refine Exec.reg ?_
           iterate 5 (refine Run.o1 V109 ?_)
           refine Run.nil ?_
           refine Exec.cnd V109 (fun hb160=>?_) (fun hb160=>?_)
           ·skip
            have hgood:goodL (peakAt st ps k)=false:=good_no hs (of_decide_eq_true hb160)
            have hfs:=bK_no (side:=false) (f:=f) (n:=n) hgood
            have hfe:=fsK_no hgood
            refine BlkK.mis (by decide) ?_
            refine ForK.ext ?_
            refine BlkK.mis (by decide) ?_
            refine BlkK.hit ?_
            refine Exec.reg1 ?_
            refine Run.o1 V35 ?_
            refine Run.o1 V103 ?_
            refine Run.nil ?_
            refine ForK.nxt ?_ ?_ ?_
            ·omega
            ·exact Ghost.kp [0,1,4,5,6,24,25] [901,905,906,907,908,904,903,19] V88
            ·trivial
           ·skip
            have hns:¬s.lo>s.hi:=of_decide_eq_false hb160
            have hXn:∀i s,i<j+1→(peakAt st ps k)[i]? = some s→s.lo≤s.hi:=fun i u hi hu=>by
             by_cases e:i=j
             ·subst e;rw [hs] at hu;cases hu;omega
             ·exact Xj i u (by omega) hu
            refine BlkK.nrm ?_
            refine Exec.reg1 ?_
            refine Run.o1 V38 ?_
            refine Run.o1 V109 ?_
            refine Run.nil ?_
            refine ForK.nxt ?_ ?_ ?_
            ·omega
            ·exact Ghost.kp [0,1,4,5,6,7,8,24,25,150,151,152] [901,905,906,907,908,904,903,19,33] V95
            ·exact hXn
          ·skip
           have hje:j=ps.length:=by have:=of_decide_eq_false hb153;omega
           subst hje
           have hX2:∀i s,i<ps.length→(peakAt st ps k)[i]? = some s→s.lo≤s.hi:=Xj
           have hta:List.take ps.length (List.map encSp (peakAt st ps k))=List.map encSp (peakAt st ps k):=List.take_of_length_le (by simp [hlp])
           refine Exec.exitS ?_
           refine ForK.ext ?_
           refine BlkK.hit ?_
           refine Exec.reg1 ?_
           have hgood:goodL (peakAt st ps k)=true:=good_all fun i s hs=>hX2 i s V133 hs
           have hfs:=bK_yes (side:=false) (f:=f) (n:=n) hgood
           have hfe:(fsK st ps (k+1)).isEmpty=false:=by rw [fsK_yes hgood];simp
           refine Run.frz 33 (by simp only [go_sem,hF3,hta]<;>rfl) ?_
           iterate 3 (refine Run.o1 V108 ?_)
           refine Run.lendG [(905,905),(906,906),(907,907),(908,908),(904,904),(903,903)] V208 (c_Shown_3_0 f n hn ps hp k (peakAt st ps k) (span_SB (peak_SB hst.1 hp hk0)) (fun ha=>by rw [hlp];exact (own_some ha).2) (fsK st ps k).isEmpty (bK false st ps f n k)) V210 (.inr ⟨901,by simp only [go_sem]<;>rfl,by simp only [go_sem]<;>rfl⟩) V208 V1 rfl (by decide) V60 V44 V46 V82 V208 ?_
           refine Run.nil ?_
           refine BlkK.nrm ?_
           refine Exec.reg1 ?_
           refine Run.o1 V37 ?_
           refine Run.o1 V108 ?_
           refine Run.nil ?_
           refine ForK.nxt ?_ ?_ ?_
           ·omega
           ·exact Ghost.kp [0,1,4,5,6,24,25] [901,905,906,907,908,904,903,19] V94
           ·trivial
  ·skip
   have hke:k=ps.length:=by have:=ge_of_dec (l:=ps) (by simpa using hb26);omega
   subst hke
   refine Exec.exitS ?_
   refine ForK.ext ?_
   refine Blk1K.hit ?_
   exact Ends.fin0 [901,905,906,907,908,904,903] (rs:=[]) rfl V156 V139
theorem c_Shown_3_1 (f n:Int)(hn:0≤n∧n≤1073741824)(ps:List Pt)(hp:CP ps)(i:Int)(l:List Go.Li.Span)(hb:SB (spanAt f ps l))(ho:ps.any (fun p=>p.fl==f)=true→ownI f ps<l.length)(fb:Bool)(z:Int):Con Try.prog 29 [.int i,.leaf (.d (sksD l)),.leaf (.ptr 905 0),.leaf (.ptr 904 0),.leaf (.d (.pt (endD true))),.leaf (.ptr 903 0)] [(905,.cells [.obj 906]),(906,.clo 26 [.d (.pt [dwsD [(f,n)]]),.ptr 907 0,.d (.pt (endD true))]),(907,.cells [.obj 908]),(908,.map ((mI ps ps.length).map encL)),(904,.cells [.d (.bo fb)]),(903,.cells [.d (.i z)])] (.ret (.tup []) [(905,.cells [.obj 906]),(906,.clo 26 [.d (.pt [dwsD [(f,n)]]),.ptr 907 0,.d (.pt (endD true))]),(907,.cells [.obj 908]),(908,.map ((mI ps ps.length).map encL)),(904,.cells [.d (.bo false)]),(903,.cells [.d (.i (if (fb || farB true (sumI true f n ps l) z)=true then (sumI true f n ps l) else z))])]):=by
 refine con_of follows_mixed Try.func29 rfl (by simp only [List.length_cons,List.length_nil,Try.ntmps29];omega) V215 rfl ?_
 refine Exec.reg ?_
 iterate 2 (refine Run.o ?_)
 refine Run.lendG [(907,907),(908,908)] V208 (c_Shown_2_1 f n hn ps hp l hb ho) V210 (.inr ⟨906,by simp only [go_sem]<;>rfl,by simp only [go_sem]<;>rfl⟩) V208 V2 rfl (by decide) V60 V57 V61 V101 V208 ?_
 refine Run.o ?_
 refine Run.nil ?_
 by_cases hfb:fb=true
 ·skip
  subst hfb
  refine Exec.reg ?_
  iterate 2 (refine Run.o1 V168 ?_)
  iterate 5 (refine Run.s ?_)
  refine Run.o1 V168 ?_
  refine Run.nil ?_
  refine Exec.cnd V168 (fun hb19=>?_) (fun hb19=>?_)
  ·skip
   refine Exec.reg1 ?_
   iterate 3 (refine Run.o1 V168 ?_)
   refine Run.nil ?_
   exact Ends.fin0 [905,906,907,908,904,903] (rs:=[]) rfl V168 (by simp only [go_sem,Bool.true_or,if_true]<;>first|rfl|exact eqz)
  ·exact absurd hb19 (by simp)
 ·skip
  have hfb:fb=false:=by simpa using hfb
  subst hfb
  refine Exec.reg ?_
  iterate 2 (refine Run.o1 V185 ?_)
  iterate 4 (refine Run.y1 V185 ?_)
  refine Run.calw V208 (c_far1 (sumI true f n ps l) z) V210 V185 V185 V31 (fr0) V185 ?_
  refine Run.o1 V185 ?_
  refine Run.nil ?_
  refine Exec.cnd V185 (fun hb19=>?_) (fun hb19=>?_)
  ·skip
   have hfar:farB true (sumI true f n ps l) z=true:=hb19
   refine Exec.reg1 ?_
   iterate 3 (refine Run.o1 V153 ?_)
   refine Run.nil ?_
   exact Ends.fin0 [905,906,907,908,904,903] (rs:=[]) rfl V153 (by simp only [go_sem,Bool.false_or,hfar,if_true]<;>first|rfl|exact eqz)
  ·skip
   have hfar:farB true (sumI true f n ps l) z=false:=hb19
   have hff:¬(false=true):=by decide
   exact Ends.fin0 [905,906,907,908,904,903] (rs:=[]) rfl (by simp only [go_sem,Bool.false_or,hfar,hff,if_false]<;>rfl) (by simp only [go_sem,Bool.false_or,hfar,hff,if_false]<;>first|rfl|exact eqz)
theorem c_peaks_s1 (st:Int)(hst:0≤st∧st≤1000)(ps:List Pt)(hp:CP ps)(f n:Int)(hn:0≤n∧n≤1073741824):Con Try.prog 28 [.leaf (.d (chP st ps)),.leaf (.obj 901)] [(901,.clo 29 [.ptr 905 0,.ptr 904 0,.d (.pt (endD true)),.ptr 903 0]),(905,.cells [.obj 906]),(906,.clo 26 [.d (.pt [dwsD [(f,n)]]),.ptr 907 0,.d (.pt (endD true))]),(907,.cells [.obj 908]),(908,.map ((mI ps ps.length).map encL)),(904,.cells [.d (.bo (fsK st ps 0).isEmpty)]),(903,.cells [.d (.i (bK true st ps f n 0))])] (.ret (.tup []) [(901,.clo 29 [.ptr 905 0,.ptr 904 0,.d (.pt (endD true)),.ptr 903 0]),(905,.cells [.obj 906]),(906,.clo 26 [.d (.pt [dwsD [(f,n)]]),.ptr 907 0,.d (.pt (endD true))]),(907,.cells [.obj 908]),(908,.map ((mI ps ps.length).map encL)),(904,.cells [.d (.bo (fsK st ps ps.length).isEmpty)]),(903,.cells [.d (.i (bK true st ps f n ps.length))])]):=by
 have hpl:=hp.len
 have hlu:=sideU_len st ps ps.length
 have hld:=sideD_len st ps ps.length
 refine con_of follows_mixed Try.func28 rfl V145 V215 rfl ?_
 refine Exec.scp ?_
 refine Exec.reg ?_
 refine Run.o1 V156 ?_
 refine Run.c1 (c_side_u st hst ps hp) V156 V156 ?_
 refine Run.o1 V156 ?_
 refine Run.c1 (c_side_d st hst ps hp) V156 V156 ?_
 iterate 2 (refine Run.o1 V156 ?_)
 refine Run.nil ?_
 refine Exec.reg ?_
 iterate 3 (refine Run.o1 V156 ?_)
 refine Run.nil ?_
 refine Exec.lblS ?_
 refine Exec.reg ?_
 iterate 6 (refine Run.o1 V156 ?_)
 refine Run.nil ?_
 refine Exec.blk1 ?_
 refine Exec.forA [0,1,4,5,6,24,25] [901,905,906,907,908,904,903,19] (ps.length) (fun k=>[.slot 25 (.int k),.obj 901 (.clo 29 [.ptr 905 0,.ptr 904 0,.d (.pt (endD true)),.ptr 903 0]),.obj 905 (.cells [.obj 906]),.obj 906 (.clo 26 [.d (.pt [dwsD [(f,n)]]),.ptr 907 0,.d (.pt (endD true))]),.obj 907 (.cells [.obj 908]),.obj 908 (.map ((mI ps ps.length).map encL)),.obj 904 (.cells [.d (.bo (fsK st ps k).isEmpty)]),.obj 903 (.cells [.d (.i (bK true st ps f n k))])]) (fun _=>True) (fun k=>by simp only [go_sem]<;>rfl) V140 ?_ (fun k hk hX=>?_)
 ·trivial
 ·skip
  refine Exec.reg ?_
  refine Run.o1 V156 ?_
  refine Run.nil ?_
  refine Exec.cndS V156 (fun hb26=>?_) (fun hb26=>?_)
  ·skip
   have hk0:k<ps.length:=by simpa using lt_of_dec hb26
   have tk:(k:Int).toNat=k:=Int.toNat_natCast k
   refine Exec.skipS ?_
   refine Exec.blk ?_
   refine Exec.reg ?_
   iterate 2 (refine Run.o1 V151 ?_)
   refine Run.nil ?_
   refine Exec.reg ?_
   iterate 5 (refine Run.o1 V151 ?_)
   refine Run.o1 V75 ?_
   refine Run.o1 V151 ?_
   refine Run.nil ?_
   refine Exec.assocS ?_
   refine Exec.reg ?_
   iterate 3 (refine Run.o1 V151 ?_)
   refine Run.nil ?_
   refine Exec.blk ?_
   refine Exec.forA [0,1,4,5,6,7,8,24,25,35,36] [901,905,906,907,908,904,903,19,33] (ps.length) (fun j=>[.slot 36 (.int j),.obj 33 (.arr 40 2 ((F1 st ps k j).map encSp))]) (fun _=>True) (fun j=>by simp only [go_sem]<;>rfl) V115 ?_ (fun j hj Xj=>?_)
   ·trivial
   ·skip
    refine Exec.reg ?_
    refine Run.o1 V151 ?_
    refine Run.nil ?_
    refine Exec.cndS V151 (fun hb37=>?_) (fun hb37=>?_)
    ·skip
     have hj0:j<ps.length:=by have:=of_decide_eq_true hb37;omega
     have tj:(j:Int).toNat=j:=Int.toNat_natCast j
     have hl1:=F1_len st ps k j
     have hu_j:(sideU st ps ps.length)[j]? = some (SU st ps j):=by rw [sideU_all,rgM_get (by omega)]
     have hd_j:(sideD st ps ps.length)[j]? = some (SD st ps j):=by rw [sideD_all,rgM_get (by omega)]
     have hg0:(F1 st ps k j)[j]? = some ⟨0,0⟩:=by unfold F1;rw [rgM_get hj0,if_neg (by omega)]
     have hgs:((List.map encSp (F1 st ps k j)).set j [.i (SU st ps j).lo,.i (SU st ps j).hi])[j]? = some [.i (SU st ps j).lo,.i (SU st ps j).hi]:=List.getElem?_set_self (by rw [List.length_map,hl1];omega)
     refine Exec.skipS ?_
     refine Exec.blk ?_
     refine Exec.reg ?_
     iterate 2 (refine Run.o1 V112 ?_)
     refine Run.nil ?_
     refine Exec.reg ?_
     iterate 4 (refine Run.o1 V112 ?_)
     refine Run.o1 V30 ?_
     refine Run.o1 V112 ?_
     refine Run.o1 V30 ?_
     refine Run.o1 V112 ?_
     refine Run.nil ?_
     refine Exec.reg ?_
     iterate 3 (refine Run.o1 V112 ?_)
     refine Run.nil ?_
     refine Exec.cnd V112 (fun hb48=>?_) (fun hb48=>?_)
     ·skip
      have hgt:j>k:=by have:=of_decide_eq_true hb48;omega
      have hst2:=congrArg (List.map encSp) (F1_yes st (ps:=ps) hgt)
      refine Exec.reg1 ?_
      iterate 4 (refine Run.o1 V112 ?_)
      refine Run.o1 V30 ?_
      refine Run.o1 V112 ?_
      refine Run.o1 V30 ?_
      refine Run.o1 V112 ?_
      refine Run.nil ?_
      refine BlkK.nrm ?_
      refine Exec.reg1 ?_
      refine Run.o1 V41 ?_
      refine Run.o1 V112 ?_
      refine Run.nil ?_
      refine ForK.nxt ?_ ?_ ?_
      ·omega
      ·exact Ghost.kp [0,1,4,5,6,7,8,24,25,35,36] [901,905,906,907,908,904,903,19,33] V10
      ·trivial
     ·skip
      have hgt:¬j>k:=by have:=of_decide_eq_false hb48;omega
      have hst2:=congrArg (List.map encSp) (F1_no st (ps:=ps) hgt)
      refine BlkK.nrm ?_
      refine Exec.reg1 ?_
      refine Run.o1 V41 ?_
      refine Run.o1 V112 ?_
      refine Run.nil ?_
      refine ForK.nxt ?_ ?_ ?_
      ·omega
      ·exact Ghost.kp [0,1,4,5,6,7,8,24,25,35,36] [901,905,906,907,908,904,903,19,33] V12
      ·trivial
    ·skip
     have hje:j=ps.length:=by have:=of_decide_eq_false hb37;omega
     subst hje
     have hl1:=F1_len st ps k ps.length
     refine Exec.exitS ?_
     refine ForK.ext ?_
     refine BlkK.hit ?_
     refine Exec.opk 15 ?_
     have hu_k:(sideU st ps ps.length)[k]? = some (SU st ps k):=by rw [sideU_all,rgM_get (by omega)]
     have hd_k:(sideD st ps ps.length)[k]? = some (SD st ps k):=by rw [sideD_all,rgM_get (by omega)]
     have hga:(F1 st ps k ps.length)[k]? = some (SU st ps k):=by unfold F1;rw [rgM_get hk0,if_pos hk0,if_neg (by omega)]
     have hst3:(List.map encSp (F1 st ps k ps.length)).set k [.i (both (SU st ps k) (SD st ps k)).lo,.i (both (SU st ps k) (SD st ps k)).hi]=List.map encSp (F2 st ps k 0):=by rw [←F1_top,List.map_set];rfl
     iterate 4 (refine OpenK.o1 V128 ?_)
     refine OpenK.o1 V45 ?_
     iterate 3 (refine OpenK.o1 V128 ?_)
     refine OpenK.o1 V45 ?_
     refine OpenK.o1 V128 ?_
     refine OpenK.cal (c_both (SU st ps k) (SD st ps k)) V210 V128 V31 (fr0) V128 V208 V208 ?_
     refine OpenK.o1 V45 ?_
     refine OpenK.o1 V128 ?_
     refine OpenK.nil (OpenE.fin V212 V212 ?_)
     refine Exec.assocS ?_
     refine Exec.reg ?_
     iterate 2 (refine Run.o1 V128 ?_)
     refine Run.nil ?_
     refine Exec.blk ?_
     refine Exec.forA [0,1,4,5,6,7,8,10,24,25] [901,905,906,907,908,904,903,19,33] (k) (fun j=>[.slot 10 (.int ((k:Int)-j)),.obj 33 (.arr 40 2 ((F2 st ps k j).map encSp))]) (fun _=>True) (fun j=>by simp only [go_sem]<;>rfl) V106 ?_ (fun j hj Xj=>?_)
     ·trivial
     ·skip
      refine Exec.assocS ?_
      refine Exec.reg ?_
      iterate 2 (refine Run.o1 V128 ?_)
      refine Run.nil ?_
      refine Exec.cndS V128 (fun hb71=>?_) (fun hb71=>?_)
      ·skip
       have hj0:j<k:=by have:=of_decide_eq_true hb71;omega
       have hl2:=F2_len st ps k j
       have t1:((k:Int)-(j:Int)).toNat=k-j:=by omega
       have t2:((k:Int)-(j:Int)-1).toNat=k-j-1:=by omega
       have hga:(F2 st ps k j)[k-j-1]? = some (SU st ps (k-j-1)):=by unfold F2;rw [rgM_get (by omega),if_neg (by omega),if_neg (by omega)]
       have hgb:(F2 st ps k j)[k-j]? = some (BK st ps k j):=by unfold F2;rw [rgM_get (by omega),if_neg (by omega),if_pos (by omega),show k-(k-j)=j by omega]
       have hp1:=pAt_get (ps:=ps) (i:=k-j) (by omega)
       have hp2:=pAt_get (ps:=ps) (i:=k-j-1) (by omega)
       have hf1:=hp.fl _ (pAt_mem (ps:=ps) (i:=k-j) (by omega))
       have hf2:=hp.fl _ (pAt_mem (ps:=ps) (i:=k-j-1) (by omega))
       have hord:=pAt_lt hp (i:=k-j-1) (j:=k-j) (by omega) (by omega)
       have hsb:=BK_SB hst.1 hp hk0 (j:=j) (by omega)
       have hbk:both (SU st ps (k-j-1)) ⟨(BK st ps k j).lo-st*((pAt ps (k-j)).fl-(pAt ps (k-j-1)).fl),(BK st ps k j).hi⟩=BK st ps k (j+1):=by
        show _=both (SU st ps (k-1-j)) ⟨(BK st ps k j).lo-st*((pAt ps (k-j)).fl-(pAt ps (k-1-j)).fl),(BK st ps k j).hi⟩
        rw [show k-1-j=k-j-1 by omega]
       have hst2:=congrArg (List.map encSp) (F2_set st (ps:=ps) hj0)
       refine Exec.skipS ?_
       refine Exec.blk ?_
       refine Exec.opk1 36 ?_
       iterate 2 (refine OpenK.o1 V99 ?_)
       refine OpenK.o1 V34 ?_
       iterate 2 (refine OpenK.o1 V99 ?_)
       refine OpenK.o1 V34 ?_
       refine OpenK.o1 V22 ?_
       iterate 4 (refine OpenK.o1 V99 ?_)
       refine OpenK.o1 V22 ?_
       iterate 6 (refine OpenK.o1 V99 ?_)
       refine OpenK.o1 V22 ?_
       iterate 7 (refine OpenK.o1 V99 ?_)
       refine OpenK.o1 V34 ?_
       refine OpenK.o1 V22 ?_
       iterate 2 (refine OpenK.o1 V99 ?_)
       refine OpenK.calm (c:=19) V208 (c_fall st ps (BK st ps k j) (pAt ps (k-j)).fl (pAt ps (k-j-1)).fl hst hsb (by omega) (by omega) (by omega)) V210 V208 V208 V99 V141 V208 V208 V208 ?_
       refine OpenK.cal (c_both (SU st ps (k-j-1)) ⟨(BK st ps k j).lo-st*((pAt ps (k-j)).fl-(pAt ps (k-j-1)).fl),(BK st ps k j).hi⟩) V210 V99 V31 (fr0) V99 V208 V208 ?_
       refine OpenK.o1 V22 ?_
       refine OpenK.o1 V99 ?_
       refine OpenK.nil (OpenE.finT V215 V215 V215 ?_)
       refine BlkK.nrm ?_
       refine Exec.reg1 ?_
       refine Run.o1 V99 ?_
       refine Run.o1 V34 ?_
       refine Run.o1 V99 ?_
       refine Run.nil ?_
       refine ForK.nxt ?_ ?_ ?_
       ·omega
       ·exact Ghost.kp [0,1,4,5,6,7,8,10,24,25] [901,905,906,907,908,904,903,19,33] V7
       ·trivial
      ·skip
       have hje:j=k:=by have:=of_decide_eq_false hb71;omega
       rw [hje]
       have hF:=F2_end st ps k
       refine Exec.exitS ?_
       refine ForK.ext ?_
       refine BlkK.hit ?_
       refine Exec.assocS ?_
       refine Exec.reg ?_
       iterate 2 (refine Run.o1 V124 ?_)
       refine Run.nil ?_
       refine Exec.blk ?_
       refine Exec.forA [0,1,4,5,6,7,8,11,24,25] [901,905,906,907,908,904,903,19,33] (ps.length-1-k) (fun j=>[.slot 11 (.int ((k:Int)+j)),.obj 33 (.arr 40 2 ((F3 st ps k j).map encSp))]) (fun _=>True) (fun j=>by simp only [go_sem]<;>rfl) V104 ?_ (fun j hj Xj=>?_)
       ·trivial
       ·skip
        have hl3:=F3_len st ps k j
        refine Exec.assocS ?_
        refine Exec.reg ?_
        refine Run.o1 V120 ?_
        refine Run.o1 V49 ?_
        iterate 3 (refine Run.o1 V120 ?_)
        refine Run.nil ?_
        refine Exec.cndS V120 (fun hb112=>?_) (fun hb112=>?_)
        ·skip
         have hj0:k+j+1<ps.length:=by have:=of_decide_eq_true hb112;omega
         have t1:((k:Int)+(j:Int)).toNat=k+j:=by omega
         have t2:((k:Int)+(j:Int)+1).toNat=k+j+1:=by omega
         have hga:(F3 st ps k j)[k+j+1]? = some (SD st ps (k+j+1)):=by unfold F3;rw [rgM_get (by omega),if_neg (by omega),if_neg (by omega)]
         have hgb:(F3 st ps k j)[k+j]? = some (FW st ps k j):=by
          unfold F3
          rw [rgM_get (by omega)]
          by_cases e:j=0
          ·rw [if_pos (by omega),show k-(k+j)=0 by omega,e];rfl
          ·rw [if_neg (by omega),if_pos (by omega),show k+j-k=j by omega]
         have hp1:=pAt_get (ps:=ps) (i:=k+j) (by omega)
         have hp2:=pAt_get (ps:=ps) (i:=k+j+1) (by omega)
         have hf1:=hp.fl _ (pAt_mem (ps:=ps) (i:=k+j) (by omega))
         have hf2:=hp.fl _ (pAt_mem (ps:=ps) (i:=k+j+1) (by omega))
         have hord:=pAt_lt hp (i:=k+j) (j:=k+j+1) (by omega) (by omega)
         have hsb:=FW_SB hst.1 hp (p:=k) (j:=j) (by omega)
         have hbk:both (SD st ps (k+j+1)) ⟨(FW st ps k j).lo-st*(-(pAt ps (k+j)).fl - -(pAt ps (k+j+1)).fl),(FW st ps k j).hi⟩=FW st ps k (j+1):=by
          show _=both (SD st ps (k+1+j)) ⟨(FW st ps k j).lo-st*((pAt ps (k+1+j)).fl-(pAt ps (k+j)).fl),(FW st ps k j).hi⟩
          rw [show k+1+j=k+j+1 by omega,show -(pAt ps (k+j)).fl - -(pAt ps (k+j+1)).fl=(pAt ps (k+j+1)).fl-(pAt ps (k+j)).fl by omega]
         have hst2:=congrArg (List.map encSp) (F3_set st (ps:=ps) (p:=k) (k:=j))
         refine Exec.skipS ?_
         refine Exec.blk ?_
         refine Exec.opk1 38 ?_
         iterate 2 (refine OpenK.o1 V98 ?_)
         refine OpenK.o1 V33 ?_
         iterate 2 (refine OpenK.o1 V98 ?_)
         refine OpenK.o1 V33 ?_
         refine OpenK.o1 V21 ?_
         iterate 4 (refine OpenK.o1 V98 ?_)
         refine OpenK.o1 V21 ?_
         iterate 6 (refine OpenK.o1 V98 ?_)
         refine OpenK.o1 V21 ?_
         iterate 2 (refine OpenK.o1 V98 ?_)
         refine OpenK.o1 V33 ?_
         iterate 5 (refine OpenK.o1 V98 ?_)
         refine OpenK.o1 V33 ?_
         refine OpenK.o1 V21 ?_
         iterate 2 (refine OpenK.o1 V98 ?_)
         refine OpenK.o1 V33 ?_
         refine OpenK.calm (c:=19) V208 (c_fall st ps (FW st ps k j) (-(pAt ps (k+j)).fl) (-(pAt ps (k+j+1)).fl) hst hsb (by omega) (by omega) (by omega)) V210 V208 V208 V98 V132 V208 V208 V208 ?_
         refine OpenK.cal (c_both (SD st ps (k+j+1)) ⟨(FW st ps k j).lo-st*(-(pAt ps (k+j)).fl - -(pAt ps (k+j+1)).fl),(FW st ps k j).hi⟩) V210 V98 V31 (fr0) V98 V208 V208 ?_
         refine OpenK.o1 V21 ?_
         refine OpenK.o1 V98 ?_
         refine OpenK.nil (OpenE.finT V215 V215 V215 ?_)
         refine BlkK.nrm ?_
         refine Exec.reg1 ?_
         refine Run.o1 V98 ?_
         refine Run.o1 V33 ?_
         refine Run.o1 V98 ?_
         refine Run.nil ?_
         refine ForK.nxt ?_ ?_ ?_
         ·omega
         ·exact Ghost.kp [0,1,4,5,6,7,8,11,24,25] [901,905,906,907,908,904,903,19,33] V6
         ·trivial
        ·skip
         have hje:j=ps.length-1-k:=by have:=of_decide_eq_false hb112;omega
         rw [hje]
         have hF3:=F3_end st hk0
         have hlp:=pk_len st hk0
         refine Exec.exitS ?_
         refine ForK.ext ?_
         refine BlkK.hit ?_
         refine Exec.assocS ?_
         refine Exec.reg ?_
         iterate 3 (refine Run.o1 V113 ?_)
         refine Run.nil ?_
         refine Exec.blk ?_
         refine Exec.forA [0,1,4,5,6,7,8,24,25,150,151,152] [901,905,906,907,908,904,903,19,33] (ps.length) (fun j=>[.slot 152 (.int j)]) (fun j=>∀i s,i<j→(peakAt st ps k)[i]? = some s→s.lo≤s.hi) (fun j=>by simp only [go_sem]<;>rfl) V102 ?_ (fun j hj Xj=>?_)
         ·exact fun i s hi=>absurd hi (by omega)
         ·skip
          refine Exec.reg ?_
          refine Run.o1 V113 ?_
          refine Run.nil ?_
          refine Exec.cndS V113 (fun hb153=>?_) (fun hb153=>?_)
          ·skip
           have hj0:j<ps.length:=by have:=of_decide_eq_true hb153;omega
           have tj:(j:Int).toNat=j:=Int.toNat_natCast j
           obtain ⟨s,hs⟩:∃s,(peakAt st ps k)[j]? = some s:=⟨_,List.getElem?_eq_getElem (by rw [hlp];exact hj0)⟩
           refine Exec.skipS ?_
           refine Exec.blk ?_
           refine Exec.reg ?_
           refine Run.o1 V25 ?_
           iterate 3 (refine Run.o1 V109 ?_)
           refine Run.nil ?_
           refine Exec.reg ?_
           iterate 5 (refine Run.o1 V109 ?_)
           refine Run.nil ?_
           refine Exec.cnd V109 (fun hb160=>?_) (fun hb160=>?_)
           ·skip
            have hgood:goodL (peakAt st ps k)=false:=good_no hs (of_decide_eq_true hb160)
            have hfs:=bK_no (side:=true) (f:=f) (n:=n) hgood
            have hfe:=fsK_no hgood
            refine BlkK.mis (by decide) ?_
            refine ForK.ext ?_
            refine BlkK.mis (by decide) ?_
            refine BlkK.hit ?_
            refine Exec.reg1 ?_
            refine Run.o1 V35 ?_
            refine Run.o1 V103 ?_
            refine Run.nil ?_
            refine ForK.nxt ?_ ?_ ?_
            ·omega
            ·exact Ghost.kp [0,1,4,5,6,24,25] [901,905,906,907,908,904,903,19] V88
            ·trivial
           ·skip
            have hns:¬s.lo>s.hi:=of_decide_eq_false hb160
            have hXn:∀i s,i<j+1→(peakAt st ps k)[i]? = some s→s.lo≤s.hi:=fun i u hi hu=>by
             by_cases e:i=j
             ·subst e;rw [hs] at hu;cases hu;omega
             ·exact Xj i u (by omega) hu
            refine BlkK.nrm ?_
            refine Exec.reg1 ?_
            refine Run.o1 V38 ?_
            refine Run.o1 V109 ?_
            refine Run.nil ?_
            refine ForK.nxt ?_ ?_ ?_
            ·omega
            ·exact Ghost.kp [0,1,4,5,6,7,8,24,25,150,151,152] [901,905,906,907,908,904,903,19,33] V95
            ·exact hXn
          ·skip
           have hje:j=ps.length:=by have:=of_decide_eq_false hb153;omega
           subst hje
           have hX2:∀i s,i<ps.length→(peakAt st ps k)[i]? = some s→s.lo≤s.hi:=Xj
           have hta:List.take ps.length (List.map encSp (peakAt st ps k))=List.map encSp (peakAt st ps k):=List.take_of_length_le (by simp [hlp])
           refine Exec.exitS ?_
           refine ForK.ext ?_
           refine BlkK.hit ?_
           refine Exec.reg1 ?_
           have hgood:goodL (peakAt st ps k)=true:=good_all fun i s hs=>hX2 i s V133 hs
           have hfs:=bK_yes (side:=true) (f:=f) (n:=n) hgood
           have hfe:(fsK st ps (k+1)).isEmpty=false:=by rw [fsK_yes hgood];simp
           refine Run.frz 33 (by simp only [go_sem,hF3,hta]<;>rfl) ?_
           iterate 3 (refine Run.o1 V108 ?_)
           refine Run.lendG [(905,905),(906,906),(907,907),(908,908),(904,904),(903,903)] V208 (c_Shown_3_1 f n hn ps hp k (peakAt st ps k) (span_SB (peak_SB hst.1 hp hk0)) (fun ha=>by rw [hlp];exact (own_some ha).2) (fsK st ps k).isEmpty (bK true st ps f n k)) V210 (.inr ⟨901,by simp only [go_sem]<;>rfl,by simp only [go_sem]<;>rfl⟩) V208 V1 rfl (by decide) V60 V44 V46 V82 V208 ?_
           refine Run.nil ?_
           refine BlkK.nrm ?_
           refine Exec.reg1 ?_
           refine Run.o1 V37 ?_
           refine Run.o1 V108 ?_
           refine Run.nil ?_
           refine ForK.nxt ?_ ?_ ?_
           ·omega
           ·exact Ghost.kp [0,1,4,5,6,24,25] [901,905,906,907,908,904,903,19] V94
           ·trivial
  ·skip
   have hke:k=ps.length:=by have:=ge_of_dec (l:=ps) (by simpa using hb26);omega
   subst hke
   refine Exec.exitS ?_
   refine ForK.ext ?_
   refine Blk1K.hit ?_
   exact Ends.fin0 [901,905,906,907,908,904,903] (rs:=[]) rfl V156 V139
end Go.Mw
namespace Go.Mw
open Go.Proofs
open Go.Li
theorem c_pk_s0 (st:Int)(hst:0≤st∧st≤1000)(ps:List Pt)(hp:CP ps)(f n:Int)(hn:0≤n∧n≤1073741824):Con Try.prog 28 [.leaf (.d (chP st ps)),.leaf (.obj 901)] [(901,.clo 29 [.ptr 905 0,.ptr 904 0,.d (.pt (endD false)),.ptr 903 0]),(905,.cells [.obj 906]),(906,.clo 26 [.d (.pt [dwsD [(f,n)]]),.ptr 907 0,.d (.pt (endD false))]),(907,.cells [.obj 908]),(908,.map ((mI ps ps.length).map encL)),(904,.cells [.d (.bo true)]),(903,.cells [.d (.i 0)])] (.ret (.tup []) [(901,.clo 29 [.ptr 905 0,.ptr 904 0,.d (.pt (endD false)),.ptr 903 0]),(905,.cells [.obj 906]),(906,.clo 26 [.d (.pt [dwsD [(f,n)]]),.ptr 907 0,.d (.pt (endD false))]),(907,.cells [.obj 908]),(908,.map ((mI ps ps.length).map encL)),(904,.cells [.d (.bo (peaksL st ps).isEmpty)]),(903,.cells [.d (.i (bestL (farB false) true 0 ((peaksL st ps).map (sumI false f n ps))))])]):=by
 have:=c_peaks_s0 st hst ps hp f n hn
 rw [fsK_all] at this
 exact this
theorem c_pk_e0 (st:Int)(hst:0≤st∧st≤1000)(ps:List Pt)(hps:ps=[])(hp:CP ps)(f n:Int)(fb:Bool)(z:Int):Con Try.prog 28 [.leaf (.d (chP st ps)),.leaf (.obj 901)] [(901,.clo 29 [.ptr 905 0,.ptr 904 0,.d (.pt (endD false)),.ptr 903 0]),(905,.cells [.obj 906]),(906,.clo 26 [.d (.pt [dwsD [(f,n)]]),.ptr 907 0,.d (.pt (endD false))]),(907,.cells [.obj 908]),(908,.map ((mI ps ps.length).map encL)),(904,.cells [.d (.bo fb)]),(903,.cells [.d (.i z)])] (.ret (.tup []) [(901,.clo 29 [.ptr 905 0,.ptr 904 0,.d (.pt (endD false)),.ptr 903 0]),(905,.cells [.obj 906]),(906,.clo 26 [.d (.pt [dwsD [(f,n)]]),.ptr 907 0,.d (.pt (endD false))]),(907,.cells [.obj 908]),(908,.map ((mI ps ps.length).map encL)),(904,.cells [.d (.bo fb)]),(903,.cells [.d (.i z)])]):=by
 have hl0:ps.length=0:=by rw [hps];rfl
 refine con_of follows_mixed Try.func28 rfl V145 V215 rfl ?_
 refine Exec.scp ?_
 refine Exec.reg ?_
 refine Run.o ?_
 refine Run.c1 (c_side_u st hst ps hp) V208 V208 ?_
 refine Run.o ?_
 refine Run.c1 (c_side_d st hst ps hp) V208 V208 ?_
 iterate 2 (refine Run.o ?_)
 refine Run.nil ?_
 refine Exec.reg ?_
 iterate 3 (refine Run.o ?_)
 refine Run.nil ?_
 refine Exec.lblS ?_
 refine Exec.reg ?_
 iterate 6 (refine Run.o ?_)
 refine Run.nil ?_
 refine Exec.blk1 ?_
 refine Exec.forA [0,1,4,5,6,24,25] [901,905,906,907,908,904,903,19] (0) (fun k=>[.slot 25 (.int k)]) (fun _=>True) (fun k=>by simp only [go_sem]<;>rfl) V180 ?_ (fun k hk hX=>?_)
 ·trivial
 ·skip
  refine Exec.reg ?_
  refine Run.o ?_
  refine Run.nil ?_
  refine Exec.cndS V208 (fun hb26=>?_) (fun hb26=>?_)
  ·skip
   exfalso
   have:=lt_of_dec (l:=ps) (by simpa using hb26)
   omega
  ·skip
   refine Exec.exitS ?_
   refine ForK.ext ?_
   refine Blk1K.hit ?_
   exact Ends.fin0 [901,905,906,907,908,904,903] (rs:=[]) rfl V208 V171
theorem c_pk_s1 (st:Int)(hst:0≤st∧st≤1000)(ps:List Pt)(hp:CP ps)(f n:Int)(hn:0≤n∧n≤1073741824):Con Try.prog 28 [.leaf (.d (chP st ps)),.leaf (.obj 901)] [(901,.clo 29 [.ptr 905 0,.ptr 904 0,.d (.pt (endD true)),.ptr 903 0]),(905,.cells [.obj 906]),(906,.clo 26 [.d (.pt [dwsD [(f,n)]]),.ptr 907 0,.d (.pt (endD true))]),(907,.cells [.obj 908]),(908,.map ((mI ps ps.length).map encL)),(904,.cells [.d (.bo true)]),(903,.cells [.d (.i 0)])] (.ret (.tup []) [(901,.clo 29 [.ptr 905 0,.ptr 904 0,.d (.pt (endD true)),.ptr 903 0]),(905,.cells [.obj 906]),(906,.clo 26 [.d (.pt [dwsD [(f,n)]]),.ptr 907 0,.d (.pt (endD true))]),(907,.cells [.obj 908]),(908,.map ((mI ps ps.length).map encL)),(904,.cells [.d (.bo (peaksL st ps).isEmpty)]),(903,.cells [.d (.i (bestL (farB true) true 0 ((peaksL st ps).map (sumI true f n ps))))])]):=by
 have:=c_peaks_s1 st hst ps hp f n hn
 rw [fsK_all] at this
 exact this
theorem c_pk_e1 (st:Int)(hst:0≤st∧st≤1000)(ps:List Pt)(hps:ps=[])(hp:CP ps)(f n:Int)(fb:Bool)(z:Int):Con Try.prog 28 [.leaf (.d (chP st ps)),.leaf (.obj 901)] [(901,.clo 29 [.ptr 905 0,.ptr 904 0,.d (.pt (endD true)),.ptr 903 0]),(905,.cells [.obj 906]),(906,.clo 26 [.d (.pt [dwsD [(f,n)]]),.ptr 907 0,.d (.pt (endD true))]),(907,.cells [.obj 908]),(908,.map ((mI ps ps.length).map encL)),(904,.cells [.d (.bo fb)]),(903,.cells [.d (.i z)])] (.ret (.tup []) [(901,.clo 29 [.ptr 905 0,.ptr 904 0,.d (.pt (endD true)),.ptr 903 0]),(905,.cells [.obj 906]),(906,.clo 26 [.d (.pt [dwsD [(f,n)]]),.ptr 907 0,.d (.pt (endD true))]),(907,.cells [.obj 908]),(908,.map ((mI ps ps.length).map encL)),(904,.cells [.d (.bo fb)]),(903,.cells [.d (.i z)])]):=by
 have hl0:ps.length=0:=by rw [hps];rfl
 refine con_of follows_mixed Try.func28 rfl V145 V215 rfl ?_
 refine Exec.scp ?_
 refine Exec.reg ?_
 refine Run.o ?_
 refine Run.c1 (c_side_u st hst ps hp) V208 V208 ?_
 refine Run.o ?_
 refine Run.c1 (c_side_d st hst ps hp) V208 V208 ?_
 iterate 2 (refine Run.o ?_)
 refine Run.nil ?_
 refine Exec.reg ?_
 iterate 3 (refine Run.o ?_)
 refine Run.nil ?_
 refine Exec.lblS ?_
 refine Exec.reg ?_
 iterate 6 (refine Run.o ?_)
 refine Run.nil ?_
 refine Exec.blk1 ?_
 refine Exec.forA [0,1,4,5,6,24,25] [901,905,906,907,908,904,903,19] (0) (fun k=>[.slot 25 (.int k)]) (fun _=>True) (fun k=>by simp only [go_sem]<;>rfl) V180 ?_ (fun k hk hX=>?_)
 ·trivial
 ·skip
  refine Exec.reg ?_
  refine Run.o ?_
  refine Run.nil ?_
  refine Exec.cndS V208 (fun hb26=>?_) (fun hb26=>?_)
  ·skip
   exfalso
   have:=lt_of_dec (l:=ps) (by simpa using hb26)
   omega
  ·skip
   refine Exec.exitS ?_
   refine ForK.ext ?_
   refine Blk1K.hit ?_
   exact Ends.fin0 [901,905,906,907,908,904,903] (rs:=[]) rfl V208 V171
def shR (c:Cv)(f n:Int):AV:=if canB c.steep c.ps then .tup [(true,[.d (.i (shownS c f n).lo),.d (.i (shownS c f n).hi)]),(false,[.d (.i 0)])] else .tup [(true,[.d (.i 0),.d (.i 0)]),(false,[.d (.i 6)])]
theorem shR_yes {c:Cv}{f n:Int}(h:canB c.steep c.ps=true):shR c f n=.tup [(true,[.d (.i (roundI false (bestI false c f n))),.d (.i (roundI true (bestI true c f n)))]),(false,[.d (.i 0)])]:=if_pos h
theorem shR_no {c:Cv}{f n:Int}(h:canB c.steep c.ps=false):shR c f n=.tup [(true,[.d (.i 0),.d (.i 0)]),(false,[.d (.i 6)])]:=if_neg (by rw [h];decide)
theorem bestL_bd (far:Int→Int→Bool):∀(l:List Int) (f:Bool) (b:Int),(0≤b∧b≤2147483648000)→(∀x∈l,0≤x∧x≤2147483648000)→0≤bestL far f b l∧bestL far f b l≤2147483648000
 |[],f,b,hb,_=>hb
 |x::r,f,b,hb,h=>by
  unfold bestL
  split
  ·exact bestL_bd far r false x (h x (by simp)) fun y hy=>h y V216
  ·exact bestL_bd far r f b hb fun y hy=>h y V216
theorem bestI_yes {c:Cv}{f n:Int}{side:Bool}(h:chainOf c [f]=[]):bestI side c f n=sumI side f n (chainOf c [f]) []:=by unfold bestI;rw [h];rfl
theorem bestI_no {c:Cv}{f n:Int}{side:Bool}(h:chainOf c [f]≠[]):bestI side c f n=bestL (farB side) true 0 ((peaksL c.steep (chainOf c [f])).map (sumI side f n (chainOf c [f]))):=by
 unfold bestI
 cases hc:chainOf c [f] with
 |nil=>exact absurd hc h
 |cons p r=>rfl
theorem bestI_bd {c:Cv}(hst:0≤c.steep){f n:Int}(hp:CP (chainOf c [f]))(hn:0≤n∧n≤1073741824)(side:Bool):0≤bestI side c f n∧bestI side c f n≤2147483648000:=by
 by_cases h:chainOf c [f]=[]
 ·rw [bestI_yes h]
  exact sum_bd hn (span_SB fun s hs=>by cases hs)
 ·rw [bestI_no h]
  refine bestL_bd _ _ _ _ ⟨by decide,by decide⟩ fun x hx=>?_
  obtain ⟨l,hl,rfl⟩:=List.mem_map.1 hx
  unfold peaksL at hl
  obtain ⟨k,hk,rfl⟩:=List.mem_map.1 (List.mem_filter.1 hl).1
  exact sum_bd hn (span_SB (peak_SB hst hp (List.mem_range.1 hk)))
theorem c_Shown (c:Cv)(h:curveB c=true)(f n:Int)(hf:0≤f∧f≤100000)(hn:0≤n∧n≤1073741824):Contract Try.prog 10 [cvV c,.leaf (.d (dwsD [(f,n)]))] (shR c f n) []:=by
 have hb:=curveB_bd h
 have hcp:=cp_of h (fs:=[f]) (by simp) (fun x hx=>by rw [List.mem_singleton.1 hx];exact hf)
 have hpl:=hcp.len
 have hin:[(f,n)].any (fun p=>!(inL p.1 0 100000&&inL p.2 0 1073741824))=false:=by simp [inL];omega
 have hne:=errI_ne (c:=c)
 have hm0:mI (chainOf c [f]) 0=[]:=rfl
 have hbd:=bestI_bd (c:=c) hb.2.1.1 hcp hn
 refine con_of follows_mixed Try.func10 rfl (by simp only [List.length_cons,List.length_nil,Try.ntmps10];omega) V215 rfl ?_
 refine Exec.reg ?_
 iterate 4 (refine Run.o1 V158 ?_)
 refine Run.nil ?_
 refine Exec.reg ?_
 refine Run.o1 V158 ?_
 refine Run.nil ?_
 refine Exec.assocS ?_
 refine Exec.opk 11 ?_
 iterate 5 (refine OpenK.o1 V158 ?_)
 refine OpenK.cal (c_ContainsFunc_Dw (fun p=>!(inL p.1 0 100000&&inL p.2 0 1073741824)) (ds:=[]) V210 [(f,n)] (by simp) (fun p _=>c_Shown_1 p)) V210 V158 V31 (fr0) V158 V208 V208 ?_
 refine OpenK.o1 V158 ?_
 refine OpenK.cal (c_errorOf c h 1 10 (by omega)) V210 V158 V8 (fr0) V158 V208 V208 ?_
 refine OpenK.o1 V158 ?_
 refine OpenK.nil (OpenE.fin V212 V212 ?_)
 refine Exec.assocS ?_
 refine Exec.reg ?_
 iterate 2 (refine Run.o1 V158 ?_)
 refine Run.nil ?_
 refine Exec.cndS V158 (fun hb30=>?_) (fun hb30=>?_)
 ·skip
  have hcan:canB c.steep c.ps=false:=by simpa using hb30
  have hr:=shR_no (f:=f) (n:=n) hcan
  have he:=errI_no hcan
  refine Exec.assocS ?_
  refine Exec.reg ?_
  iterate 4 (refine Run.o1 (by simp only [go_sem,hr,he]<;>rfl) ?_)
  refine Run.nil ?_
  refine Exec.retS ?_
  exact Ends.fin [] (rs:=[.cell 4 40,.tmp 5]) rfl (by simp only [go_sem,hr,he]<;>rfl) (by simp only [go_sem,hr,he]<;>first|rfl|exact eqz)
 ·skip
  have hcan:canB c.steep c.ps=true:=by simpa using hb30
  have hr:=shR_yes (f:=f) (n:=n) hcan
  refine Exec.skipS ?_
  refine Exec.reg ?_
  refine Run.o1 V202 ?_
  refine Run.nil ?_
  refine Exec.assocS ?_
  refine Exec.reg ?_
  refine Run.nilo 8 1000 3 1 V208 V208 (by omega) (by omega) V208 ?_
  iterate 3 (refine Run.o1 V202 ?_)
  refine Run.nil ?_
  refine Exec.blk ?_
  refine Exec.forA [2,3,4,8,33,34,35] [2,3,4,1000] (1) (fun k=>[.slot 35 (.int k),.slot 8 (.leaf (.own 1000 0 k k)),.obj 1000 (.arr 3 1 (([f].take k).map encInt))]) (fun _=>True) (fun k=>by simp only [go_sem]<;>rfl) (by simp only [go_sem,hr,Int.natCast_zero,List.take_zero,List.map_nil]<;>rfl) ?_ (fun k hk hX=>?_)
  ·trivial
  ·skip
   refine Exec.reg ?_
   refine Run.o1 V202 ?_
   refine Run.nil ?_
   refine Exec.cndS V202 (fun hb36=>?_) (fun hb36=>?_)
   ·skip
    have hk0:k=0:=by have:=of_decide_eq_true hb36;simp at this;omega
    subst hk0
    refine Exec.skipS ?_
    refine Exec.blk ?_
    refine Exec.reg ?_
    refine Run.o1 (by simp only [go_sem,hr,Int.natCast_zero,Int.toNat_zero,List.map_cons,List.map_nil,List.getElem?_cons_zero,List.take_zero,List.take_succ_cons];(try simp (disch:=omega) only [if_pos]);(try simp only [go_sem,hr,Int.natCast_zero,Int.toNat_zero,List.map_cons,List.map_nil,List.getElem?_cons_zero,List.take_zero,List.take_succ_cons])<;> rfl) ?_
    iterate 3 (refine Run.o1 V77 ?_)
    refine Run.nil ?_
    refine Exec.reg1 ?_
    iterate 4 (refine Run.o1 V77 ?_)
    refine Run.o1 (by simp only [go_sem,hr,Int.natCast_zero,Int.toNat_zero,List.map_cons,List.map_nil,List.getElem?_cons_zero,List.take_zero,List.take_succ_cons];(try simp (disch:=omega) only [if_pos]);(try simp only [go_sem,hr,Int.natCast_zero,Int.toNat_zero,List.map_cons,List.map_nil,List.getElem?_cons_zero,List.take_zero,List.take_succ_cons])<;>first|(refine ite_run ⟨by (try simp only [List.length_append,List.length_drop,List.length_take,List.length_map,List.length_cons,List.length_nil,List.length_replicate,List.length_set,List.length_range,Nat.zero_add]);omega,by (try simp only [List.length_append,List.length_drop,List.length_take,List.length_map,List.length_cons,List.length_nil,List.length_replicate,List.length_set,List.length_range,Nat.zero_add]);omega,by repeat (first|exact al_nil|assumption|refine al_app ?_ ?_|refine al_drop ?_|refine al_take ?_|exact al_map (fun _=>rfl)|exact al_rep rfl|refine al_cons rfl ?_)⟩ ?_;simp only [go_sem,hr,Int.natCast_zero,Int.toNat_zero,List.map_cons,List.map_nil,List.getElem?_cons_zero,List.take_zero,List.take_succ_cons]<;>rfl)|(refine ite_run ⟨by (try simp only [List.length_append,List.length_drop,List.length_take,List.length_map,List.length_cons,List.length_nil,List.length_replicate,List.length_set,List.length_range,Nat.zero_add]);omega,by repeat (first|exact al_nil|assumption|refine al_app ?_ ?_|refine al_drop ?_|refine al_take ?_|exact al_map (fun _=>rfl)|exact al_rep rfl|refine al_cons rfl ?_)⟩ ?_;simp only [go_sem,hr,Int.natCast_zero,Int.toNat_zero,List.map_cons,List.map_nil,List.getElem?_cons_zero,List.take_zero,List.take_succ_cons]<;>rfl)|rfl) ?_
    refine Run.o1 V77 ?_
    refine Run.nil ?_
    refine BlkK.nrm ?_
    refine Exec.reg1 ?_
    refine Run.o1 (by simp only [go_sem,hr,Int.natCast_zero,Int.toNat_zero,List.map_cons,List.map_nil,List.getElem?_cons_zero,List.take_zero,List.take_succ_cons];(try simp (disch:=omega) only [IntWalk.i64_in,IntWalk.u64_in,IntWalk.i32_in,IntWalk.u8_in,if_neg,if_pos])<;> rfl) ?_
    refine Run.o1 V77 ?_
    refine Run.nil ?_
    refine ForK.nxt ?_ ?_ ?_
    ·omega
    ·exact Ghost.kp [2,3,4,8,33,34,35] [2,3,4,1000] (by simp only [go_sem,hr,Int.natCast_zero,Int.toNat_zero,List.map_cons,List.map_nil,List.getElem?_cons_zero,List.take_zero,List.take_succ_cons]<;>first|exact eqz|rfl)
    ·trivial
   ·skip
    have hk1:k=1:=by have:=of_decide_eq_false hb36;simp at this;omega
    subst hk1
    refine Exec.exitS ?_
    refine ForK.ext ?_
    refine BlkK.hit ?_
    refine Exec.reg ?_
    refine Run.frz 1000 (by simp only [go_sem,List.take_succ_cons,List.take_zero]<;>rfl) ?_
    iterate 2 (refine Run.o1 V143 ?_)
    refine Run.c1 (c_newChain c h [f] (by simp) (fun x hx=>by rw [List.mem_singleton.1 hx];exact hf)) V143 V143 ?_
    refine Run.o1 V143 ?_
    refine Run.nil ?_
    refine Exec.reg ?_
    iterate 3 (refine Run.o1 V143 ?_)
    refine Run.nil ?_
    refine Exec.assocS ?_
    refine Exec.reg ?_
    iterate 6 (refine Run.o1 V143 ?_)
    refine Run.nil ?_
    refine Exec.blk ?_
    refine Exec.forA [3,4,11,12,52,53,54] [2,3,4,12,48] ((chainOf c [f]).length) (fun k=>[.slot 54 (.int k),.obj 48 (.map ((mI (chainOf c [f]) k).map encL))]) (fun _=>True) (fun k=>by simp only [go_sem]<;>rfl) (by simp only [go_sem,hr,List.take_succ_cons,List.take_zero,Int.natCast_zero,hm0,List.map_nil]<;>rfl) ?_ (fun k hk hX=>?_)
    ·trivial
    ·skip
     refine Exec.reg ?_
     refine Run.o1 V143 ?_
     refine Run.nil ?_
     refine Exec.cndS V143 (fun hb55=>?_) (fun hb55=>?_)
     ·skip
      have hlt:k<(chainOf c [f]).length:=by simpa using lt_of_dec hb55
      have hg:=pAt_get hlt
      have hst:mapSet 0 (.int .i64 (pAt (chainOf c [f]) k).fl) (false,[.d (.i (k:Int))]) ((mI (chainOf c [f]) k).map encL)=some ((mI (chainOf c [f]) (k+1)).map encL):=by rw [mL_set,set_new (mI_new hcp hlt),mI_succ]
      refine Exec.skipS ?_
      refine Exec.blk ?_
      refine Exec.reg ?_
      refine Run.o1 V137 ?_
      refine Run.o1 (by simp only [go_sem,hr,List.take_succ_cons,List.take_zero,hg,hst];(try simp (disch:=omega) only [if_pos]);(try simp only [go_sem,hr,List.take_succ_cons,List.take_zero,hg,hst])<;> rfl) ?_
      iterate 4 (refine Run.o1 V137 ?_)
      refine Run.nil ?_
      refine Exec.reg1 ?_
      iterate 5 (refine Run.o1 V137 ?_)
      refine Run.nil ?_
      refine BlkK.nrm ?_
      refine Exec.reg1 ?_
      refine Run.o1 (by simp only [go_sem,hr,List.take_succ_cons,List.take_zero,hg,hst];(try simp (disch:=omega) only [IntWalk.i64_in,IntWalk.u64_in,IntWalk.i32_in,IntWalk.u8_in,if_neg,if_pos])<;> rfl) ?_
      refine Run.o1 V137 ?_
      refine Run.nil ?_
      refine ForK.nxt ?_ ?_ ?_
      ·omega
      ·exact Ghost.kp [3,4,11,12,52,53,54] [2,3,4,12,48] (by simp only [go_sem,hr,List.take_succ_cons,List.take_zero,hg,hst]<;>first|exact eqz|rfl)
      ·trivial
     ·skip
      have hke:k=(chainOf c [f]).length:=by have:=ge_of_dec (l:=(chainOf c [f])) (by simpa using hb55);omega
      rw [hke]
      refine Exec.exitS ?_
      refine ForK.ext ?_
      refine BlkK.hit ?_
      refine Exec.reg ?_
      refine Run.o1 V143 ?_
      refine Run.nil ?_
      refine Exec.assocS ?_
      refine Exec.reg ?_
      refine Run.frz 3 V208 ?_
      refine Run.c1 (c_ends) V143 V143 ?_
      refine Run.o1 V143 ?_
      refine Run.nil ?_
      refine Exec.blk ?_
      refine Exec.forA [3,4,11,12,15,64,65] [4,12,48,15] (2) (fun k=>[.slot 65 (.int k),.obj 15 (.cells [.d (.i (if k=0 then 0 else (roundI false (bestI false c f n)))),.d (.i (if k≤1 then 0 else (roundI true (bestI true c f n))))])]) (fun _=>True) (fun k=>by simp only [go_sem]<;>rfl) (by simp only [go_sem,hr,List.take_succ_cons,List.take_zero,Int.natCast_zero,if_true,Nat.zero_le]<;>rfl) ?_ (fun k hk hX=>?_)
      ·trivial
      ·skip
       refine Exec.reg ?_
       refine Run.o1 V143 ?_
       refine Run.nil ?_
       refine Exec.cndS V143 (fun hb66=>?_) (fun hb66=>?_)
       ·skip
        have hk2:k<2:=by have:=of_decide_eq_true hb66;omega
        refine Exec.skipS ?_
        refine Exec.blk ?_
        by_cases hk0:k=0
        ·skip
         subst hk0
         have hrd:roundI false (bestI false c f n)=downI (bestI false c f n):=rfl
         refine Exec.reg ?_
         iterate 5 (refine Run.o1 V100 ?_)
         refine Run.nil ?_
         refine Exec.reg ?_
         refine Run.frz 17 V208 ?_
         iterate 3 (refine Run.o1 V100 ?_)
         refine Run.nil ?_
         refine Exec.reg ?_
         iterate 4 (refine Run.o1 V100 ?_)
         refine Run.nil ?_
         refine Exec.assocS ?_
         by_cases he:(chainOf c [f])=[]
         ·skip
          have hbe:=bestI_yes (n:=n) (side:=false) he
          have hl0:(((chainOf c [f]).length:Int)==0)=true:=by rw [he];rfl
          have hbd0:=hbd false
          rw [hbe] at hbd0 hrd
          refine Exec.reg ?_
          iterate 6 (refine Run.o1 V97 ?_)
          refine Run.nil ?_
          refine Exec.cndS V97 (fun hb75=>?_) (fun hb75=>?_)
          ·skip
           refine Exec.reg ?_
           refine Run.o1 V97 ?_
           refine Run.lendG [(907,12),(908,48)] V208 (c_Shown_2_0 f n hn (chainOf c [f]) hcp [] (span_SB (fun s hs=>by cases hs)) (fun ha=>by rw [he] at ha;cases ha)) V210 (.inr ⟨69,by simp only [go_sem]<;>rfl,by simp only [go_sem]<;>rfl⟩) V208 V2 rfl (by decide) V60 V57 V61 V101 V208 ?_
           iterate 2 (refine Run.o1 V97 ?_)
           refine Run.nil ?_
           refine Exec.reg ?_
           iterate 2 (refine Run.o1 V97 ?_)
           refine Run.lendG [(901,79),(905,18),(906,69),(907,12),(908,48),(904,19),(903,20)] V208 (c_pk_e0 c.steep hb.2.1 (chainOf c [f]) he hcp f n false (sumI false f n (chainOf c [f]) [])) V210 (.inl ⟨[],by simp only [go_sem]<;>rfl,rfl⟩) V208 V4 rfl (by decide) V60 V40 V42 V78 V208 ?_
           refine Run.nil ?_
           refine Exec.reg1 ?_
           iterate 4 (refine Run.o1 V97 ?_)
           refine Run.calw V208 (c_down (sumI false f n (chainOf c [f]) []) (by omega)) V210 V97 V97 V96 (fr0) V97 ?_
           refine Run.o1 V20 ?_
           refine Run.o1 V97 ?_
           refine Run.nil ?_
           refine BlkK.nrm ?_
           refine Exec.reg1 ?_
           refine Run.o1 V32 ?_
           refine Run.o1 V97 ?_
           refine Run.nil ?_
           refine ForK.nxt ?_ ?_ ?_
           ·omega
           ·exact Ghost.kp [3,4,11,12,15,64,65] [4,12,48,15] V11
           ·trivial
          ·exact absurd hb75 (by simp)
         ·skip
          have hbe:=bestI_no (n:=n) (side:=false) he
          have hl0:(((chainOf c [f]).length:Int)==0)=false:=by rw [len_isE];cases hq:(chainOf c [f]) with
           |nil=>exact absurd hq he
           |cons p r=>rfl
          have hbd0:=hbd false
          rw [hbe] at hbd0 hrd
          refine Exec.reg ?_
          iterate 6 (refine Run.o1 V97 ?_)
          refine Run.nil ?_
          refine Exec.cndS V97 (fun hb75=>?_) (fun hb75=>?_)
          ·exact absurd hb75 (by simp)
          ·skip
           refine Exec.skipS ?_
           refine Exec.reg ?_
           iterate 2 (refine Run.o1 V97 ?_)
           refine Run.lendG [(901,79),(905,18),(906,69),(907,12),(908,48),(904,19),(903,20)] V208 (c_pk_s0 c.steep hb.2.1 (chainOf c [f]) hcp f n hn) V210 (.inl ⟨[],by simp only [go_sem]<;>rfl,rfl⟩) V208 V4 rfl (by decide) V60 V40 V42 V78 V208 ?_
           refine Run.nil ?_
           refine Exec.reg1 ?_
           iterate 4 (refine Run.o1 V97 ?_)
           refine Run.calw V208 (c_down (bestL (farB false) true 0 ((peaksL c.steep (chainOf c [f])).map (sumI false f n (chainOf c [f])))) (by omega)) V210 V97 V97 V96 (fr0) V97 ?_
           refine Run.o1 V20 ?_
           refine Run.o1 V97 ?_
           refine Run.nil ?_
           refine BlkK.nrm ?_
           refine Exec.reg1 ?_
           refine Run.o1 V32 ?_
           refine Run.o1 V97 ?_
           refine Run.nil ?_
           refine ForK.nxt ?_ ?_ ?_
           ·omega
           ·exact Ghost.kp [3,4,11,12,15,64,65] [4,12,48,15] V11
           ·trivial
        ·skip
         have hk1:k=1:=by omega
         subst hk1
         have hrd:roundI true (bestI true c f n)=upI (bestI true c f n):=rfl
         have h10:¬(1:Nat)=0:=by decide
         refine Exec.reg ?_
         iterate 5 (refine Run.o1 V114 ?_)
         refine Run.nil ?_
         refine Exec.reg ?_
         refine Run.frz 17 V208 ?_
         iterate 3 (refine Run.o1 V114 ?_)
         refine Run.nil ?_
         refine Exec.reg ?_
         iterate 4 (refine Run.o1 V114 ?_)
         refine Run.nil ?_
         refine Exec.assocS ?_
         by_cases he:(chainOf c [f])=[]
         ·skip
          have hbe:=bestI_yes (n:=n) (side:=true) he
          have hl0:(((chainOf c [f]).length:Int)==0)=true:=by rw [he];rfl
          have hbd0:=hbd true
          rw [hbe] at hbd0 hrd
          refine Exec.reg ?_
          iterate 6 (refine Run.o1 V111 ?_)
          refine Run.nil ?_
          refine Exec.cndS V111 (fun hb75=>?_) (fun hb75=>?_)
          ·skip
           refine Exec.reg ?_
           refine Run.o1 V111 ?_
           refine Run.lendG [(907,12),(908,48)] V208 (c_Shown_2_1 f n hn (chainOf c [f]) hcp [] (span_SB (fun s hs=>by cases hs)) (fun ha=>by rw [he] at ha;cases ha)) V210 (.inr ⟨69,by simp only [go_sem]<;>rfl,by simp only [go_sem]<;>rfl⟩) V208 V2 rfl (by decide) V60 V57 V61 V101 V208 ?_
           iterate 2 (refine Run.o1 V111 ?_)
           refine Run.nil ?_
           refine Exec.reg ?_
           iterate 2 (refine Run.o1 V111 ?_)
           refine Run.lendG [(901,79),(905,18),(906,69),(907,12),(908,48),(904,19),(903,20)] V208 (c_pk_e1 c.steep hb.2.1 (chainOf c [f]) he hcp f n false (sumI true f n (chainOf c [f]) [])) V210 (.inl ⟨[],by simp only [go_sem]<;>rfl,rfl⟩) V208 V4 rfl (by decide) V60 V40 V42 V78 V208 ?_
           refine Run.nil ?_
           refine Exec.reg1 ?_
           iterate 4 (refine Run.o1 V111 ?_)
           refine Run.calw V208 (c_up (sumI true f n (chainOf c [f]) []) (by omega)) V210 V111 V111 V31 (fr0) V111 ?_
           refine Run.o1 V27 ?_
           refine Run.o1 V111 ?_
           refine Run.nil ?_
           refine BlkK.nrm ?_
           refine Exec.reg1 ?_
           refine Run.o1 V39 ?_
           refine Run.o1 V111 ?_
           refine Run.nil ?_
           refine ForK.nxt ?_ ?_ ?_
           ·omega
           ·exact Ghost.kp [3,4,11,12,15,64,65] [4,12,48,15] V13
           ·trivial
          ·exact absurd hb75 (by simp)
         ·skip
          have hbe:=bestI_no (n:=n) (side:=true) he
          have hl0:(((chainOf c [f]).length:Int)==0)=false:=by rw [len_isE];cases hq:(chainOf c [f]) with
           |nil=>exact absurd hq he
           |cons p r=>rfl
          have hbd0:=hbd true
          rw [hbe] at hbd0 hrd
          refine Exec.reg ?_
          iterate 6 (refine Run.o1 V111 ?_)
          refine Run.nil ?_
          refine Exec.cndS V111 (fun hb75=>?_) (fun hb75=>?_)
          ·exact absurd hb75 (by simp)
          ·skip
           refine Exec.skipS ?_
           refine Exec.reg ?_
           iterate 2 (refine Run.o1 V111 ?_)
           refine Run.lendG [(901,79),(905,18),(906,69),(907,12),(908,48),(904,19),(903,20)] V208 (c_pk_s1 c.steep hb.2.1 (chainOf c [f]) hcp f n hn) V210 (.inl ⟨[],by simp only [go_sem]<;>rfl,rfl⟩) V208 V4 rfl (by decide) V60 V40 V42 V78 V208 ?_
           refine Run.nil ?_
           refine Exec.reg1 ?_
           iterate 4 (refine Run.o1 V111 ?_)
           refine Run.calw V208 (c_up (bestL (farB true) true 0 ((peaksL c.steep (chainOf c [f])).map (sumI true f n (chainOf c [f])))) (by omega)) V210 V111 V111 V31 (fr0) V111 ?_
           refine Run.o1 V27 ?_
           refine Run.o1 V111 ?_
           refine Run.nil ?_
           refine BlkK.nrm ?_
           refine Exec.reg1 ?_
           refine Run.o1 V39 ?_
           refine Run.o1 V111 ?_
           refine Run.nil ?_
           refine ForK.nxt ?_ ?_ ?_
           ·omega
           ·exact Ghost.kp [3,4,11,12,15,64,65] [4,12,48,15] V13
           ·trivial
       ·skip
        have hk2:k=2:=by have:=of_decide_eq_false hb66;omega
        subst hk2
        have h20:¬(2:Nat)=0:=by decide
        have h21:¬(2:Nat)≤1:=by decide
        refine Exec.exitS ?_
        refine ForK.ext ?_
        refine BlkK.hit ?_
        refine Exec.reg ?_
        refine Run.o1 V43 ?_
        refine Run.o1 V126 ?_
        refine Run.o1 V43 ?_
        iterate 4 (refine Run.o1 V126 ?_)
        refine Run.nil ?_
        exact Ends.fin [] (rs:=[.cell 4 40,.tmp 5]) rfl V126 (by simp only [go_sem,hr,List.take_succ_cons,List.take_zero,h20,h21,if_false]<;>first|rfl|exact eqz)
end Go.Mw
namespace Go.Mw
open Go.Proofs
open Go.Li
attribute [local go_sem] decide_true beq_self_eq_true bne_self_eq_false
theorem aw_choose:chooseL [⟨10,2⟩,⟨30,1⟩] ⟨3,1,false,2,60⟩=some ⟨[⟨10,30⟩],0⟩:=by kernel_rfl
theorem aw_ch:chV [⟨10,2⟩,⟨30,1⟩] ⟨3,1,false,2,60⟩=.tup [(true,[.d (prsD [⟨10,30⟩]),.d (.i 0)]),(false,[.d (.i 2)]),(false,[.d (.i 0)])]:=by rw [chV_some aw_choose];rfl
theorem aw_at:atR ⟨5,0,[]⟩ 3=.tup [(true,[.d (.i (-1000)),.d (.i (-1000))]),(false,[.d (.i 0)])]:=by rfl
theorem c_awake03:Contract Try.prog 7 [] (.bool true) []:=by
 refine con_of follows_mixed Try.func7 rfl (by simp only [List.length_cons,List.length_nil,Try.ntmps7];omega) V215 rfl ?_
 refine Exec.reg ?_
 refine Run.o1 V70 ?_
 refine Run.nil ?_
 refine Exec.reg ?_
 iterate 4 (refine Run.o1 V70 ?_)
 refine Run.frz 9 V208 ?_
 refine Run.c1 (c_Choose [⟨10,2⟩,⟨30,1⟩] ⟨3,1,false,2,60⟩ (by decide) (by decide)) V70 V70 ?_
 iterate 8 (refine Run.o1 V70 ?_)
 refine Run.nil ?_
 refine Exec.reg ?_
 refine Run.o1 V70 ?_
 refine Run.nildA 16 2 3 V208 V208 V208 ?_
 refine Run.c1 (c_At ⟨5,0,[]⟩ (by decide) 3 (by decide)) V70 V70 ?_
 iterate 6 (refine Run.o1 V70 ?_)
 refine Run.nil ?_
 refine Exec.reg ?_
 iterate 5 (refine Run.o1 V70 ?_)
 iterate 2 (refine Run.y1 V70 ?_)
 refine Run.y1 (by simp only [go_sem,aw_ch,aw_at,Bool.true_and,List.length_cons,List.length_nil,List.map_cons,List.map_nil,Int.toNat_zero,List.getElem?_cons_zero];(try simp (disch:=omega) only [if_pos]);(try simp only [go_sem,aw_ch,aw_at,Bool.true_and,List.length_cons,List.length_nil,List.map_cons,List.map_nil,Int.toNat_zero,List.getElem?_cons_zero])<;> rfl) ?_
 iterate 3 (refine Run.y1 V70 ?_)
 iterate 2 (refine Run.o1 V70 ?_)
 iterate 2 (refine Run.y1 V70 ?_)
 iterate 2 (refine Run.o1 V70 ?_)
 iterate 2 (refine Run.y1 V70 ?_)
 iterate 2 (refine Run.o1 V70 ?_)
 iterate 3 (refine Run.y1 V70 ?_)
 iterate 2 (refine Run.o1 V70 ?_)
 iterate 2 (refine Run.y1 V70 ?_)
 iterate 2 (refine Run.o1 V70 ?_)
 refine Run.nil ?_
 exact Ends.fin [] (rs:=[.tmp 0]) rfl V70 (by simp only [go_sem,aw_ch,aw_at,Bool.true_and,List.length_cons,List.length_nil,List.map_cons,List.map_nil,Int.toNat_zero,List.getElem?_cons_zero]<;>first|rfl|exact eqz)
theorem law_ok {l:List Whl}{g:Gr}{c:Cv}(hs:stockB l=true)(hg:gearB g=true)(hc:curveB c=true)(hcan:canB c.steep c.ps=true){t:Tr}(ht:chooseL l g=some t){f n x:Int}(hn:0≤n∧n≤65535)(h1:(atS c f).lo≤x)(h2:x≤(atS c f).hi) :
  TeethOK t.ps∧t.ps.length≤3∧(-1000≤x∧x≤1000)∧roundsI t.ps (g.turns*n*(1000+x) / (1000*g.rounds))≤roundI true (bestI true c f n) ∧
   roundI false (bestI false c f n)-1-(g.rounds+g.turns-1) / g.turns≤roundsI t.ps (g.turns*n*(1000+x) / (1000*g.rounds)):=by
 obtain ⟨g1,g2,g3,g4⟩:=gearB_bd hg
 obtain ⟨c1,c2,c3⟩:=chooseL_ok hs ht
 have c2':t.ps.length≤3:=by omega
 obtain ⟨s1,s2,s3⟩:=shown_law (x:=x) hc hcan (f:=f) hn.1
 obtain ⟨s4,s5⟩:=s3 h1 h2
 have hx:-1000≤x∧x≤1000:=by have:=s2.1;have:=s2.2;omega
 have hd:=drives_bd c1 c2'
 have hv:=driven_bd c1 c2'
 have hW:=(mulN (a:=n) (b:=1000+x) (A:=65535) (B:=2000) hn (by omega)).1
 have hlaw:=turns_law (T:=g.turns) (R:=g.rounds) (D:=drives t.ps) (V:=driven t.ps) (W:=n*(1000+x)) g1.1 g2.1 hd.1 hv.1 hW c3
 rw [←Int.mul_assoc] at hlaw
 have hnn:0≤g.turns*n*(1000+x) / (1000*g.rounds):=Int.ediv_nonneg (by rw [Int.mul_assoc];exact Int.mul_nonneg (by omega) hW) (by omega)
 have hr:roundsI t.ps (g.turns*n*(1000+x) / (1000*g.rounds))=g.turns*n*(1000+x) / (1000*g.rounds)*drives t.ps / driven t.ps:=by
  unfold roundsI
  exact Int.tdiv_eq_ediv_of_nonneg (Int.mul_nonneg hnn (by omega))
 rw [hr]
 have s4:roundI false (bestI false c f n)≤n*(1000+x) / 1000:=s4
 have s5:n*(1000+x) / 1000≤roundI true (bestI true c f n):=s5
 refine ⟨c1,c2',hx,by omega,?_⟩
 omega
theorem c_TopLitres (l:List Whl)(g:Gr)(c:Cv)(f n b:Int)(hf:0≤f∧f≤65535)(hn:0≤n∧n≤65535)(hb:0≤b∧b≤65535):Contract Try.prog 3 [.leaf (.d (whsD l)),grV g,cvV c,.raw (.int .u16 f),.raw (.int .u16 n),.raw (.int .u16 b)] (.bool true) []:=by
 have q40:((4:Int) != 0)=true:=rfl
 have q41:((4:Int)==0)=false:=rfl
 have q60:((6:Int) != 0)=true:=rfl
 have q61:((6:Int)==0)=false:=rfl
 refine con_of follows_mixed Try.func3 rfl (by simp only [List.length_cons,List.length_nil,Try.ntmps3];omega) V215 rfl ?_
 refine Exec.reg ?_
 iterate 3 (refine Run.o1 (by simp only [go_sem,q40,q41,q60,q61]<;>rfl) ?_)
 refine Run.nil ?_
 refine Exec.assocS ?_
 by_cases v1:l.length≤5
 ·skip
  have d1:decide ((l.length:Int)>5)=false:=decide_eq_false (by omega)
  by_cases v2:c.ps.length≤16
  ·skip
   have d2:decide ((c.ps.length:Int)>16)=false:=decide_eq_false (by omega)
   by_cases hs:stockB l=true
   ·skip
    by_cases hg:gearB g=true
    ·skip
     by_cases hc:curveB c=true
     ·skip
      refine Exec.reg ?_
      iterate 4 (refine Run.o1 V134 ?_)
      iterate 4 (refine Run.y1 V134 ?_)
      iterate 2 (refine Run.o1 V134 ?_)
      refine Run.y1 V134 ?_
      refine Run.calw V208 (c_meterworksref01_Stock l (by omega)) V210 V134 V134 V96 (fr0) V134 ?_
      refine Run.y1 V134 ?_
      iterate 2 (refine Run.o1 V134 ?_)
      refine Run.y1 V134 ?_
      refine Run.calw V208 (c_meterworksref01_Gearing g) V210 V134 V134 V96 (fr0) V134 ?_
      refine Run.y1 V134 ?_
      iterate 2 (refine Run.o1 V134 ?_)
      refine Run.y1 V134 ?_
      refine Run.calw V208 (c_meterworksref03_Curve c (by omega)) V210 V134 V134 V96 (fr0) V134 ?_
      refine Run.y1 V134 ?_
      refine Run.o1 V134 ?_
      refine Run.nil ?_
      refine Exec.cndS V134 (fun hb47=>?_) (fun hb47=>?_)
      ·exact absurd hb47 (by simp)
      ·skip
       refine Exec.skipS ?_
       by_cases hch:chooseL l g=none
       ·skip
        have hcv:=chV_none hch
        refine Exec.reg ?_
        iterate 2 (refine Run.o1 V127 ?_)
        refine Run.c1 (c_Choose l g hs hg) V127 V127 ?_
        iterate 8 (refine Run.o1 V127 ?_)
        refine Run.nil ?_
        by_cases hcan:canB c.steep c.ps=true
        ·skip
         have hat:=atR_yes (f:=f) hcan
         refine Exec.reg ?_
         iterate 2 (refine Run.o1 V122 ?_)
         refine Run.o1 V50 ?_
         refine Run.c1 (c_At c hc f (by omega)) V122 V122 ?_
         iterate 6 (refine Run.o1 V122 ?_)
         refine Run.nil ?_
         refine Exec.assocS ?_
         refine Exec.reg ?_
         iterate 3 (refine Run.o1 V122 ?_)
         iterate 2 (refine Run.s ?_)
         refine Run.o1 V122 ?_
         refine Run.nil ?_
         refine Exec.cndS V122 (fun hb68=>?_) (fun hb68=>?_)
         ·skip
          refine Exec.assocS ?_
          refine Exec.reg ?_
          iterate 3 (refine Run.o1 V122 ?_)
          iterate 2 (refine Run.y1 V122 ?_)
          iterate 2 (refine Run.o1 V122 ?_)
          iterate 3 (refine Run.y1 V122 ?_)
          iterate 2 (refine Run.s ?_)
          refine Run.y1 V122 ?_
          iterate 2 (refine Run.o1 V122 ?_)
          refine Run.calw V208 (c_awake03) V210 V122 V122 (by exact trivial) (fr0) V122 ?_
          iterate 2 (refine Run.o1 V122 ?_)
          refine Run.nil ?_
          refine Exec.retS ?_
          exact Ends.fin [] (rs:=[.tmp 12]) rfl V122 V110
         ·exact absurd hb68 (by simp)
        ·skip
         have hcan:canB c.steep c.ps=false:=by simpa using hcan
         have hat:=atR_no (f:=f) hcan
         refine Exec.reg ?_
         iterate 2 (refine Run.o1 V122 ?_)
         refine Run.o1 V50 ?_
         refine Run.c1 (c_At c hc f (by omega)) V122 V122 ?_
         iterate 6 (refine Run.o1 V122 ?_)
         refine Run.nil ?_
         refine Exec.assocS ?_
         refine Exec.reg ?_
         iterate 3 (refine Run.o1 V122 ?_)
         iterate 2 (refine Run.s ?_)
         refine Run.o1 V122 ?_
         refine Run.nil ?_
         refine Exec.cndS V122 (fun hb68=>?_) (fun hb68=>?_)
         ·skip
          refine Exec.assocS ?_
          refine Exec.reg ?_
          iterate 3 (refine Run.o1 V122 ?_)
          iterate 2 (refine Run.y1 V122 ?_)
          iterate 2 (refine Run.o1 V122 ?_)
          iterate 6 (refine Run.y1 V122 ?_)
          iterate 2 (refine Run.o1 V122 ?_)
          refine Run.calw V208 (c_awake03) V210 V122 V122 (by exact trivial) (fr0) V122 ?_
          iterate 2 (refine Run.o1 V122 ?_)
          refine Run.nil ?_
          refine Exec.retS ?_
          exact Ends.fin [] (rs:=[.tmp 12]) rfl V122 V110
         ·exact absurd hb68 (by simp)
       ·skip
        obtain ⟨t,ht⟩:∃t,chooseL l g=some t:=by
         cases hq:chooseL l g with
         |none=>exact absurd hq hch
         |some t=>exact ⟨t,rfl⟩
        have hcv:=chV_some ht
        refine Exec.reg ?_
        iterate 2 (refine Run.o1 V127 ?_)
        refine Run.c1 (c_Choose l g hs hg) V127 V127 ?_
        iterate 8 (refine Run.o1 V127 ?_)
        refine Run.nil ?_
        by_cases hcan:canB c.steep c.ps=true
        ·skip
         have hat:=atR_yes (f:=f) hcan
         refine Exec.reg ?_
         iterate 2 (refine Run.o1 V122 ?_)
         refine Run.o1 V50 ?_
         refine Run.c1 (c_At c hc f (by omega)) V122 V122 ?_
         iterate 6 (refine Run.o1 V122 ?_)
         refine Run.nil ?_
         refine Exec.assocS ?_
         refine Exec.reg ?_
         iterate 3 (refine Run.o1 V122 ?_)
         iterate 2 (refine Run.y1 V122 ?_)
         refine Run.o1 V122 ?_
         refine Run.nil ?_
         refine Exec.cndS V122 (fun hb68=>?_) (fun hb68=>?_)
         ·exact absurd hb68 (by simp)
         ·skip
          obtain ⟨g1,g2,g3,g4⟩:=gearB_bd hg
          obtain ⟨s1,s2,_⟩:=shown_law (x:=0) hc hcan (f:=f) hn.1
          have hlo:=s2.1
          have hhi:=s2.2
          have d90:decide ((atS c f).lo>(atS c f).hi)=false:=decide_eq_false (by omega)
          have hz:¬(atS c f).hi-(atS c f).lo+1=0:=by omega
          have r1:0≤b.tmod ((atS c f).hi-(atS c f).lo+1):=by rw [Int.tmod_eq_emod_of_nonneg hb.1];exact Int.emod_nonneg _ hz
          have r2:b.tmod ((atS c f).hi-(atS c f).lo+1)<(atS c f).hi-(atS c f).lo+1:=by rw [Int.tmod_eq_emod_of_nonneg hb.1];exact Int.emod_lt_of_pos _ (by omega)
          have hlaw:=law_ok hs hg hc hcan ht (f:=f) hn (x:=((atS c f).lo+(b:Int).tmod ((atS c f).hi-(atS c f).lo+1))) (by omega) (by omega)
          have hsh:=shR_yes (f:=f) (n:=n) hcan
          have m1:=mulN (a:=g.turns) (b:=n) (A:=1000) (B:=65535) (by omega) (by omega)
          have m2:=mulN (a:=g.turns*n) (b:=1000+((atS c f).lo+(b:Int).tmod ((atS c f).hi-(atS c f).lo+1))) (A:=65535000) (B:=2000) (by omega) (by omega)
          have hz2:¬ 1000*g.rounds=0:=by omega
          have e1:(g.turns*n*(1000+((atS c f).lo+(b:Int).tmod ((atS c f).hi-(atS c f).lo+1)))).tdiv (1000*g.rounds)=(g.turns*n*(1000+((atS c f).lo+(b:Int).tmod ((atS c f).hi-(atS c f).lo+1))) / (1000*g.rounds)):=Int.tdiv_eq_ediv_of_nonneg m2.1
          have b1:0≤(g.turns*n*(1000+((atS c f).lo+(b:Int).tmod ((atS c f).hi-(atS c f).lo+1))) / (1000*g.rounds)):=Int.ediv_nonneg m2.1 (by omega)
          have b2:(g.turns*n*(1000+((atS c f).lo+(b:Int).tmod ((atS c f).hi-(atS c f).lo+1))) / (1000*g.rounds))≤g.turns*n*(1000+((atS c f).lo+(b:Int).tmod ((atS c f).hi-(atS c f).lo+1))):=Int.ediv_le_self _ m2.1
          have hz3:¬g.turns=0:=by omega
          have e2:(g.rounds+g.turns-1).tdiv g.turns=(g.rounds+g.turns-1) / g.turns:=Int.tdiv_eq_ediv_of_nonneg (by omega)
          have b3:0≤(g.rounds+g.turns-1) / g.turns:=Int.ediv_nonneg (by omega) (by omega)
          have b4:(g.rounds+g.turns-1) / g.turns≤g.rounds+g.turns-1:=Int.ediv_le_self _ (by omega)
          have l1:=hlaw.2.2.2.1
          have l2:=hlaw.2.2.2.2
          have bb:=bestI_bd (c:=c) (curveB_bd hc).2.1.1 (f:=f) (cp_of hc (fs:=[f]) (by simp) (fun x hx=>by rw [List.mem_singleton.1 hx];omega)) (n:=n) (by omega) false
          have bd:=downI_bd (bestI false c f n) (by omega)
          have bd2:roundI false (bestI false c f n)=downI (bestI false c f n):=rfl
          have d145:decide (roundsI t.ps (g.turns*n*(1000+((atS c f).lo+(b:Int).tmod ((atS c f).hi-(atS c f).lo+1))) / (1000*g.rounds))≤roundI true (bestI true c f n))=true:=decide_eq_true l1
          have d162:decide (roundsI t.ps (g.turns*n*(1000+((atS c f).lo+(b:Int).tmod ((atS c f).hi-(atS c f).lo+1))) / (1000*g.rounds))≥roundI false (bestI false c f n)-1-(g.rounds+g.turns-1) / g.turns)=true:=decide_eq_true l2
          refine Exec.skipS ?_
          refine Exec.assocS ?_
          refine Exec.reg ?_
          iterate 5 (refine Run.o1 V83 ?_)
          refine Run.nil ?_
          refine Exec.cndS V83 (fun hb90=>?_) (fun hb90=>?_)
          ·exact absurd hb90 (by simp)
          ·skip
           refine Exec.skipS ?_
           refine Exec.opk 15 ?_
           iterate 3 (refine OpenK.o1 V83 ?_)
           refine OpenK.o1 V28 ?_
           iterate 4 (refine OpenK.o1 V83 ?_)
           iterate 4 (refine OpenK.o1 V28 ?_)
           refine OpenK.o1 V83 ?_
           refine OpenK.nil (OpenE.fin V212 V212 ?_)
           refine Exec.reg ?_
           iterate 2 (refine Run.o1 V83 ?_)
           refine Run.o1 V28 ?_
           refine Run.o1 V83 ?_
           refine Run.o1 V28 ?_
           iterate 2 (refine Run.o1 V83 ?_)
           refine Run.frz 110 V208 ?_
           refine Run.c1 (c_Shown c hc f n (by omega) (by omega)) V83 V83 ?_
           iterate 6 (refine Run.o1 V83 ?_)
           refine Run.nil ?_
           refine Exec.reg ?_
           iterate 3 (refine Run.o1 V83 ?_)
           iterate 2 (refine Run.o1 V28 ?_)
           refine Run.o1 V83 ?_
           iterate 2 (refine Run.o1 V28 ?_)
           iterate 2 (refine Run.o1 V83 ?_)
           iterate 2 (refine Run.o1 V28 ?_)
           refine Run.o1 V83 ?_
           refine Run.nil ?_
           refine Exec.assocS ?_
           refine Exec.reg ?_
           iterate 2 (refine Run.o1 V83 ?_)
           refine Run.nil ?_
           refine Exec.cndS V83 (fun hb127=>?_) (fun hb127=>?_)
           ·skip
            refine Exec.assocS ?_
            refine Exec.reg ?_
            refine Run.c1 (c_awake03) V83 V83 ?_
            refine Run.o1 V83 ?_
            refine Run.nil ?_
            refine Exec.retS ?_
            exact Ends.fin [] (rs:=[.tmp 12]) rfl V83 V66
           ·skip
            have hle:=of_decide_eq_false hb127
            refine Exec.skipS ?_
            refine Exec.reg ?_
            iterate 2 (refine Run.o1 V83 ?_)
            refine Run.c1 (c_Rounds t hlaw.1 hlaw.2.1 (g.turns*n*(1000+((atS c f).lo+(b:Int).tmod ((atS c f).hi-(atS c f).lo+1))) / (1000*g.rounds)) (by omega)) V83 V83 ?_
            iterate 5 (refine Run.o1 V83 ?_)
            refine Run.nil ?_
            refine Exec.opk 35 ?_
            iterate 3 (refine OpenK.o1 V83 ?_)
            iterate 2 (refine OpenK.y1 V83 ?_)
            iterate 2 (refine OpenK.o1 V83 ?_)
            iterate 4 (refine OpenK.y1 V83 ?_)
            iterate 2 (refine OpenK.o1 V83 ?_)
            iterate 3 (refine OpenK.y1 V83 ?_)
            refine OpenK.y1 V28 ?_
            iterate 4 (refine OpenK.y1 V83 ?_)
            iterate 2 (refine OpenK.y1 V28 ?_)
            iterate 2 (refine OpenK.y1 V83 ?_)
            iterate 2 (refine OpenK.y1 V28 ?_)
            refine OpenK.y1 V83 ?_
            iterate 2 (refine OpenK.o1 V83 ?_)
            refine OpenK.calw V208 (c_awake03) V210 V83 V83 (by exact trivial) (fr0) V83 V208 V208 ?_
            iterate 2 (refine OpenK.o1 V83 ?_)
            refine OpenK.nil (OpenE.finT V215 V215 V215 ?_)
            exact Ends.fin [] (rs:=[.tmp 12]) rfl V83 V66
        ·skip
         have hcan:canB c.steep c.ps=false:=by simpa using hcan
         have hat:=atR_no (f:=f) hcan
         refine Exec.reg ?_
         iterate 2 (refine Run.o1 V122 ?_)
         refine Run.o1 V50 ?_
         refine Run.c1 (c_At c hc f (by omega)) V122 V122 ?_
         iterate 6 (refine Run.o1 V122 ?_)
         refine Run.nil ?_
         refine Exec.assocS ?_
         refine Exec.reg ?_
         iterate 3 (refine Run.o1 V122 ?_)
         iterate 2 (refine Run.y1 V122 ?_)
         refine Run.o1 V122 ?_
         refine Run.nil ?_
         refine Exec.cndS V122 (fun hb68=>?_) (fun hb68=>?_)
         ·skip
          refine Exec.assocS ?_
          refine Exec.reg ?_
          iterate 3 (refine Run.o1 V122 ?_)
          iterate 2 (refine Run.s ?_)
          iterate 2 (refine Run.o1 V122 ?_)
          iterate 6 (refine Run.y1 V122 ?_)
          iterate 2 (refine Run.o1 V122 ?_)
          refine Run.calw V208 (c_awake03) V210 V122 V122 (by exact trivial) (fr0) V122 ?_
          iterate 2 (refine Run.o1 V122 ?_)
          refine Run.nil ?_
          refine Exec.retS ?_
          exact Ends.fin [] (rs:=[.tmp 12]) rfl V122 V110
         ·exact absurd hb68 (by simp)
     ·skip
      have hc:curveB c=false:=by simpa using hc
      refine Exec.reg ?_
      iterate 4 (refine Run.o1 V118 ?_)
      iterate 4 (refine Run.y1 V118 ?_)
      iterate 2 (refine Run.o1 V118 ?_)
      refine Run.y1 V118 ?_
      refine Run.calw V208 (c_meterworksref01_Stock l (by omega)) V210 V118 V118 V96 (fr0) V118 ?_
      refine Run.y1 V118 ?_
      iterate 2 (refine Run.o1 V118 ?_)
      refine Run.y1 V118 ?_
      refine Run.calw V208 (c_meterworksref01_Gearing g) V210 V118 V118 V96 (fr0) V118 ?_
      refine Run.y1 V118 ?_
      iterate 2 (refine Run.o1 V118 ?_)
      refine Run.y1 V118 ?_
      refine Run.calw V208 (c_meterworksref03_Curve c (by omega)) V210 V118 V118 V96 (fr0) V118 ?_
      refine Run.y1 V118 ?_
      refine Run.o1 V118 ?_
      refine Run.nil ?_
      refine Exec.cndS V118 (fun hb47=>?_) (fun hb47=>?_)
      ·skip
       refine Exec.assocS ?_
       refine Exec.reg ?_
       refine Run.c1 (c_awake03) V118 V118 ?_
       refine Run.o1 V118 ?_
       refine Run.nil ?_
       refine Exec.retS ?_
       exact Ends.fin [] (rs:=[.tmp 12]) rfl V118 (by simp only [go_sem,q40,q41,q60,q61,d1,d2,hs,Bool.not_true,hg,hc,Bool.not_false]<;>first|rfl|exact eqz)
      ·exact absurd hb47 (by simp)
    ·skip
     have hg:gearB g=false:=by simpa using hg
     refine Exec.reg ?_
     iterate 4 (refine Run.o1 V121 ?_)
     iterate 4 (refine Run.y1 V121 ?_)
     iterate 2 (refine Run.o1 V121 ?_)
     refine Run.y1 V121 ?_
     refine Run.calw V208 (c_meterworksref01_Stock l (by omega)) V210 V121 V121 V96 (fr0) V121 ?_
     refine Run.y1 V121 ?_
     iterate 2 (refine Run.o1 V121 ?_)
     refine Run.y1 V121 ?_
     refine Run.calw V208 (c_meterworksref01_Gearing g) V210 V121 V121 V96 (fr0) V121 ?_
     refine Run.y1 V121 ?_
     iterate 2 (refine Run.o1 V121 ?_)
     iterate 3 (refine Run.s ?_)
     refine Run.o1 V121 ?_
     refine Run.nil ?_
     refine Exec.cndS V121 (fun hb47=>?_) (fun hb47=>?_)
     ·skip
      refine Exec.assocS ?_
      refine Exec.reg ?_
      refine Run.c1 (c_awake03) V121 V121 ?_
      refine Run.o1 V121 ?_
      refine Run.nil ?_
      refine Exec.retS ?_
      exact Ends.fin [] (rs:=[.tmp 12]) rfl V121 (by simp only [go_sem,q40,q41,q60,q61,d1,d2,hs,Bool.not_true,hg,Bool.not_false]<;>first|rfl|exact eqz)
     ·exact absurd hb47 (by simp)
   ·skip
    have hs:stockB l=false:=by simpa using hs
    refine Exec.reg ?_
    iterate 4 (refine Run.o1 V138 ?_)
    iterate 4 (refine Run.y1 V138 ?_)
    iterate 2 (refine Run.o1 V138 ?_)
    refine Run.y1 V138 ?_
    refine Run.calw V208 (c_meterworksref01_Stock l (by omega)) V210 V138 V138 V96 (fr0) V138 ?_
    refine Run.y1 V138 ?_
    iterate 2 (refine Run.o1 V138 ?_)
    iterate 3 (refine Run.s ?_)
    iterate 2 (refine Run.o1 V138 ?_)
    iterate 3 (refine Run.s ?_)
    refine Run.o1 V138 ?_
    refine Run.nil ?_
    refine Exec.cndS V138 (fun hb47=>?_) (fun hb47=>?_)
    ·skip
     refine Exec.assocS ?_
     refine Exec.reg ?_
     refine Run.c1 (c_awake03) V138 V138 ?_
     refine Run.o1 V138 ?_
     refine Run.nil ?_
     refine Exec.retS ?_
     exact Ends.fin [] (rs:=[.tmp 12]) rfl V138 (by simp only [go_sem,q40,q41,q60,q61,d1,d2,hs,Bool.not_false]<;>first|rfl|exact eqz)
    ·exact absurd hb47 (by simp)
  ·skip
   have d2:decide ((c.ps.length:Int)>16)=true:=decide_eq_true (by omega)
   refine Exec.reg ?_
   iterate 4 (refine Run.o1 V155 ?_)
   iterate 4 (refine Run.y1 V155 ?_)
   iterate 2 (refine Run.o1 V155 ?_)
   iterate 3 (refine Run.s ?_)
   iterate 2 (refine Run.o1 V155 ?_)
   iterate 3 (refine Run.s ?_)
   iterate 2 (refine Run.o1 V155 ?_)
   iterate 3 (refine Run.s ?_)
   refine Run.o1 V155 ?_
   refine Run.nil ?_
   refine Exec.cndS V155 (fun hb47=>?_) (fun hb47=>?_)
   ·skip
    refine Exec.assocS ?_
    refine Exec.reg ?_
    refine Run.c1 (c_awake03) V155 V155 ?_
    refine Run.o1 V155 ?_
    refine Run.nil ?_
    refine Exec.retS ?_
    exact Ends.fin [] (rs:=[.tmp 12]) rfl V155 (by simp only [go_sem,q40,q41,q60,q61,d1,d2]<;>first|rfl|exact eqz)
   ·exact absurd hb47 (by simp)
 ·skip
  have d1:decide ((l.length:Int)>5)=true:=decide_eq_true (by omega)
  refine Exec.reg ?_
  iterate 4 (refine Run.o1 V166 ?_)
  iterate 4 (refine Run.s ?_)
  iterate 2 (refine Run.o1 V166 ?_)
  iterate 3 (refine Run.s ?_)
  iterate 2 (refine Run.o1 V166 ?_)
  iterate 3 (refine Run.s ?_)
  iterate 2 (refine Run.o1 V166 ?_)
  iterate 3 (refine Run.s ?_)
  refine Run.o1 V166 ?_
  refine Run.nil ?_
  refine Exec.cndS V166 (fun hb47=>?_) (fun hb47=>?_)
  ·skip
   refine Exec.assocS ?_
   refine Exec.reg ?_
   refine Run.c1 (c_awake03) V166 V166 ?_
   refine Run.o1 V166 ?_
   refine Run.nil ?_
   refine Exec.retS ?_
   exact Ends.fin [] (rs:=[.tmp 12]) rfl V166 (by simp only [go_sem,q40,q41,q60,q61,d1]<;>first|rfl|exact eqz)
  ·exact absurd hb47 (by simp)
end Go.Mw
namespace Go.Mw
open Go.Proofs Go.RowKit Go.ChangeShapes Go.WideShapes Go.Li
theorem rows_map {α:Type}{f:α→List D}:∀ {rows:List (List D)},(∀r∈rows,∃x,r=f x)→∃l:List α,rows=l.map f
 |[],_=>⟨[],rfl⟩
 |r::rows,h=>by
  obtain ⟨x,rfl⟩:=h r (by simp)
  obtain ⟨l,rfl⟩:=rows_map (rows:=rows) fun q hq=>h q (List.mem_cons_of_mem _ hq)
  exact ⟨x::l,rfl⟩
section
variable {H:Type} {enc:TypeId × Value→H} {P:Program} {W:World} {base:Nat} {spare:Nat→Bool} {held:Bool} {v:Value} {d:DataW H} {ps:List MemPlace}
theorem trodAll_six {t0 t1 t2 t3 t4 t5:TypeId}{args:Array Value}{ds:List (DataW H)}(h:DataW.TrodAll enc P W base spare held [t0,t1,t2,t3,t4,t5] args.toList ds ps) :
  ∃v0 v1 v2 v3 v4 v5 d0 d1 d2 d3 d4 d5 p0 p1 p2 p3 p4 p5,args=#[v0,v1,v2,v3,v4,v5]∧ds=[d0,d1,d2,d3,d4,d5]∧ps=p0++p1++p2++p3++p4++p5∧DataW.Trod enc P W base spare held t0 v0 d0 p0∧DataW.Trod enc P W base spare held t1 v1 d1 p1 ∧
   DataW.Trod enc P W base spare held t2 v2 d2 p2∧DataW.Trod enc P W base spare held t3 v3 d3 p3∧DataW.Trod enc P W base spare held t4 v4 d4 p4∧DataW.Trod enc P W base spare held t5 v5 d5 p5:=by
 obtain ⟨v0,vs0,d0,ds0,p0,q0,hargs,rfl,rfl,h0,h⟩:=trodAll_cons h
 obtain ⟨v1,vs1,d1,ds1,p1,q1,rfl,rfl,rfl,h1,h⟩:=trodAll_cons h
 obtain ⟨v2,vs2,d2,ds2,p2,q2,rfl,rfl,rfl,h2,h⟩:=trodAll_cons h
 obtain ⟨v3,vs3,d3,ds3,p3,q3,rfl,rfl,rfl,h3,h⟩:=trodAll_cons h
 obtain ⟨v4,vs4,d4,ds4,p4,q4,rfl,rfl,rfl,h4,h⟩:=trodAll_cons h
 obtain ⟨v5,vs5,d5,ds5,p5,q5,rfl,rfl,rfl,h5,h⟩:=trodAll_cons h
 obtain ⟨rfl,rfl,rfl⟩:=trodAll_nil h
 exact ⟨v0,v1,v2,v3,v4,v5,d0,d1,d2,d3,d4,d5,p0,p1,p2,p3,p4,p5,by cases args;simp_all,rfl,by simp,h0,h1,h2,h3,h4,h5⟩
theorem u16_int {t:TypeId}{b0:Nat}{r:Reach}(ht:P.underlying t=some (.int .u16))(hv:Value.okWide P W r b0 t v)(h:DataW.Trod enc P W base spare held t v d ps) :
  ∃n:Int,(0≤n∧n≤65535)∧RepV (fun b _=>b<W.heap.size) noVal (look []) W (.leaf (.d (.raw (.int .u16 n)))) v:=by
 obtain ⟨n,hw,hr⟩:=int_read ht hv h
 have h2:0≤n∧n≤65535:=by
  simp only [Lit.wf,Bool.and_eq_true,decide_eq_true_eq] at hw
  have e1:IntKind.u16.min=0:=by decide
  have e2:IntKind.u16.max=65535:=by decide
  omega
 exact ⟨n,h2,hr⟩
end
section
variable {H:Type} {enc:TypeId × Value→H} {P:Program} {w:World} {base:Nat} {spare:Nat→Bool} {held:Bool} {fuel:Nat} {t:TypeId} {cs:List Value} {x:DataW H × List MemPlace}
def fieldsS (P:Program):Nat→List Field→Option (List (TypeId × Nat))
 |_,[]=>some []
 |i,f::r=>if f.offset=i then (fieldsS P (i+P.cellsOf f.type) r).map ((f.type,P.cellsOf f.type) :: ·) else none
def structS (P:Program)(t:TypeId):Option (List (TypeId × Nat)):=match P.underlying t with
 |some (.struct fs)=>fieldsS P 0 fs.toList
 |_=>none
def AllSp (enc:TypeId × Value→H)(P:Program)(w:World)(base:Nat)(spare:Nat→Bool)(held:Bool)(n:Nat):List (TypeId × Nat)→List Value→Prop
 |[],_=>True
 |(t,k)::r,cs=>(∃y,DataW.trod enc P w base spare held n t (cs.take k)=some y)∧AllSp enc P w base spare held n r (cs.drop k)
theorem fieldsS_read {n:Nat}:∀ {fs:List Field} {i:Nat} {ts:List (TypeId × Nat)},fieldsS P i fs=some ts →
  (∀(j:Nat) (f:Field),fs[j]? = some f→∃y,DataW.trod enc P w base spare held n f.type ((cs.drop f.offset).take (P.cellsOf f.type))=some y)→AllSp enc P w base spare held n ts (cs.drop i)
 |[],i,ts,hk,_=>by
  simp only [fieldsS,Option.some.injEq] at hk
  subst hk
  trivial
 |f::fs,i,ts,hk,h=>by
  unfold fieldsS at hk
  split at hk
  ·rename_i hc
   obtain ⟨ts',hts,rfl⟩:=Option.map_eq_some_iff.1 hk
   obtain ⟨y,hy⟩:=h 0 f rfl
   rw [hc] at hy
   have ih:=fieldsS_read hts fun j g hg=>h (j+1) g hg
   exact ⟨⟨y,hy⟩,by rw [List.drop_drop];exact ih⟩
  ·cases hk
theorem struct_sp {ts:List (TypeId × Nat)}(hk:structS P t=some ts)(h:DataW.trod enc P w base spare held fuel t cs=some x):cs.length=P.cellsOf t∧∃n,AllSp enc P w base spare held n ts cs:=by
 unfold structS at hk
 split at hk
 ·rename_i fs ht
  obtain ⟨xs,n,_,_,hl,hxs,hf⟩:=DataW.trod_struct ht h
  have:=fieldsS_read (cs:=cs) (n:=n) hk fun j f hj=>by
   have hj':fs[j]? = some f:=by simpa using hj
   have hjl:=(Array.getElem?_eq_some_iff.1 hj').1
   exact ⟨_,(hf j f hj').trans (List.getElem?_eq_getElem (by omega))⟩
  rw [List.drop_zero] at this
  exact ⟨hl,n,this⟩
 ·cases hk
end
section
variable {H:Type} {enc:TypeId × Value→H} {W:World} {v:Value} {d:DataW H} {ps:List MemPlace}
abbrev TReads (enc:TypeId × Value→H)(W:World)(t:TypeId)(Q:List D→Prop):Prop:=Reads enc Try.prog W 0 (fun _=>true) true t Q
theorem r_int:TReads enc W 3 (fun ds=>∃n:Int,ds=encInt n):=reads_flat (ks:=[.int .i64]) V215 fun r h=>by
 obtain ⟨a,r,rfl,⟨n,hn,_⟩,h⟩:=all2_inv h
 have:=all2_nil h
 subst hn this
 exact ⟨n,rfl⟩
theorem r_pt:TReads enc W 54 (fun ds=>∃x:Pt,ds=encPt x):=fun fuel cs x h=>by
 obtain ⟨hl,n,⟨y1,h1⟩,⟨y2,h2⟩,_⟩:=struct_sp (P:=Try.prog) (t:=54) (ts:=[(3,1),(40,2)]) V215 h
 have hc:Try.prog.cellsOf 54=3:=by kernel_rfl
 rw [hc] at hl
 match cs,hl with
 |[u,v,w],_=>
  have e1:=flat_read (ks:=[.int .i64]) V215 h1
  have e2:=flat_read (ks:=[.int .i64,.int .i64]) V215 h2
  obtain ⟨⟨a,rfl,_⟩,_⟩:=e1
  obtain ⟨⟨b,rfl,_⟩,⟨c,rfl,_⟩,_⟩:=e2
  exact ⟨_,⟨⟨a,⟨b,c⟩⟩,rfl⟩,.raw _ rfl,.raw _ rfl,.raw _ rfl,trivial⟩
theorem r_gr:TReads enc W 24 (fun ds=>∃x:Gr,ds=encGr x):=reads_flat (ks:=[.int .i64,.int .i64,.bool,.int .i64,.int .i64]) V215 fun r h=>by
 obtain ⟨a,r,rfl,⟨n1,h1,_⟩,h⟩:=all2_inv h
 obtain ⟨b,r,rfl,⟨n2,h2,_⟩,h⟩:=all2_inv h
 obtain ⟨c,r,rfl,⟨n3,h3⟩,h⟩:=all2_inv h
 obtain ⟨e,r,rfl,⟨n4,h4,_⟩,h⟩:=all2_inv h
 obtain ⟨f,r,rfl,⟨n5,h5,_⟩,h⟩:=all2_inv h
 have:=all2_nil h
 subst h1 h2 h3 h4 h5 this
 exact ⟨⟨n1,n2,n3,n4,n5⟩,rfl⟩
theorem r_cv:TReads enc W 27 (fun ds=>∃x:Cv,ds=encCv x):=fun fuel cs x h=>by
 obtain ⟨n,ha⟩:=struct_one (P:=Try.prog) (t:=27) (ts:=[3,3,25]) V215 h
 obtain ⟨a1,r,rfl,h1,ha⟩:=all2_inv ha
 obtain ⟨a2,r,rfl,h2,ha⟩:=all2_inv ha
 obtain ⟨a3,r,rfl,h3,ha⟩:=all2_inv ha
 have:=all2_nil ha
 subst this
 obtain ⟨d1,⟨x1,e1⟩,q1⟩:=reads_one r_int h1
 obtain ⟨d2,⟨x2,e2⟩,q2⟩:=reads_one r_int h2
 obtain ⟨d3,⟨x3,e3,p3⟩,q3⟩:=reads_one (reads_slice (k:=3) V215 r_pt V215 (by decide)) h3
 obtain ⟨l3,rfl⟩:=rows_map p3
 cases e1;cases e2;cases e3
 exact ⟨_,⟨⟨x1,x2,l3⟩,rfl⟩,q1,q2,q3,trivial⟩
theorem agg_read {t:TypeId}{α:Type}{f:α→List D}(hs:structB Try.prog t=true)(hr:TReads enc W t (fun ds=>∃x:α,ds=f x)){b0:Nat}{r:Reach}(hv:Value.okWide Try.prog W r b0 t v)(h:DataW.Trod enc Try.prog W 0 (fun _=>true) true t v d ps) :
  ∃x:α,RepV (fun b _=>b<W.heap.size) noVal (look []) W (.val true ((f x).map .d)) v:=by
 obtain ⟨cs,rfl⟩:=struct_agg hs hv
 obtain ⟨fuel,hf⟩:=h
 have hcs:(Value.agg cs).cells.toList=cs.toList:=rfl
 rw [hcs] at hf
 obtain ⟨ds,⟨x,rfl⟩,ha⟩:=hr _ _ _ hf
 refine ⟨x,cs.toList,by simp,?_⟩
 exact all2_map (R':=RepL (fun b _=>b<W.heap.size) noVal (look []) W) AL.d (fun a b h=>h) ha
theorem gr_read {b0:Nat}{r:Reach}(hv:Value.okWide Try.prog W r b0 24 v)(h:DataW.Trod enc Try.prog W 0 (fun _=>true) true 24 v d ps) :
  ∃x:Gr,RepV (fun b _=>b<W.heap.size) noVal (look []) W (grV x) v:=agg_read V215 r_gr hv h
theorem cv_read {b0:Nat}{r:Reach}(hv:Value.okWide Try.prog W r b0 27 v)(h:DataW.Trod enc Try.prog W 0 (fun _=>true) true 27 v d ps) :
  ∃x:Cv,RepV (fun b _=>b<W.heap.size) noVal (look []) W (cvV x) v:=agg_read V215 r_cv hv h
theorem read_wh (r:List Value)(h:All2 LK.has [.int .i64,.int .i64] r):∃x:Whl,r.map D.raw=encWh x:=by
 obtain ⟨a,r,rfl,⟨n,hn,_⟩,h⟩:=all2_inv h
 obtain ⟨b,r,rfl,⟨m,hm,_⟩,h⟩:=all2_inv h
 have:=all2_nil h
 subst hn hm this
 exact ⟨⟨n,m⟩,rfl⟩
theorem whs_read {b0:Nat}{r:Reach}(hv:Value.okWide Try.prog W r b0 22 v)(h:DataW.Trod enc Try.prog W 0 (fun _=>true) true 22 v d ps) :
  ∃l:List Whl,RepV (fun b _=>b<W.heap.size) noVal (look []) W (.leaf (.d (whsD l))) v:=by
 obtain ⟨rows,hr,hd⟩:=sl_read (P:=Try.prog) (e:=52) (ks:=[.int .i64,.int .i64]) V215 V215 V215 (by decide) hv h
 obtain ⟨l,hl⟩:=rows_enc read_wh hr
 rw [hl] at hd
 exact ⟨l,hd⟩
theorem u16_readI {b0:Nat}{r:Reach}(hv:Value.okWide Try.prog W r b0 28 v)(h:DataW.Trod enc Try.prog W 0 (fun _=>true) true 28 v d ps) :
  ∃n:Int,(0≤n∧n≤65535)∧RepV (fun b _=>b<W.heap.size) noVal (look []) W (.leaf (.d (.raw (.int .u16 n)))) v:=u16_int V215 hv h
end
end Go.Mw

import Derived.Test.YtekmkgegjicjgaaGreatZBas
import Derived.Test.YtekmkgegjicjgaaGreatZRcC
import Derived.Test.YtekmkgegjicjgaaGreatZFrmB
import Derived.Test.YtekmkgegjicjgaaGreatZRcB
namespace Go.Proofs.YtekmkgegjicjgaaGreat
open Go.Dv Go.Dv.EvL
set_option maxRecDepth 100000
set_option maxHeartbeats 16000000
attribute [local irreducible] Ok Rm Dm Om Sm Xm Cm Gm Hm Tm
theorem rpf_ok {s:List UInt8}(h:(rpfO s).2.2=true):frF (rpfO s).1=true:=by
 unfold rpfO at h ⊢
 split at h
 ·rename_i hc
  rw [if_pos hc]
  have h2:=hc.2.2
  simp only []
  unfold frO at h2 ⊢
  split at h2
  ·rename_i h3
   rw [if_pos h3]
   exact h3
  ·cases h2
 ·cases h
theorem k_received (n:Int)(xs:List Hd)(s:List UInt8)(m:Int)(hs:s.length≤1099511627776)(hr:recB2 n xs=true):Okw Tryz.prog 200 [.agg [.int .i64 n,.sl 10 (xs.map Hd.pv)],.str s,.int .i64 m] (RcvR ((rpfO s).2.2 && decide (n≤m) && recB2 m (rcvL xs (rpfO s).1 m)) m (rcvL xs (rpfO s).1 m)):=by
 refine ok_D hmix c_impl_received (by simp) ?_
 have h0:=k_RepairFrame s hs
 obtain ⟨g1,g2,g3,g4⟩:=rec2_in hr
 have hfr:=rpf_ok (s:=s)
 generalize (rpfO s).2.1=bi at *
 obtain ⟨⟨kd,ad,da⟩,hf⟩ : ∃ f,(rpfO s).1=f:=⟨_,rfl⟩
 rw [hf] at h0 hfr ⊢
 generalize (rpfO s).2.2=ok at *
 have hL:rcvL xs (kd,ad,da) m=(insH xs ad).set (posH ad xs) (updH ((insH xs ad).getD (posH ad xs) default) (kd,ad,da) m):=rfl
 generalize rcvL xs (kd,ad,da) m=R at *
 unfold frD at h0
 clear hf
 cases ok
 ·simp only [Bool.false_and]
  refine sF fun dc hdc => ?_; refine sA ?_
  repeat' (first|refine sA ?_|refine sO ‹_› fun dc hdc => ?_|refine sN ?_|refine rW rfl (h0) ?_|refine rV (h0) ?_|refine sB ?_|refine sX ?_ ?_<;>(try intro h)<;>(try omega)|exact sP|refine rK ?_|exact sQ|refine sD ?_|exact sE|omega)
  all_goals first
   | exact ret_k (.tup [.agg [.p (.int .i64 0),.nil],.p (.bool false)]) [] (by kernel_rfl) ⟨rfl,rfl⟩
   | skip
 ·have hfr:=(frF_in (hfr rfl)).2.2
  simp only [] at hfr
  by_cases hnm:n≤m
  ·rw [decide_eq_true hnm]
   simp only [Bool.true_and]
   have h1:=k_UnpackReport da (by omega)
   have h5:=k_heardAt m xs ad (by omega)
   have hat:=sorted_hat g3 ad
   have hup:upO da=if upB da=true then ((decide (16384≤da),((da % 16384 / 128:Nat):Int),((da % 128:Nat):Int)),true) else ((false,0,0),false):=rfl
   have hI:insH xs ad=if posH ad xs<xs.length∧(xs.getD (posH ad xs) default).addr=ad then xs else xs.take (posH ad xs)++newH ad::xs.drop (posH ad xs):=rfl
   have hv:Okv Tryz.prog 79 [.agg [.int .i64 m,.sl 10 (R.map Hd.pv)]] (.p (.bool (recB2 m R))):=k_iReceiver m R (by rw [hL,List.length_set]; have:=insH_len xs ad; omega)
   obtain ⟨V,hV⟩ : ∃ V,V=recB2 m R:=⟨_,rfl⟩
   rw [← hV] at hv ⊢
   rw [hL] at hv
   clear hV
   generalize upO da=P at *
   by_cases hB:posH ad xs<xs.length∧(xs.getD (posH ad xs) default).addr=ad
   ·rw [if_pos hB] at hat hI
    rw [hI] at hL hv
    obtain ⟨hB1,hB2⟩:=hB
    obtain ⟨_,hfk,_,_⟩:=hd_at (g4 _ hB1)
    rw [hat] at h5
    clear hI hat g4 g3 hr
    generalize posH ad xs=k at *
    have hw:IntKind.wrap .i64 ((xs.getD k default).fr+1)=(xs.getD k default).fr+1:=w64 (by omega)
    cases hu:upB da
    ·rw [hu,if_neg (by decide)] at hup
     subst hup
     have hz:updH (xs.getD k default) (kd,ad,da) m=⟨(xs.getD k default).addr,(xs.getD k default).eo,(xs.getD k default).ea,(xs.getD k default).eb,(xs.getD k default).eAt,(xs.getD k default).oo,(xs.getD k default).oa,(xs.getD k default).ob,(xs.getD k default).oAt,(xs.getD k default).fr+1⟩:=by simp [updH,hu]
     rw [hz] at hv
     refine sF fun dc hdc => ?_; refine sA ?_
     repeat' (first|refine sA ?_|refine sO ‹_› fun dc hdc => ?_|refine sN ?_|refine rW rfl (h0) ?_|refine rV (h0) ?_|refine rW rfl (h5) ?_|refine rV (h5) ?_|refine rW rfl (h1) ?_|refine rV (h1) ?_|rw [hw]|refine rW rfl (hv) ?_|refine rV (hv) ?_|(refine Rm_putw (by omega) ⟨(xs.getD k default).addr,(xs.getD k default).eo,(xs.getD k default).ea,(xs.getD k default).eb,(xs.getD k default).eAt,(xs.getD k default).oo,(xs.getD k default).oa,(xs.getD k default).ob,(xs.getD k default).oAt,(xs.getD k default).fr+1⟩ rfl (by first|rfl|exact putw_rfl) rfl ?_)|refine sB ?_|refine sX ?_ ?_<;>(try intro h)<;>(try omega)|exact sP|refine rK ?_|exact sQ|refine sD ?_|exact sE|omega)
     all_goals first
      | (have hVf:V=false:=by assumption
         subst hVf
         exact ret_k (.tup [.agg [.p (.int .i64 0),.nil],.p (.bool false)]) [] (by kernel_rfl) ⟨rfl,rfl⟩)
      | (have hVt:V=true:=by assumption
         subst hVt
         refine ret_k (.tup [.agg [.p (.int .i64 m),.own 0 0 xs.length],.p (.bool true)]) [.arr 111 10 ((xs.set k ⟨(xs.getD k default).addr,(xs.getD k default).eo,(xs.getD k default).ea,(xs.getD k default).eb,(xs.getD k default).eAt,(xs.getD k default).oo,(xs.getD k default).oa,(xs.getD k default).ob,(xs.getD k default).oAt,(xs.getD k default).fr+1⟩).map Hd.pv)] (by kernel_rfl) ?_
         show RcvD m R _ _
         rw [hL,hz]
         exact ⟨by rw [List.length_set]; rfl,rfl⟩)
      | skip
    ·rw [hu,if_pos rfl] at hup
     by_cases hk2:kd=2
     ·by_cases hod:16384≤da
      ·rw [decide_eq_true hod] at hup
       subst hup
       have hz:updH (xs.getD k default) (kd,ad,da) m=⟨(xs.getD k default).addr,(xs.getD k default).eo,(xs.getD k default).ea,(xs.getD k default).eb,(xs.getD k default).eAt,true,((da % 16384 / 128:Nat):Int),((da % 128:Nat):Int),m,(xs.getD k default).fr+1⟩:=by simp [updH,hu,hk2,hod]
       rw [hz] at hv
       refine sF fun dc hdc => ?_; refine sA ?_
       repeat' (first|refine sA ?_|refine sO ‹_› fun dc hdc => ?_|refine sN ?_|refine rW rfl (h0) ?_|refine rV (h0) ?_|refine rW rfl (h5) ?_|refine rV (h5) ?_|refine rW rfl (h1) ?_|refine rV (h1) ?_|rw [hw]|refine rW rfl (hv) ?_|refine rV (hv) ?_|(refine Rm_putw (by omega) ⟨(xs.getD k default).addr,(xs.getD k default).eo,(xs.getD k default).ea,(xs.getD k default).eb,(xs.getD k default).eAt,(xs.getD k default).oo,(xs.getD k default).oa,(xs.getD k default).ob,(xs.getD k default).oAt,(xs.getD k default).fr+1⟩ rfl (by first|rfl|exact putw_rfl) rfl ?_)|(refine Rm_putw ?_ ⟨(xs.getD k default).addr,(xs.getD k default).eo,(xs.getD k default).ea,(xs.getD k default).eb,(xs.getD k default).eAt,true,((da % 16384 / 128:Nat):Int),((da % 128:Nat):Int),(xs.getD k default).oAt,(xs.getD k default).fr+1⟩ rfl ?_ rfl ?_; (rw [List.length_set]; omega); (rw [getD_set (xs:=xs) (i:=k) (by omega)]; rfl); rw [List.set_set])|(refine Rm_putw ?_ ⟨(xs.getD k default).addr,(xs.getD k default).eo,(xs.getD k default).ea,(xs.getD k default).eb,(xs.getD k default).eAt,true,((da % 16384 / 128:Nat):Int),((da % 128:Nat):Int),m,(xs.getD k default).fr+1⟩ rfl ?_ rfl ?_; (rw [List.length_set]; omega); (rw [getD_set (xs:=xs) (i:=k) (by omega)]; rfl); rw [List.set_set])|refine sB ?_|refine sX ?_ ?_<;>(try intro h)<;>(try omega)|exact sP|refine rK ?_|exact sQ|refine sD ?_|exact sE|omega)
       all_goals first
        | (have hVf:V=false:=by assumption
           subst hVf
           exact ret_k (.tup [.agg [.p (.int .i64 0),.nil],.p (.bool false)]) [] (by kernel_rfl) ⟨rfl,rfl⟩)
        | (have hVt:V=true:=by assumption
           subst hVt
           refine ret_k (.tup [.agg [.p (.int .i64 m),.own 0 0 xs.length],.p (.bool true)]) [.arr 111 10 ((xs.set k ⟨(xs.getD k default).addr,(xs.getD k default).eo,(xs.getD k default).ea,(xs.getD k default).eb,(xs.getD k default).eAt,true,((da % 16384 / 128:Nat):Int),((da % 128:Nat):Int),m,(xs.getD k default).fr+1⟩).map Hd.pv)] (by kernel_rfl) ?_
           show RcvD m R _ _
           rw [hL,hz]
           exact ⟨by rw [List.length_set]; rfl,rfl⟩)
        | skip
      ·rw [decide_eq_false hod] at hup
       subst hup
       have hz:updH (xs.getD k default) (kd,ad,da) m=⟨(xs.getD k default).addr,false,((da % 16384 / 128:Nat):Int),((da % 128:Nat):Int),m,(xs.getD k default).oo,(xs.getD k default).oa,(xs.getD k default).ob,(xs.getD k default).oAt,(xs.getD k default).fr+1⟩:=by simp [updH,hu,hk2,hod]
       rw [hz] at hv
       refine sF fun dc hdc => ?_; refine sA ?_
       repeat' (first|refine sA ?_|refine sO ‹_› fun dc hdc => ?_|refine sN ?_|refine rW rfl (h0) ?_|refine rV (h0) ?_|refine rW rfl (h5) ?_|refine rV (h5) ?_|refine rW rfl (h1) ?_|refine rV (h1) ?_|rw [hw]|refine rW rfl (hv) ?_|refine rV (hv) ?_|(refine Rm_putw (by omega) ⟨(xs.getD k default).addr,(xs.getD k default).eo,(xs.getD k default).ea,(xs.getD k default).eb,(xs.getD k default).eAt,(xs.getD k default).oo,(xs.getD k default).oa,(xs.getD k default).ob,(xs.getD k default).oAt,(xs.getD k default).fr+1⟩ rfl (by first|rfl|exact putw_rfl) rfl ?_)|(refine Rm_putw ?_ ⟨(xs.getD k default).addr,false,((da % 16384 / 128:Nat):Int),((da % 128:Nat):Int),(xs.getD k default).eAt,(xs.getD k default).oo,(xs.getD k default).oa,(xs.getD k default).ob,(xs.getD k default).oAt,(xs.getD k default).fr+1⟩ rfl ?_ rfl ?_; (rw [List.length_set]; omega); (rw [getD_set (xs:=xs) (i:=k) (by omega)]; rfl); rw [List.set_set])|(refine Rm_putw ?_ ⟨(xs.getD k default).addr,false,((da % 16384 / 128:Nat):Int),((da % 128:Nat):Int),m,(xs.getD k default).oo,(xs.getD k default).oa,(xs.getD k default).ob,(xs.getD k default).oAt,(xs.getD k default).fr+1⟩ rfl ?_ rfl ?_; (rw [List.length_set]; omega); (rw [getD_set (xs:=xs) (i:=k) (by omega)]; rfl); rw [List.set_set])|refine sB ?_|refine sX ?_ ?_<;>(try intro h)<;>(try omega)|exact sP|refine rK ?_|exact sQ|refine sD ?_|exact sE|omega)
       all_goals first
        | (have hVf:V=false:=by assumption
           subst hVf
           exact ret_k (.tup [.agg [.p (.int .i64 0),.nil],.p (.bool false)]) [] (by kernel_rfl) ⟨rfl,rfl⟩)
        | (have hVt:V=true:=by assumption
           subst hVt
           refine ret_k (.tup [.agg [.p (.int .i64 m),.own 0 0 xs.length],.p (.bool true)]) [.arr 111 10 ((xs.set k ⟨(xs.getD k default).addr,false,((da % 16384 / 128:Nat):Int),((da % 128:Nat):Int),m,(xs.getD k default).oo,(xs.getD k default).oa,(xs.getD k default).ob,(xs.getD k default).oAt,(xs.getD k default).fr+1⟩).map Hd.pv)] (by kernel_rfl) ?_
           show RcvD m R _ _
           rw [hL,hz]
           exact ⟨by rw [List.length_set]; rfl,rfl⟩)
        | skip
     ·subst hup
      have hz:updH (xs.getD k default) (kd,ad,da) m=⟨(xs.getD k default).addr,(xs.getD k default).eo,(xs.getD k default).ea,(xs.getD k default).eb,(xs.getD k default).eAt,(xs.getD k default).oo,(xs.getD k default).oa,(xs.getD k default).ob,(xs.getD k default).oAt,(xs.getD k default).fr+1⟩:=by simp [updH,hu,hk2]
      rw [hz] at hv
      refine sF fun dc hdc => ?_; refine sA ?_
      repeat' (first|refine sA ?_|refine sO ‹_› fun dc hdc => ?_|refine sN ?_|refine rW rfl (h0) ?_|refine rV (h0) ?_|refine rW rfl (h5) ?_|refine rV (h5) ?_|refine rW rfl (h1) ?_|refine rV (h1) ?_|rw [hw]|refine rW rfl (hv) ?_|refine rV (hv) ?_|(refine Rm_putw (by omega) ⟨(xs.getD k default).addr,(xs.getD k default).eo,(xs.getD k default).ea,(xs.getD k default).eb,(xs.getD k default).eAt,(xs.getD k default).oo,(xs.getD k default).oa,(xs.getD k default).ob,(xs.getD k default).oAt,(xs.getD k default).fr+1⟩ rfl (by first|rfl|exact putw_rfl) rfl ?_)|refine sB ?_|refine sX ?_ ?_<;>(try intro h)<;>(try omega)|exact sP|refine rK ?_|exact sQ|refine sD ?_|exact sE|omega)
      all_goals first
       | (have hVf:V=false:=by assumption
          subst hVf
          exact ret_k (.tup [.agg [.p (.int .i64 0),.nil],.p (.bool false)]) [] (by kernel_rfl) ⟨rfl,rfl⟩)
       | (have hVt:V=true:=by assumption
          subst hVt
          refine ret_k (.tup [.agg [.p (.int .i64 m),.own 0 0 xs.length],.p (.bool true)]) [.arr 111 10 ((xs.set k ⟨(xs.getD k default).addr,(xs.getD k default).eo,(xs.getD k default).ea,(xs.getD k default).eb,(xs.getD k default).eAt,(xs.getD k default).oo,(xs.getD k default).oa,(xs.getD k default).ob,(xs.getD k default).oAt,(xs.getD k default).fr+1⟩).map Hd.pv)] (by kernel_rfl) ?_
          show RcvD m R _ _
          rw [hL,hz]
          exact ⟨by rw [List.length_set]; rfl,rfl⟩)
       | skip
   ·rw [if_neg hB] at hat hI
    have hno : ∀ j,j<xs.length→(xs.getD j default).addr≠ad:=by
     rcases hat_in xs ad with ⟨_,h4⟩|⟨i,h3,_,_⟩
     ·exact h4
     ·rw [hat] at h3
      omega
    rw [hat] at h5
    clear hI hat g4 hr hB
    have e1:List.take xs.length (xs.map Hd.pv)++[.agg [.int .i64 ad,.bool false,.int .i64 0,.int .i64 0,.int .i64 (-1),.bool false,.int .i64 0,.int .i64 0,.int .i64 (-1),.int .i64 0]]=(xs.take xs.length++newH ad::xs.drop xs.length).map Hd.pv:=by
     rw [List.take_of_length_le (by simp),List.take_length,List.drop_length,List.map_append]
     rfl
    have e0:xs.map Hd.pv++[.agg [.int .i64 ad,.bool false,.int .i64 0,.int .i64 0,.int .i64 (-1),.bool false,.int .i64 0,.int .i64 0,.int .i64 (-1),.int .i64 0]]=(xs.take xs.length++newH ad::xs.drop xs.length).map Hd.pv:=by
     rw [List.take_length,List.drop_length,List.map_append]
     rfl
    refine sF fun dc hdc => ?_; refine sA ?_
    repeat' (first|refine sA ?_|refine sO ‹_› fun dc hdc => ?_|refine sN ?_|refine rW rfl (h0) ?_|refine rV (h0) ?_|refine rW rfl (h5) ?_|refine rV (h5) ?_|rw [e1]|rw [e0]|refine sB ?_|refine sX ?_ ?_<;>(try intro h)<;>(try omega)|exact sP|refine rK ?_|exact sQ|refine sD ?_|exact sE|omega)
    clear e1 e0 h5 h0
    refine Dm_loop [2,6,8,11,12] (fun v ds H'=>v≤xs.length∧(∀ j,v≤j→j<xs.length→(ad:Int)<(xs.getD j default).addr)∧ds=[.p (.int .i64 m),.ptr 0 0 0,.ptr 1 0 0,.ptr 2 0 0,.p (.int .i64 v)] ∧
     H'=[.box 36 [.p (.int .i64 0),.nil],.box 130 [.p (.int .i64 kd),.p (.int .i64 ad),.p (.int .i64 da)],.box 36 [.p (.int .i64 m),.own 3 0 (xs.length+1)],.arr 111 10 ((xs.take v++newH ad::xs.drop v).map Hd.pv)]) xs.length ⟨by omega,fun j h1 h2=>by omega,rfl,by rw [List.take_length]; rfl⟩ ?_
    rintro v ds H' ⟨hvl,hupj,rfl,rfl⟩ -
    have hLl:(xs.take v++newH ad::xs.drop v).length=xs.length+1:=by
     rw [List.length_append,List.length_cons,List.length_take,List.length_drop]
     omega
    have hlv:(xs.take v).length=v:=by rw [List.length_take]; omega
    have q2:(xs.take v++newH ad::xs.drop v).getD v default=newH ad:=by
     rw [getD_app_r (by omega),hlv,Nat.sub_self]
     rfl
    have hfk:((xs.take v++newH ad::xs.drop v).getD v default).fr=0:=by rw [q2]; rfl
    rcases Nat.eq_zero_or_pos v with hv0|hv0
    ·obtain ⟨p1,p2⟩:=ins_at g3 hno hvl hupj (fun h=>by omega)
     rw [p1,p2] at hL hv
     clear p1 p2 hupj hno q2
     generalize xs.take v++newH ad::xs.drop v=L at *
     have hw:IntKind.wrap .i64 ((L.getD v default).fr+1)=(L.getD v default).fr+1:=w64 (by omega)
     have hnv : ¬ (v:Int) > 0:=by omega
     cases hu:upB da
     ·rw [hu,if_neg (by decide)] at hup
      subst hup
      have hz:updH (L.getD v default) (kd,ad,da) m=⟨(L.getD v default).addr,(L.getD v default).eo,(L.getD v default).ea,(L.getD v default).eb,(L.getD v default).eAt,(L.getD v default).oo,(L.getD v default).oa,(L.getD v default).ob,(L.getD v default).oAt,(L.getD v default).fr+1⟩:=by simp [updH,hu]
      rw [hz] at hv
      repeat' (first|refine sA ?_|refine sO ‹_› fun dc hdc => ?_|refine sN ?_|refine rW rfl (h1) ?_|refine rV (h1) ?_|rw [hw]|(refine Rm_v hv ?_ trivial ?_; · (simp [viewOfs,viewOf,List.take_of_length_le,hLl]; done))|(refine Rm_putw (by omega) ⟨(L.getD v default).addr,(L.getD v default).eo,(L.getD v default).ea,(L.getD v default).eb,(L.getD v default).eAt,(L.getD v default).oo,(L.getD v default).oa,(L.getD v default).ob,(L.getD v default).oAt,(L.getD v default).fr+1⟩ rfl (by first|rfl|exact putw_rfl) rfl ?_)|refine sB ?_|refine sX ?_ ?_<;>(try intro h)<;>(try omega)|exact sP|refine rK ?_|exact sQ|refine sD ?_|exact sE|omega)
      all_goals first
       | (have hVf:V=false:=by assumption
          subst hVf
          exact ret_k (.tup [.agg [.p (.int .i64 0),.nil],.p (.bool false)]) [] (by kernel_rfl) ⟨rfl,rfl⟩)
       | (have hVt:V=true:=by assumption
          subst hVt
          refine ret_k (.tup [.agg [.p (.int .i64 m),.own 0 0 (xs.length+1)],.p (.bool true)]) [.arr 111 10 ((L.set v ⟨(L.getD v default).addr,(L.getD v default).eo,(L.getD v default).ea,(L.getD v default).eb,(L.getD v default).eAt,(L.getD v default).oo,(L.getD v default).oa,(L.getD v default).ob,(L.getD v default).oAt,(L.getD v default).fr+1⟩).map Hd.pv)] (by kernel_rfl) ?_
          show RcvD m R _ _
          rw [hL,hz]
          exact ⟨by rw [List.length_set,hLl]; rfl,rfl⟩)
       | skip
     ·rw [hu,if_pos rfl] at hup
      by_cases hk2:kd=2
      ·by_cases hod:16384≤da
       ·rw [decide_eq_true hod] at hup
        subst hup
        have hz:updH (L.getD v default) (kd,ad,da) m=⟨(L.getD v default).addr,(L.getD v default).eo,(L.getD v default).ea,(L.getD v default).eb,(L.getD v default).eAt,true,((da % 16384 / 128:Nat):Int),((da % 128:Nat):Int),m,(L.getD v default).fr+1⟩:=by simp [updH,hu,hk2,hod]
        rw [hz] at hv
        repeat' (first|refine sA ?_|refine sO ‹_› fun dc hdc => ?_|refine sN ?_|refine rW rfl (h1) ?_|refine rV (h1) ?_|rw [hw]|(refine Rm_v hv ?_ trivial ?_; · (simp [viewOfs,viewOf,List.take_of_length_le,hLl]; done))|(refine Rm_putw (by omega) ⟨(L.getD v default).addr,(L.getD v default).eo,(L.getD v default).ea,(L.getD v default).eb,(L.getD v default).eAt,(L.getD v default).oo,(L.getD v default).oa,(L.getD v default).ob,(L.getD v default).oAt,(L.getD v default).fr+1⟩ rfl (by first|rfl|exact putw_rfl) rfl ?_)|(refine Rm_putw ?_ ⟨(L.getD v default).addr,(L.getD v default).eo,(L.getD v default).ea,(L.getD v default).eb,(L.getD v default).eAt,true,((da % 16384 / 128:Nat):Int),((da % 128:Nat):Int),(L.getD v default).oAt,(L.getD v default).fr+1⟩ rfl ?_ rfl ?_; (rw [List.length_set]; omega); (rw [getD_set (xs:=L) (i:=v) (by omega)]; rfl); rw [List.set_set])|(refine Rm_putw ?_ ⟨(L.getD v default).addr,(L.getD v default).eo,(L.getD v default).ea,(L.getD v default).eb,(L.getD v default).eAt,true,((da % 16384 / 128:Nat):Int),((da % 128:Nat):Int),m,(L.getD v default).fr+1⟩ rfl ?_ rfl ?_; (rw [List.length_set]; omega); (rw [getD_set (xs:=L) (i:=v) (by omega)]; rfl); rw [List.set_set])|refine sB ?_|refine sX ?_ ?_<;>(try intro h)<;>(try omega)|exact sP|refine rK ?_|exact sQ|refine sD ?_|exact sE|omega)
        all_goals first
         | (have hVf:V=false:=by assumption
            subst hVf
            exact ret_k (.tup [.agg [.p (.int .i64 0),.nil],.p (.bool false)]) [] (by kernel_rfl) ⟨rfl,rfl⟩)
         | (have hVt:V=true:=by assumption
            subst hVt
            refine ret_k (.tup [.agg [.p (.int .i64 m),.own 0 0 (xs.length+1)],.p (.bool true)]) [.arr 111 10 ((L.set v ⟨(L.getD v default).addr,(L.getD v default).eo,(L.getD v default).ea,(L.getD v default).eb,(L.getD v default).eAt,true,((da % 16384 / 128:Nat):Int),((da % 128:Nat):Int),m,(L.getD v default).fr+1⟩).map Hd.pv)] (by kernel_rfl) ?_
            show RcvD m R _ _
            rw [hL,hz]
            exact ⟨by rw [List.length_set,hLl]; rfl,rfl⟩)
         | skip
       ·rw [decide_eq_false hod] at hup
        subst hup
        have hz:updH (L.getD v default) (kd,ad,da) m=⟨(L.getD v default).addr,false,((da % 16384 / 128:Nat):Int),((da % 128:Nat):Int),m,(L.getD v default).oo,(L.getD v default).oa,(L.getD v default).ob,(L.getD v default).oAt,(L.getD v default).fr+1⟩:=by simp [updH,hu,hk2,hod]
        rw [hz] at hv
        repeat' (first|refine sA ?_|refine sO ‹_› fun dc hdc => ?_|refine sN ?_|refine rW rfl (h1) ?_|refine rV (h1) ?_|rw [hw]|(refine Rm_v hv ?_ trivial ?_; · (simp [viewOfs,viewOf,List.take_of_length_le,hLl]; done))|(refine Rm_putw (by omega) ⟨(L.getD v default).addr,(L.getD v default).eo,(L.getD v default).ea,(L.getD v default).eb,(L.getD v default).eAt,(L.getD v default).oo,(L.getD v default).oa,(L.getD v default).ob,(L.getD v default).oAt,(L.getD v default).fr+1⟩ rfl (by first|rfl|exact putw_rfl) rfl ?_)|(refine Rm_putw ?_ ⟨(L.getD v default).addr,false,((da % 16384 / 128:Nat):Int),((da % 128:Nat):Int),(L.getD v default).eAt,(L.getD v default).oo,(L.getD v default).oa,(L.getD v default).ob,(L.getD v default).oAt,(L.getD v default).fr+1⟩ rfl ?_ rfl ?_; (rw [List.length_set]; omega); (rw [getD_set (xs:=L) (i:=v) (by omega)]; rfl); rw [List.set_set])|(refine Rm_putw ?_ ⟨(L.getD v default).addr,false,((da % 16384 / 128:Nat):Int),((da % 128:Nat):Int),m,(L.getD v default).oo,(L.getD v default).oa,(L.getD v default).ob,(L.getD v default).oAt,(L.getD v default).fr+1⟩ rfl ?_ rfl ?_; (rw [List.length_set]; omega); (rw [getD_set (xs:=L) (i:=v) (by omega)]; rfl); rw [List.set_set])|refine sB ?_|refine sX ?_ ?_<;>(try intro h)<;>(try omega)|exact sP|refine rK ?_|exact sQ|refine sD ?_|exact sE|omega)
        all_goals first
         | (have hVf:V=false:=by assumption
            subst hVf
            exact ret_k (.tup [.agg [.p (.int .i64 0),.nil],.p (.bool false)]) [] (by kernel_rfl) ⟨rfl,rfl⟩)
         | (have hVt:V=true:=by assumption
            subst hVt
            refine ret_k (.tup [.agg [.p (.int .i64 m),.own 0 0 (xs.length+1)],.p (.bool true)]) [.arr 111 10 ((L.set v ⟨(L.getD v default).addr,false,((da % 16384 / 128:Nat):Int),((da % 128:Nat):Int),m,(L.getD v default).oo,(L.getD v default).oa,(L.getD v default).ob,(L.getD v default).oAt,(L.getD v default).fr+1⟩).map Hd.pv)] (by kernel_rfl) ?_
            show RcvD m R _ _
            rw [hL,hz]
            exact ⟨by rw [List.length_set,hLl]; rfl,rfl⟩)
         | skip
      ·subst hup
       have hz:updH (L.getD v default) (kd,ad,da) m=⟨(L.getD v default).addr,(L.getD v default).eo,(L.getD v default).ea,(L.getD v default).eb,(L.getD v default).eAt,(L.getD v default).oo,(L.getD v default).oa,(L.getD v default).ob,(L.getD v default).oAt,(L.getD v default).fr+1⟩:=by simp [updH,hu,hk2]
       rw [hz] at hv
       repeat' (first|refine sA ?_|refine sO ‹_› fun dc hdc => ?_|refine sN ?_|refine rW rfl (h1) ?_|refine rV (h1) ?_|rw [hw]|(refine Rm_v hv ?_ trivial ?_; · (simp [viewOfs,viewOf,List.take_of_length_le,hLl]; done))|(refine Rm_putw (by omega) ⟨(L.getD v default).addr,(L.getD v default).eo,(L.getD v default).ea,(L.getD v default).eb,(L.getD v default).eAt,(L.getD v default).oo,(L.getD v default).oa,(L.getD v default).ob,(L.getD v default).oAt,(L.getD v default).fr+1⟩ rfl (by first|rfl|exact putw_rfl) rfl ?_)|refine sB ?_|refine sX ?_ ?_<;>(try intro h)<;>(try omega)|exact sP|refine rK ?_|exact sQ|refine sD ?_|exact sE|omega)
       all_goals first
        | (have hVf:V=false:=by assumption
           subst hVf
           exact ret_k (.tup [.agg [.p (.int .i64 0),.nil],.p (.bool false)]) [] (by kernel_rfl) ⟨rfl,rfl⟩)
        | (have hVt:V=true:=by assumption
           subst hVt
           refine ret_k (.tup [.agg [.p (.int .i64 m),.own 0 0 (xs.length+1)],.p (.bool true)]) [.arr 111 10 ((L.set v ⟨(L.getD v default).addr,(L.getD v default).eo,(L.getD v default).ea,(L.getD v default).eb,(L.getD v default).eAt,(L.getD v default).oo,(L.getD v default).oa,(L.getD v default).ob,(L.getD v default).oAt,(L.getD v default).fr+1⟩).map Hd.pv)] (by kernel_rfl) ?_
           show RcvD m R _ _
           rw [hL,hz]
           exact ⟨by rw [List.length_set,hLl]; rfl,rfl⟩)
        | skip
    ·obtain ⟨k,rfl⟩ : ∃ k,v=k+1:=⟨v - 1,by omega⟩
     have q1:(xs.take (k+1)++newH ad::xs.drop (k+1)).getD k default=xs.getD k default:=by rw [getD_app_l (by omega),getD_take (by omega)]
     have hsw:=swap_ins (xs:=xs) (z:=newH ad) (i:=k) (by omega)
     by_cases hlo:(ad:Int)<(xs.getD k default).addr
     ·have hup2 : ∀ j,k≤j→j<xs.length→(ad:Int)<(xs.getD j default).addr:=fun j h1 h2=>by
       by_cases e:j=k
       ·rw [e]; exact hlo
       ·exact hupj j (by omega) h2
      obtain ⟨L,hLd⟩ : ∃ L,L=xs.take (k+1)++newH ad::xs.drop (k+1):=⟨_,rfl⟩
      rw [← hLd] at hLl q1 q2 hsw ⊢
      have hsw2:(L.set k (L.getD (k+1) default)).set (k+1) (L.getD k default)=xs.take k++newH ad::xs.drop k:=by
       rw [q1,q2]
       exact hsw
      have hlo2:(L.getD k default).addr > ad:=by rw [q1]; exact hlo
      clear q1 q2 hsw hLd hv hL hup h1 hno hupj
      repeat' (first|refine sA ?_|refine sO ‹_› fun dc hdc => ?_|refine sN ?_|rw [Nat.add_sub_cancel]|(refine Dm_draw [2] ?_ ?_; · (simp; done))|(refine Rm_putw (by omega) (L.getD (k+1) default) rfl (by first|rfl|exact putw_rfl) rfl ?_)|(refine Rm_putw (by (simp; omega)) (L.getD k default) rfl (by first|rfl|exact putw_rfl) rfl ?_)|refine sB ?_|refine sX ?_ ?_<;>(try intro h)<;>(try omega)|exact sP|refine rK ?_|exact sQ|refine sD ?_|exact sE|omega)
      all_goals first
       | (refine Xm_inv_n k (by omega) ⟨by omega,hup2,by kernel_rfl,?_⟩
          rw [← hsw2]
          kernel_rfl)
       | skip
     ·obtain ⟨p1,p2⟩:=ins_at g3 hno hvl hupj (fun h=>by rw [Nat.add_sub_cancel]; exact hlo)
      rw [p1,p2] at hL hv
      have hlo2 : ¬ ((xs.take (k+1)++newH ad::xs.drop (k+1)).getD k default).addr > ad:=by rw [q1]; omega
      clear p1 p2 hupj hno q2 q1 hsw
      generalize xs.take (k+1)++newH ad::xs.drop (k+1)=L at *
      have hw:IntKind.wrap .i64 ((L.getD (k+1) default).fr+1)=(L.getD (k+1) default).fr+1:=w64 (by omega)
      cases hu:upB da
      ·rw [hu,if_neg (by decide)] at hup
       subst hup
       have hz:updH (L.getD (k+1) default) (kd,ad,da) m=⟨(L.getD (k+1) default).addr,(L.getD (k+1) default).eo,(L.getD (k+1) default).ea,(L.getD (k+1) default).eb,(L.getD (k+1) default).eAt,(L.getD (k+1) default).oo,(L.getD (k+1) default).oa,(L.getD (k+1) default).ob,(L.getD (k+1) default).oAt,(L.getD (k+1) default).fr+1⟩:=by simp [updH,hu]
       rw [hz] at hv
       repeat' (first|refine sA ?_|refine sO ‹_› fun dc hdc => ?_|refine sN ?_|rw [Nat.add_sub_cancel]|refine rW rfl (h1) ?_|refine rV (h1) ?_|rw [hw]|(refine Rm_v hv ?_ trivial ?_; · (simp [viewOfs,viewOf,List.take_of_length_le,hLl]; done))|(refine Rm_putw (by omega) ⟨(L.getD (k+1) default).addr,(L.getD (k+1) default).eo,(L.getD (k+1) default).ea,(L.getD (k+1) default).eb,(L.getD (k+1) default).eAt,(L.getD (k+1) default).oo,(L.getD (k+1) default).oa,(L.getD (k+1) default).ob,(L.getD (k+1) default).oAt,(L.getD (k+1) default).fr+1⟩ rfl (by first|rfl|exact putw_rfl) rfl ?_)|refine sB ?_|refine sX ?_ ?_<;>(try intro h)<;>(try omega)|exact sP|refine rK ?_|exact sQ|refine sD ?_|exact sE|omega)
       all_goals first
        | (have hVf:V=false:=by assumption
           subst hVf
           exact ret_k (.tup [.agg [.p (.int .i64 0),.nil],.p (.bool false)]) [] (by kernel_rfl) ⟨rfl,rfl⟩)
        | (have hVt:V=true:=by assumption
           subst hVt
           refine ret_k (.tup [.agg [.p (.int .i64 m),.own 0 0 (xs.length+1)],.p (.bool true)]) [.arr 111 10 ((L.set (k+1) ⟨(L.getD (k+1) default).addr,(L.getD (k+1) default).eo,(L.getD (k+1) default).ea,(L.getD (k+1) default).eb,(L.getD (k+1) default).eAt,(L.getD (k+1) default).oo,(L.getD (k+1) default).oa,(L.getD (k+1) default).ob,(L.getD (k+1) default).oAt,(L.getD (k+1) default).fr+1⟩).map Hd.pv)] (by kernel_rfl) ?_
           show RcvD m R _ _
           rw [hL,hz]
           exact ⟨by rw [List.length_set,hLl]; rfl,rfl⟩)
        | skip
      ·rw [hu,if_pos rfl] at hup
       by_cases hk2:kd=2
       ·by_cases hod:16384≤da
        ·rw [decide_eq_true hod] at hup
         subst hup
         have hz:updH (L.getD (k+1) default) (kd,ad,da) m=⟨(L.getD (k+1) default).addr,(L.getD (k+1) default).eo,(L.getD (k+1) default).ea,(L.getD (k+1) default).eb,(L.getD (k+1) default).eAt,true,((da % 16384 / 128:Nat):Int),((da % 128:Nat):Int),m,(L.getD (k+1) default).fr+1⟩:=by simp [updH,hu,hk2,hod]
         rw [hz] at hv
         repeat' (first|refine sA ?_|refine sO ‹_› fun dc hdc => ?_|refine sN ?_|rw [Nat.add_sub_cancel]|refine rW rfl (h1) ?_|refine rV (h1) ?_|rw [hw]|(refine Rm_v hv ?_ trivial ?_; · (simp [viewOfs,viewOf,List.take_of_length_le,hLl]; done))|(refine Rm_putw (by omega) ⟨(L.getD (k+1) default).addr,(L.getD (k+1) default).eo,(L.getD (k+1) default).ea,(L.getD (k+1) default).eb,(L.getD (k+1) default).eAt,(L.getD (k+1) default).oo,(L.getD (k+1) default).oa,(L.getD (k+1) default).ob,(L.getD (k+1) default).oAt,(L.getD (k+1) default).fr+1⟩ rfl (by first|rfl|exact putw_rfl) rfl ?_)|(refine Rm_putw ?_ ⟨(L.getD (k+1) default).addr,(L.getD (k+1) default).eo,(L.getD (k+1) default).ea,(L.getD (k+1) default).eb,(L.getD (k+1) default).eAt,true,((da % 16384 / 128:Nat):Int),((da % 128:Nat):Int),(L.getD (k+1) default).oAt,(L.getD (k+1) default).fr+1⟩ rfl ?_ rfl ?_; (rw [List.length_set]; omega); (rw [getD_set (xs:=L) (i:=(k+1)) (by omega)]; rfl); rw [List.set_set])|(refine Rm_putw ?_ ⟨(L.getD (k+1) default).addr,(L.getD (k+1) default).eo,(L.getD (k+1) default).ea,(L.getD (k+1) default).eb,(L.getD (k+1) default).eAt,true,((da % 16384 / 128:Nat):Int),((da % 128:Nat):Int),m,(L.getD (k+1) default).fr+1⟩ rfl ?_ rfl ?_; (rw [List.length_set]; omega); (rw [getD_set (xs:=L) (i:=(k+1)) (by omega)]; rfl); rw [List.set_set])|refine sB ?_|refine sX ?_ ?_<;>(try intro h)<;>(try omega)|exact sP|refine rK ?_|exact sQ|refine sD ?_|exact sE|omega)
         all_goals first
          | (have hVf:V=false:=by assumption
             subst hVf
             exact ret_k (.tup [.agg [.p (.int .i64 0),.nil],.p (.bool false)]) [] (by kernel_rfl) ⟨rfl,rfl⟩)
          | (have hVt:V=true:=by assumption
             subst hVt
             refine ret_k (.tup [.agg [.p (.int .i64 m),.own 0 0 (xs.length+1)],.p (.bool true)]) [.arr 111 10 ((L.set (k+1) ⟨(L.getD (k+1) default).addr,(L.getD (k+1) default).eo,(L.getD (k+1) default).ea,(L.getD (k+1) default).eb,(L.getD (k+1) default).eAt,true,((da % 16384 / 128:Nat):Int),((da % 128:Nat):Int),m,(L.getD (k+1) default).fr+1⟩).map Hd.pv)] (by kernel_rfl) ?_
             show RcvD m R _ _
             rw [hL,hz]
             exact ⟨by rw [List.length_set,hLl]; rfl,rfl⟩)
          | skip
        ·rw [decide_eq_false hod] at hup
         subst hup
         have hz:updH (L.getD (k+1) default) (kd,ad,da) m=⟨(L.getD (k+1) default).addr,false,((da % 16384 / 128:Nat):Int),((da % 128:Nat):Int),m,(L.getD (k+1) default).oo,(L.getD (k+1) default).oa,(L.getD (k+1) default).ob,(L.getD (k+1) default).oAt,(L.getD (k+1) default).fr+1⟩:=by simp [updH,hu,hk2,hod]
         rw [hz] at hv
         repeat' (first|refine sA ?_|refine sO ‹_› fun dc hdc => ?_|refine sN ?_|rw [Nat.add_sub_cancel]|refine rW rfl (h1) ?_|refine rV (h1) ?_|rw [hw]|(refine Rm_v hv ?_ trivial ?_; · (simp [viewOfs,viewOf,List.take_of_length_le,hLl]; done))|(refine Rm_putw (by omega) ⟨(L.getD (k+1) default).addr,(L.getD (k+1) default).eo,(L.getD (k+1) default).ea,(L.getD (k+1) default).eb,(L.getD (k+1) default).eAt,(L.getD (k+1) default).oo,(L.getD (k+1) default).oa,(L.getD (k+1) default).ob,(L.getD (k+1) default).oAt,(L.getD (k+1) default).fr+1⟩ rfl (by first|rfl|exact putw_rfl) rfl ?_)|(refine Rm_putw ?_ ⟨(L.getD (k+1) default).addr,false,((da % 16384 / 128:Nat):Int),((da % 128:Nat):Int),(L.getD (k+1) default).eAt,(L.getD (k+1) default).oo,(L.getD (k+1) default).oa,(L.getD (k+1) default).ob,(L.getD (k+1) default).oAt,(L.getD (k+1) default).fr+1⟩ rfl ?_ rfl ?_; (rw [List.length_set]; omega); (rw [getD_set (xs:=L) (i:=(k+1)) (by omega)]; rfl); rw [List.set_set])|(refine Rm_putw ?_ ⟨(L.getD (k+1) default).addr,false,((da % 16384 / 128:Nat):Int),((da % 128:Nat):Int),m,(L.getD (k+1) default).oo,(L.getD (k+1) default).oa,(L.getD (k+1) default).ob,(L.getD (k+1) default).oAt,(L.getD (k+1) default).fr+1⟩ rfl ?_ rfl ?_; (rw [List.length_set]; omega); (rw [getD_set (xs:=L) (i:=(k+1)) (by omega)]; rfl); rw [List.set_set])|refine sB ?_|refine sX ?_ ?_<;>(try intro h)<;>(try omega)|exact sP|refine rK ?_|exact sQ|refine sD ?_|exact sE|omega)
         all_goals first
          | (have hVf:V=false:=by assumption
             subst hVf
             exact ret_k (.tup [.agg [.p (.int .i64 0),.nil],.p (.bool false)]) [] (by kernel_rfl) ⟨rfl,rfl⟩)
          | (have hVt:V=true:=by assumption
             subst hVt
             refine ret_k (.tup [.agg [.p (.int .i64 m),.own 0 0 (xs.length+1)],.p (.bool true)]) [.arr 111 10 ((L.set (k+1) ⟨(L.getD (k+1) default).addr,false,((da % 16384 / 128:Nat):Int),((da % 128:Nat):Int),m,(L.getD (k+1) default).oo,(L.getD (k+1) default).oa,(L.getD (k+1) default).ob,(L.getD (k+1) default).oAt,(L.getD (k+1) default).fr+1⟩).map Hd.pv)] (by kernel_rfl) ?_
             show RcvD m R _ _
             rw [hL,hz]
             exact ⟨by rw [List.length_set,hLl]; rfl,rfl⟩)
          | skip
       ·subst hup
        have hz:updH (L.getD (k+1) default) (kd,ad,da) m=⟨(L.getD (k+1) default).addr,(L.getD (k+1) default).eo,(L.getD (k+1) default).ea,(L.getD (k+1) default).eb,(L.getD (k+1) default).eAt,(L.getD (k+1) default).oo,(L.getD (k+1) default).oa,(L.getD (k+1) default).ob,(L.getD (k+1) default).oAt,(L.getD (k+1) default).fr+1⟩:=by simp [updH,hu,hk2]
        rw [hz] at hv
        repeat' (first|refine sA ?_|refine sO ‹_› fun dc hdc => ?_|refine sN ?_|rw [Nat.add_sub_cancel]|refine rW rfl (h1) ?_|refine rV (h1) ?_|rw [hw]|(refine Rm_v hv ?_ trivial ?_; · (simp [viewOfs,viewOf,List.take_of_length_le,hLl]; done))|(refine Rm_putw (by omega) ⟨(L.getD (k+1) default).addr,(L.getD (k+1) default).eo,(L.getD (k+1) default).ea,(L.getD (k+1) default).eb,(L.getD (k+1) default).eAt,(L.getD (k+1) default).oo,(L.getD (k+1) default).oa,(L.getD (k+1) default).ob,(L.getD (k+1) default).oAt,(L.getD (k+1) default).fr+1⟩ rfl (by first|rfl|exact putw_rfl) rfl ?_)|refine sB ?_|refine sX ?_ ?_<;>(try intro h)<;>(try omega)|exact sP|refine rK ?_|exact sQ|refine sD ?_|exact sE|omega)
        all_goals first
         | (have hVf:V=false:=by assumption
            subst hVf
            exact ret_k (.tup [.agg [.p (.int .i64 0),.nil],.p (.bool false)]) [] (by kernel_rfl) ⟨rfl,rfl⟩)
         | (have hVt:V=true:=by assumption
            subst hVt
            refine ret_k (.tup [.agg [.p (.int .i64 m),.own 0 0 (xs.length+1)],.p (.bool true)]) [.arr 111 10 ((L.set (k+1) ⟨(L.getD (k+1) default).addr,(L.getD (k+1) default).eo,(L.getD (k+1) default).ea,(L.getD (k+1) default).eb,(L.getD (k+1) default).eAt,(L.getD (k+1) default).oo,(L.getD (k+1) default).oa,(L.getD (k+1) default).ob,(L.getD (k+1) default).oAt,(L.getD (k+1) default).fr+1⟩).map Hd.pv)] (by kernel_rfl) ?_
            show RcvD m R _ _
            rw [hL,hz]
            exact ⟨by rw [List.length_set,hLl]; rfl,rfl⟩)
         | skip
  ·rw [decide_eq_false hnm,Bool.and_false,Bool.false_and]
   refine sF fun dc hdc => ?_; refine sA ?_
   repeat' (first|refine sA ?_|refine sO ‹_› fun dc hdc => ?_|refine sN ?_|refine rW rfl (h0) ?_|refine rV (h0) ?_|refine sB ?_|refine sX ?_ ?_<;>(try intro h)<;>(try omega)|exact sP|refine rK ?_|exact sQ|refine sD ?_|exact sE|omega)
   all_goals first
    | exact ret_k (.tup [.agg [.p (.int .i64 0),.nil],.p (.bool false)]) [] (by kernel_rfl) ⟨rfl,rfl⟩
    | skip
end Go.Proofs.YtekmkgegjicjgaaGreat
namespace Go.Proofs.YtekmkgegjicjgaaGreat
open Go.Dv Go.Dv.EvL
set_option maxRecDepth 100000
set_option maxHeartbeats 16000000
attribute [local irreducible] Ok Rm Dm Om Sm Xm Cm Gm Hm Tm
theorem k_iReceive (n:Int)(xs:List Hd)(s:List UInt8)(m:Int)(hb:xs.length≤1048576)(hs:s.length≤1099511627776):Okw Tryz.prog 166 [.agg [.int .i64 n,.sl 10 (xs.map Hd.pv)],.str s,.int .i64 m] (RcvR (rcvB n xs m (rpfO s)) m (rcvL xs (rpfO s).1 m)):=by
 refine ok_D hmix c_impl_Receive (by simp) ?_
 have h1:=k_iReceiver n xs hb
 have h2:=fun h=>k_received n xs s m hs h
 have hd:rcvB n xs m (rpfO s)=(recB2 n xs && (rpfO s).2.2 && decide (n≤m) && recB2 m (rcvL xs (rpfO s).1 m)):=rfl
 generalize rcvL xs (rpfO s).1 m=R at *
 cases hv:recB2 n xs
 ·rw [hv] at hd h1
  simp only [Bool.false_and] at hd
  rw [hd]
  refine sF fun dc hdc => ?_; refine sA ?_
  repeat' (first|refine sA ?_|refine sO ‹_› fun dc hdc => ?_|refine sN ?_|refine rW rfl (h1) ?_|refine rV (h1) ?_|refine sB ?_|refine sX ?_ ?_<;>(try intro h)<;>(try omega)|exact sP|refine rK ?_|exact sQ|refine sD ?_|exact sE|omega)
  all_goals first
   | exact ret_k (.tup [.agg [.p (.int .i64 0),.nil],.p (.bool false)]) [] (by kernel_rfl) ⟨rfl,rfl⟩
   | skip
 ·have h2:=h2 hv
  rw [hv] at hd h1
  simp only [Bool.true_and] at hd
  rw [← hd] at h2
  generalize rcvB n xs m (rpfO s)=V at *
  cases V
  ·refine sF fun dc hdc => ?_; refine sA ?_
   repeat' (first|refine sA ?_|refine sO ‹_› fun dc hdc => ?_|refine sN ?_|refine rW rfl (h1) ?_|refine rV (h1) ?_|(refine Rm_o h2 rfl (fun r H2 hh => ?_); obtain ⟨rfl,rfl⟩:=hh)|refine sB ?_|refine sX ?_ ?_<;>(try intro h)<;>(try omega)|exact sP|refine rK ?_|exact sQ|refine sD ?_|exact sE|omega)
   all_goals first
    | exact ret_k (.tup [.agg [.p (.int .i64 0),.p (.sl 1 [])],.p (.bool false)]) [] (by kernel_rfl) ⟨rfl,rfl⟩
    | skip
  ·refine sF fun dc hdc => ?_; refine sA ?_
   repeat' (first|refine sA ?_|refine sO ‹_› fun dc hdc => ?_|refine sN ?_|refine rW rfl (h1) ?_|refine rV (h1) ?_|(refine Rm_o h2 rfl (fun r H2 hh => ?_); obtain ⟨rfl,rfl⟩:=hh)|refine sB ?_|refine sX ?_ ?_<;>(try intro h)<;>(try omega)|exact sP|refine rK ?_|exact sQ|refine sD ?_|exact sE|omega)
   all_goals first
    | exact ret_k (.tup [.agg [.p (.int .i64 m),.own 0 0 R.length],.p (.bool true)]) [.arr 111 10 (R.map Hd.pv)] (by kernel_rfl) ⟨rfl,rfl⟩
    | skip
theorem k_sReceive (n:Int)(xs:List Hd)(s:List UInt8)(m:Int)(hb:xs.length≤1048576)(hs:s.length≤1099511627776):Okv Tryz.prog 149 [.agg [.int .i64 n,.sl 10 (xs.map Hd.pv)],.str s,.int .i64 m] (rcvP (rcvB n xs m (rpfO s)) m (rcvL xs (rpfO s).1 m)):=by
 refine rcv_pl (ok_D hmix c_spec_Receive (by simp) ?_)
 have h0:=k_l5Repair s hs
 have h1:=k_l9Good n xs hb
 have hM:=k_l9Minute m
 have h2:=fun h1 h2 h3=>k_l9Receive n xs (rpfO s).1 m h1 h2 h3
 have hd:rcvB n xs m (rpfO s)=(recB2 n xs && (rpfO s).2.2 && decide (n≤m) && recB2 m (rcvL xs (rpfO s).1 m)):=rfl
 have hrm:recB2 m (rcvL xs (rpfO s).1 m)=(minB m && decide ((rcvL xs (rpfO s).1 m).length≤6) && recTo m (rcvL xs (rpfO s).1 m) (rcvL xs (rpfO s).1 m).length):=rfl
 have hfr:=rpf_ok (s:=s)
 generalize rcvL xs (rpfO s).1 m=R at *
 unfold frD at h0
 by_cases hG:recB2 n xs=true∧(rpfO s).2.2=true∧minB m=true∧n≤m
 ·obtain ⟨e1,e2,e3,e4⟩:=hG
  obtain ⟨_,g2,_,g4⟩:=rec2_in e1
  have h2:=h2 (by omega) (by have:=(frF_in (hfr e2)).2.2; omega) (fun i hi=>by have:=(hd_at (g4 i hi)).2.1; omega)
  rw [e1,e2,decide_eq_true e4] at hd
  simp only [Bool.true_and] at hd
  rw [← hd] at h2
  rw [e2] at h0
  rw [e1] at h1
  rw [e3] at hM
  generalize rcvB n xs m (rpfO s)=V at *
  generalize (rpfO s).1=f at *
  generalize (rpfO s).2.1=bi at *
  cases V
  ·refine sF fun dc hdc => ?_; refine sA ?_
   repeat' (first|refine sA ?_|refine sO ‹_› fun dc hdc => ?_|refine sN ?_|refine rW rfl (h0) ?_|refine rV (h0) ?_|refine rW rfl (h1) ?_|refine rV (h1) ?_|refine rW rfl (hM) ?_|refine rV (hM) ?_|(refine Rm_o h2 rfl (fun r H2 hh => ?_); obtain ⟨rfl,rfl⟩:=hh)|refine sB ?_|refine sX ?_ ?_<;>(try intro h)<;>(try omega)|exact sP|refine rK ?_|exact sQ|refine sD ?_|exact sE|omega)
   all_goals first
    | exact ret_k (.tup [.agg [.p (.int .i64 0),.p (.sl 1 [])],.p (.bool false)]) [] (by kernel_rfl) ⟨rfl,rfl⟩
    | skip
  ·refine sF fun dc hdc => ?_; refine sA ?_
   repeat' (first|refine sA ?_|refine sO ‹_› fun dc hdc => ?_|refine sN ?_|refine rW rfl (h0) ?_|refine rV (h0) ?_|refine rW rfl (h1) ?_|refine rV (h1) ?_|refine rW rfl (hM) ?_|refine rV (hM) ?_|(refine Rm_o h2 rfl (fun r H2 hh => ?_); obtain ⟨rfl,rfl⟩:=hh)|refine sB ?_|refine sX ?_ ?_<;>(try intro h)<;>(try omega)|exact sP|refine rK ?_|exact sQ|refine sD ?_|exact sE|omega)
   all_goals first
    | exact ret_k (.tup [.agg [.p (.int .i64 m),.own 0 0 R.length],.p (.bool true)]) [.arr 111 10 (R.map Hd.pv)] (by kernel_rfl) ⟨rfl,rfl⟩
    | skip
 ·have hV:rcvB n xs m (rpfO s)=false:=by
   rw [hd,Bool.eq_false_iff]
   intro h
   simp only [Bool.and_eq_true,decide_eq_true_eq] at h
   rw [hrm] at h
   simp only [Bool.and_eq_true,decide_eq_true_eq] at h
   exact hG ⟨h.1.1.1,h.1.1.2,h.2.1.1,h.1.2⟩
  rw [hV]
  clear hd hV hrm h2 hfr
  generalize (rpfO s).2.1=bi at *
  generalize (rpfO s).1=f at *
  generalize (rpfO s).2.2=ok at *
  generalize recB2 n xs=q1 at *
  generalize minB m=q2 at *
  cases q1<;>cases ok<;>cases q2<;>simp only [true_and,Bool.false_eq_true,false_and,not_false_eq_true] at hG
  all_goals
   refine sF fun dc hdc => ?_; refine sA ?_
   repeat' (first|refine sA ?_|refine sO ‹_› fun dc hdc => ?_|refine sN ?_|refine rW rfl (h0) ?_|refine rV (h0) ?_|refine rW rfl (h1) ?_|refine rV (h1) ?_|refine rW rfl (hM) ?_|refine rV (hM) ?_|refine sB ?_|refine sX ?_ ?_<;>(try intro h)<;>(try omega)|exact sP|refine rK ?_|exact sQ|refine sD ?_|exact sE|omega)
  all_goals first
   | exact ret_k (.tup [.agg [.p (.int .i64 0),.nil],.p (.bool false)]) [] (by kernel_rfl) ⟨rfl,rfl⟩
   | skip
theorem k_sPass (n:Int)(xs:List Hd)(m:Int)(hb:xs.length≤1048576):Okv Tryz.prog 159 [.agg [.int .i64 n,.sl 10 (xs.map Hd.pv)],.int .i64 m] (rcvP (ptB n xs m) m (ptTo m xs xs.length)):=by
 refine rcv_pl (pt_ok (ok_D0 c_spec_PassTime (by simp) ?_))
 have hd:ptB n xs m=(recB2 n xs && minB m && decide (n≤m)):=rfl
 have h1:=k_l9Good n xs hb
 have h2:=k_l9Minute m
 cases hB:ptB n xs m
 ·unfold PtD
  simp only [Bool.false_eq_true,if_false]
  rw [hB] at hd
  generalize recB2 n xs=q1 at *
  generalize minB m=q2 at *
  cases q1<;>cases q2<;>simp only [Bool.false_and,Bool.true_and,Bool.and_true,false_eq_decide_iff] at hd
  all_goals
   refine sF fun dc hdc => ?_; refine sA ?_
   repeat' (first|refine sA ?_|refine sO ‹_› fun dc hdc => ?_|refine sN ?_|refine rW rfl (h1) ?_|refine rV (h1) ?_|refine rW rfl (h2) ?_|refine rV (h2) ?_|refine sB ?_|refine sX ?_ ?_<;>(try intro h)<;>(try omega)|exact sP|refine rK ?_|exact sQ|refine sD ?_|exact sE|omega)
  all_goals first
   | exact ret_k (.tup [.agg [.p (.int .i64 0),.nil],.p (.bool false)]) [] (by kernel_rfl) ⟨rfl,rfl⟩
   | skip
 ·obtain ⟨g1,g2,g3⟩:=ptB_in hB
  obtain ⟨g4,g5,g6,g7⟩:=rec2_in g1
  unfold PtD
  simp only [if_true]
  rw [g1] at h1
  rw [show minB m=true from decide_eq_true g2] at h2
  clear hd hB g1
  refine sF fun dc hdc => ?_; refine sA ?_
  repeat' (first|refine sA ?_|refine sO ‹_› fun dc hdc => ?_|refine sN ?_|refine rW rfl (h1) ?_|refine rV (h1) ?_|refine rW rfl (h2) ?_|refine rV (h2) ?_|refine sB ?_|refine sX ?_ ?_<;>(try intro h)<;>(try omega)|exact sP|refine rK ?_|exact sQ|refine sD ?_|exact sE|omega)
  refine Dm_loop [1,2,4,6,7] (fun k ds H' => ∃ i:Nat,i≤xs.length∧k=xs.length - i∧ds=[.p (.int .i64 m),.ptr 0 0 0,.ptr 1 0 0,.ptr 2 0 0,.p (.int .i64 i)] ∧
   ((ptTo m xs i=[]∧H'=[.box 36 [.p (.int .i64 n),.p (.sl 10 (xs.map Hd.pv))],.box 36 [.p (.int .i64 0),.nil],.box 36 [.p (.int .i64 m),.nil]]) ∨
    H'=[.box 36 [.p (.int .i64 n),.p (.sl 10 (xs.map Hd.pv))],.box 36 [.p (.int .i64 0),.nil],.box 36 [.p (.int .i64 m),.own 3 0 (ptTo m xs i).length],.arr 111 10 ((ptTo m xs i).map Hd.pv)])) xs.length ⟨0,by omega,by omega,rfl,.inl ⟨rfl,rfl⟩⟩ ?_
  rintro k ds H' ⟨i,hi,rfl,rfl,hh⟩ -
  have hln:=ptTo_len m xs i
  rcases Nat.lt_or_ge i xs.length with hlt|hge
  ·have hst:ptTo m xs (i+1)=if ptK m (xs.getD i default)=true then ptTo m xs i++[ptH m (xs.getD i default)] else ptTo m xs i:=rfl
   obtain ⟨_,_,k1,k2⟩:=hd_at (g7 i hlt)
   obtain ⟨a1,a2⟩:=hd_times g4.2 (g7 i hlt)
   unfold AtIn at a1 a2
   obtain ⟨hH,hK⟩:=ptH_spec g2 k1 k2
   clear k1 k2
   rw [hH] at hst
   by_cases c1:(xs.getD i default).eAt<m - 10<;>by_cases c2:(xs.getD i default).oAt<m - 10<;>simp only [c1,c2,if_true,if_false] at hst hK
   all_goals
    by_cases hk:ptK m (xs.getD i default)=true
   all_goals
    have hk2:=hk
    rw [hK] at hk2
    first|rw [if_pos hk] at hst|rw [if_neg hk] at hst
    try (exfalso; omega)
   all_goals
    clear hH hK hk
    generalize hY:ptTo m xs (i+1)=Y' at *
    generalize ptTo m xs i=Y at *
    subst hst
    rcases hh with ⟨rfl,rfl⟩|rfl
   all_goals
    repeat' (first|refine sA ?_|refine sO ‹_› fun dc hdc => ?_|refine sN ?_|refine sB ?_|refine sX ?_ ?_<;>(try intro h)<;>(try omega)|exact sP|refine rK ?_|exact sQ|refine sD ?_|exact sE|omega)
   all_goals first
    | exact Xm_inv_n (xs.length - (i+1)) (by omega) ⟨i+1,by omega,rfl,by kernel_rfl,.inl ⟨hY,by kernel_rfl⟩⟩
    | (refine Xm_inv_n (xs.length - (i+1)) (by omega) ⟨i+1,by omega,rfl,by kernel_rfl,.inr ?_⟩
       rw [hY]
       try simp only [List.map_append,List.length_append]
       rfl)
    | skip
  ·obtain rfl:i=xs.length:=by omega
   generalize ptTo m xs xs.length=Y at *
   rcases hh with ⟨rfl,rfl⟩|rfl
   ·repeat' (first|refine sA ?_|refine sO ‹_› fun dc hdc => ?_|refine sN ?_|refine sB ?_|refine sX ?_ ?_<;>(try intro h)<;>(try omega)|exact sP|refine rK ?_|exact sQ|refine sD ?_|exact sE|omega)
    all_goals first
     | exact ret_k (.tup [.agg [.p (.int .i64 m),.nil],.p (.bool true)]) [] (by kernel_rfl) (.inr ⟨rfl,rfl,rfl⟩)
     | exact ret_k (.tup [.agg [.p (.int .i64 m),.nil],.p (.bool true)]) [] (by kernel_rfl) (.inr ⟨rfl,rfl⟩)
     | skip
   ·repeat' (first|refine sA ?_|refine sO ‹_› fun dc hdc => ?_|refine sN ?_|refine sB ?_|refine sX ?_ ?_<;>(try intro h)<;>(try omega)|exact sP|refine rK ?_|exact sQ|refine sD ?_|exact sE|omega)
    all_goals first
     | exact ret_k (.tup [.agg [.p (.int .i64 m),.own 0 0 Y.length],.p (.bool true)]) [.arr 111 10 (Y.map Hd.pv)] (by kernel_rfl) (.inl ⟨rfl,rfl⟩)
     | skip
end Go.Proofs.YtekmkgegjicjgaaGreat

import Derived.Test.YtekmkgegjicjgaaGreatZBas
import Derived.Test.YtekmkgegjicjgaaGreatZRcA
import Derived.Test.YtekmkgegjicjgaaGreatZFrmB
namespace Go.Proofs.YtekmkgegjicjgaaGreat
open Go.Dv Go.Dv.EvL
set_option maxRecDepth 100000
set_option maxHeartbeats 16000000
attribute [local irreducible] Ok Rm Dm Om Sm Xm Cm Gm Hm Tm
theorem k_l9Own (n m:Int)(xs:List Hd)(hb:xs.length≤1048576):Okw Tryz.prog 94 [.agg [.int .i64 n,.sl 10 (xs.map Hd.pv)],.int .i64 m] fun d H=>d = .agg [.p (.int .i64 m),.own 0 0 xs.length]∧H=[.arr 111 10 (xs.map Hd.pv)]:=by
 refine ok_D hmix c_spec_l9Own (by simp) ?_
 refine sA ?_
 repeat' (first|refine sA ?_|refine sO ‹_› fun dc hdc => ?_|refine sN ?_|refine sB ?_|refine sX ?_ ?_<;>(try intro h)<;>(try omega)|exact sP|refine rK ?_|exact sQ|refine sD ?_|exact sE|omega)
 all_goals skip
def FrIn (xs:List Hd):Prop := ∀ i,i<xs.length → -1000000≤(xs.getD i default).fr∧(xs.getD i default).fr≤1000000
theorem insH_fr {xs:List Hd}{a:Int}(h:FrIn xs) : -1000000≤((insH xs a).getD (posH a xs) default).fr∧((insH xs a).getD (posH a xs) default).fr≤1000000:=by
 unfold insH
 split
 ·rename_i h1
  exact h _ h1.1
 ·have hl:(xs.take (posH a xs)).length=posH a xs:=by have:=posH_le a xs; rw [List.length_take]; omega
  rw [getD_app_r (by omega),hl,Nat.sub_self]
  simp [newH]
theorem pos_next {a:Int}{xs:List Hd}{k:Nat}(h : ∀ j,j<k→(xs.getD j default).addr<a)(hk:(xs.getD k default).addr<a) : ∀ j,j<k+1→(xs.getD j default).addr<a:=fun j hj=>by
 by_cases e:j=k
 ·rw [e]; exact hk
 ·exact h j (by omega)
theorem k_l9Receive (n:Int)(xs:List Hd)(f:Nat × Nat × Nat)(m:Int)(hb:xs.length≤1000)(hf:f.2.2≤1099511627776)(hfr:FrIn xs):Okw Tryz.prog 189 [.agg [.int .i64 n,.sl 10 (xs.map Hd.pv)],.agg [.int .i64 f.1,.int .i64 f.2.1,.int .i64 f.2.2],.int .i64 m] (RcvR (recB2 m (rcvL xs f m)) m (rcvL xs f m)):=by
 refine ok_D hmix c_spec_l9Receive (by simp) ?_
 obtain ⟨kd,ad,da⟩:=f
 simp only [] at hf
 have h0:=k_l9Own n m xs (by omega)
 have h1:=k_l7Unpack da hf
 have hL:rcvL xs (kd,ad,da) m=(insH xs ad).set (posH ad xs) (updH ((insH xs ad).getD (posH ad xs) default) (kd,ad,da) m):=rfl
 have hv:=fun ys:List Hd=>k_l9Good m ys
 have hi:=insH_len xs ad
 have hif:=insH_fr (a:=ad) hfr
 have hpe:=fun k=>posH_eq (a:=(ad:Int)) (xs:=xs) (k:=k)
 have hI:insH xs ad=if posH ad xs<xs.length∧(xs.getD (posH ad xs) default).addr=ad then xs else xs.take (posH ad xs)++newH ad::xs.drop (posH ad xs):=rfl
 generalize rcvL xs (kd,ad,da) m=R at *
 refine sF fun dc hdc => ?_; refine sA ?_
 repeat' (first|refine sA ?_|refine sO ‹_› fun dc hdc => ?_|refine sN ?_|(refine Rm_o h0 rfl (fun r H2 hh => ?_); obtain ⟨rfl,rfl⟩:=hh)|refine sB ?_|refine sX ?_ ?_<;>(try intro h)<;>(try omega)|exact sP|refine rK ?_|exact sQ|refine sD ?_|exact sE|omega)
 refine Dm_loop [2,4,6,8,9] (fun v ds H' => ∃ k:Nat,k≤xs.length∧v=xs.length - k∧(∀ j,j<k→(xs.getD j default).addr<ad)∧ds=[.p (.int .i64 m),.ptr 0 0 0,.ptr 1 0 0,.ptr 2 0 0,.p (.int .i64 k)] ∧
  H'=[.box 130 [.p (.int .i64 kd),.p (.int .i64 ad),.p (.int .i64 da)],.box 36 [.p (.int .i64 0),.nil],.box 36 [.p (.int .i64 m),.own 3 0 xs.length],.arr 111 10 (xs.map Hd.pv)]) xs.length ⟨0,by omega,by omega,fun j hj=>by omega,rfl,rfl⟩ ?_
 rintro v ds H' ⟨k,hk,rfl,hlo,rfl,rfl⟩ -
 have hpe:=hpe k hk hlo
 have hnx:=fun h=>pos_next (k:=k) hlo h
 by_cases hA:k<xs.length∧(xs.getD k default).addr<ad
 ·have hnx:=hnx hA.2
  obtain ⟨hA1,hA2⟩:=hA
  clear hI hif hi hL hv h1 h0
  repeat' (first|refine sA ?_|refine sO ‹_› fun dc hdc => ?_|refine sN ?_|refine sB ?_|refine sX ?_ ?_<;>(try intro h)<;>(try omega)|exact sP|refine rK ?_|exact sQ|refine sD ?_|exact sE|omega)
  all_goals first
   | exact Xm_inv_n (xs.length - (k+1)) (by omega) ⟨k+1,by omega,rfl,hnx,by kernel_rfl,by kernel_rfl⟩
   | skip
 ·have hpe:=hpe (fun h1 h2=>hA ⟨h1,h2⟩)
  have hup:upO da=if upB da=true then ((decide (16384≤da),((da % 16384 / 128:Nat):Int),((da % 128:Nat):Int)),true) else ((false,0,0),false):=rfl
  by_cases hB:k<xs.length∧(xs.getD k default).addr=ad
  ·rw [hpe,if_pos hB] at hI
   rw [hpe] at hi hif hL
   rw [hI] at hi hif hL
   obtain ⟨hB1,hB2⟩:=hB
   have hge : ¬ (xs.getD k default).addr<ad:=by omega
   have hw:IntKind.wrap .i64 ((xs.getD k default).fr+1)=(xs.getD k default).fr+1:=w64 (by omega)
   have hv:=hv R (by rw [hL,List.length_set]; omega)
   clear hI hA hpe h0
   generalize upO da=P at *
   obtain ⟨V,hV⟩ : ∃ V,V=recB2 m R:=⟨_,rfl⟩
   rw [← hV] at hv ⊢
   rw [hL] at hv
   clear hV
   cases hu:upB da
   ·rw [hu,if_neg (by decide)] at hup
    subst hup
    have hz:updH (xs.getD k default) (kd,ad,da) m=⟨(xs.getD k default).addr,(xs.getD k default).eo,(xs.getD k default).ea,(xs.getD k default).eb,(xs.getD k default).eAt,(xs.getD k default).oo,(xs.getD k default).oa,(xs.getD k default).ob,(xs.getD k default).oAt,(xs.getD k default).fr+1⟩:=by simp [updH,hu]
    rw [hz] at hv
    repeat' (first|refine sA ?_|refine sO ‹_› fun dc hdc => ?_|refine sN ?_|refine rW rfl (h1) ?_|refine rV (h1) ?_|rw [hw]|refine rW rfl (hv) ?_|refine rV (hv) ?_|(refine Rm_putw (by omega) ⟨(xs.getD k default).addr,(xs.getD k default).eo,(xs.getD k default).ea,(xs.getD k default).eb,(xs.getD k default).eAt,(xs.getD k default).oo,(xs.getD k default).oa,(xs.getD k default).ob,(xs.getD k default).oAt,(xs.getD k default).fr+1⟩ rfl (by first|rfl|exact putw_rfl) rfl ?_)|refine sB ?_|refine sX ?_ ?_<;>(try intro h)<;>(try omega)|exact sP|refine rK ?_|exact sQ|refine sD ?_|exact sE|omega)
    all_goals first
     | (have hVf:V=false:=by assumption
        subst hVf
        exact ret_k (.tup [.agg [.p (.int .i64 0),.nil],.p (.bool false)]) [] (by kernel_rfl) ⟨rfl,rfl⟩)
     | (have hVt:V=true:=by assumption
        subst hVt
        refine ret_k (.tup [.agg [.p (.int .i64 m),.own 0 0 xs.length],.p (.bool true)]) [.arr 111 10 ((xs.set k ⟨(xs.getD k default).addr,(xs.getD k default).eo,(xs.getD k default).ea,(xs.getD k default).eb,(xs.getD k default).eAt,(xs.getD k default).oo,(xs.getD k default).oa,(xs.getD k default).ob,(xs.getD k default).oAt,(xs.getD k default).fr+1⟩).map Hd.pv)] (by kernel_rfl) ?_
        show RcvD m R _ _
        rw [hL,hz]
        exact ⟨by rw [List.length_set]; rfl,rfl⟩)
     | skip
   ·rw [hu,if_pos rfl] at hup
    by_cases hk2:kd=2
    ·by_cases hod:16384≤da
     ·rw [decide_eq_true hod] at hup
      subst hup
      have hz:updH (xs.getD k default) (kd,ad,da) m=⟨(xs.getD k default).addr,(xs.getD k default).eo,(xs.getD k default).ea,(xs.getD k default).eb,(xs.getD k default).eAt,true,((da % 16384 / 128:Nat):Int),((da % 128:Nat):Int),m,(xs.getD k default).fr+1⟩:=by simp [updH,hu,hk2,hod]
      rw [hz] at hv
      repeat' (first|refine sA ?_|refine sO ‹_› fun dc hdc => ?_|refine sN ?_|refine rW rfl (h1) ?_|refine rV (h1) ?_|rw [hw]|refine rW rfl (hv) ?_|refine rV (hv) ?_|(refine Rm_putw (by omega) ⟨(xs.getD k default).addr,(xs.getD k default).eo,(xs.getD k default).ea,(xs.getD k default).eb,(xs.getD k default).eAt,true,((da % 16384 / 128:Nat):Int),((da % 128:Nat):Int),m,(xs.getD k default).fr+1⟩ rfl (by first|rfl|exact putw_rfl) rfl ?_)|refine sB ?_|refine sX ?_ ?_<;>(try intro h)<;>(try omega)|exact sP|refine rK ?_|exact sQ|refine sD ?_|exact sE|omega)
      all_goals first
       | (have hVf:V=false:=by assumption
          subst hVf
          exact ret_k (.tup [.agg [.p (.int .i64 0),.nil],.p (.bool false)]) [] (by kernel_rfl) ⟨rfl,rfl⟩)
       | (have hVt:V=true:=by assumption
          subst hVt
          refine ret_k (.tup [.agg [.p (.int .i64 m),.own 0 0 xs.length],.p (.bool true)]) [.arr 111 10 ((xs.set k ⟨(xs.getD k default).addr,(xs.getD k default).eo,(xs.getD k default).ea,(xs.getD k default).eb,(xs.getD k default).eAt,true,((da % 16384 / 128:Nat):Int),((da % 128:Nat):Int),m,(xs.getD k default).fr+1⟩).map Hd.pv)] (by kernel_rfl) ?_
          show RcvD m R _ _
          rw [hL,hz]
          exact ⟨by rw [List.length_set]; rfl,rfl⟩)
       | skip
     ·rw [decide_eq_false hod] at hup
      subst hup
      have hz:updH (xs.getD k default) (kd,ad,da) m=⟨(xs.getD k default).addr,false,((da % 16384 / 128:Nat):Int),((da % 128:Nat):Int),m,(xs.getD k default).oo,(xs.getD k default).oa,(xs.getD k default).ob,(xs.getD k default).oAt,(xs.getD k default).fr+1⟩:=by simp [updH,hu,hk2,hod]
      rw [hz] at hv
      repeat' (first|refine sA ?_|refine sO ‹_› fun dc hdc => ?_|refine sN ?_|refine rW rfl (h1) ?_|refine rV (h1) ?_|rw [hw]|refine rW rfl (hv) ?_|refine rV (hv) ?_|(refine Rm_putw (by omega) ⟨(xs.getD k default).addr,false,((da % 16384 / 128:Nat):Int),((da % 128:Nat):Int),m,(xs.getD k default).oo,(xs.getD k default).oa,(xs.getD k default).ob,(xs.getD k default).oAt,(xs.getD k default).fr+1⟩ rfl (by first|rfl|exact putw_rfl) rfl ?_)|refine sB ?_|refine sX ?_ ?_<;>(try intro h)<;>(try omega)|exact sP|refine rK ?_|exact sQ|refine sD ?_|exact sE|omega)
      all_goals first
       | (have hVf:V=false:=by assumption
          subst hVf
          exact ret_k (.tup [.agg [.p (.int .i64 0),.nil],.p (.bool false)]) [] (by kernel_rfl) ⟨rfl,rfl⟩)
       | (have hVt:V=true:=by assumption
          subst hVt
          refine ret_k (.tup [.agg [.p (.int .i64 m),.own 0 0 xs.length],.p (.bool true)]) [.arr 111 10 ((xs.set k ⟨(xs.getD k default).addr,false,((da % 16384 / 128:Nat):Int),((da % 128:Nat):Int),m,(xs.getD k default).oo,(xs.getD k default).oa,(xs.getD k default).ob,(xs.getD k default).oAt,(xs.getD k default).fr+1⟩).map Hd.pv)] (by kernel_rfl) ?_
          show RcvD m R _ _
          rw [hL,hz]
          exact ⟨by rw [List.length_set]; rfl,rfl⟩)
       | skip
    ·subst hup
     have hz:updH (xs.getD k default) (kd,ad,da) m=⟨(xs.getD k default).addr,(xs.getD k default).eo,(xs.getD k default).ea,(xs.getD k default).eb,(xs.getD k default).eAt,(xs.getD k default).oo,(xs.getD k default).oa,(xs.getD k default).ob,(xs.getD k default).oAt,(xs.getD k default).fr+1⟩:=by simp [updH,hu,hk2]
     rw [hz] at hv
     repeat' (first|refine sA ?_|refine sO ‹_› fun dc hdc => ?_|refine sN ?_|refine rW rfl (h1) ?_|refine rV (h1) ?_|rw [hw]|refine rW rfl (hv) ?_|refine rV (hv) ?_|(refine Rm_putw (by omega) ⟨(xs.getD k default).addr,(xs.getD k default).eo,(xs.getD k default).ea,(xs.getD k default).eb,(xs.getD k default).eAt,(xs.getD k default).oo,(xs.getD k default).oa,(xs.getD k default).ob,(xs.getD k default).oAt,(xs.getD k default).fr+1⟩ rfl (by first|rfl|exact putw_rfl) rfl ?_)|refine sB ?_|refine sX ?_ ?_<;>(try intro h)<;>(try omega)|exact sP|refine rK ?_|exact sQ|refine sD ?_|exact sE|omega)
     all_goals first
      | (have hVf:V=false:=by assumption
         subst hVf
         exact ret_k (.tup [.agg [.p (.int .i64 0),.nil],.p (.bool false)]) [] (by kernel_rfl) ⟨rfl,rfl⟩)
      | (have hVt:V=true:=by assumption
         subst hVt
         refine ret_k (.tup [.agg [.p (.int .i64 m),.own 0 0 xs.length],.p (.bool true)]) [.arr 111 10 ((xs.set k ⟨(xs.getD k default).addr,(xs.getD k default).eo,(xs.getD k default).ea,(xs.getD k default).eb,(xs.getD k default).eAt,(xs.getD k default).oo,(xs.getD k default).oa,(xs.getD k default).ob,(xs.getD k default).oAt,(xs.getD k default).fr+1⟩).map Hd.pv)] (by kernel_rfl) ?_
         show RcvD m R _ _
         rw [hL,hz]
         exact ⟨by rw [List.length_set]; rfl,rfl⟩)
      | skip
  ·have hlk:(xs.take k).length=k:=by rw [List.length_take]; omega
   have hld:(xs.drop k).length=xs.length - k:=List.length_drop
   rw [hpe,if_neg hB] at hI
   rw [hpe] at hi hif hL
   rw [hI] at hi hif hL
   have hg:(xs.take k++newH ad::xs.drop k).getD k default=newH ad:=by
    rw [getD_app_r (by omega),hlk,Nat.sub_self]
    rfl
   have hne:k<xs.length → ¬ (xs.getD k default).addr=ad:=fun h1 h2=>hB ⟨h1,h2⟩
   have hge:k<xs.length → ¬ (xs.getD k default).addr<ad:=fun h1 h2=>hA ⟨h1,h2⟩
   have hdr:(xs.drop k).take (xs.length - k)=xs.drop k:=List.take_of_length_le (by omega)
   have hrow:List.take ((xs.take k).length+1) ((xs.take k).map Hd.pv++[.agg [.int .i64 ad,.bool false,.int .i64 0,.int .i64 0,.int .i64 (-1),.bool false,.int .i64 0,.int .i64 0,.int .i64 (-1),.int .i64 0]])++((xs.drop k).take (xs.length - k)).map Hd.pv=(xs.take k++newH ad::xs.drop k).map Hd.pv:=by
    rw [hdr,List.take_of_length_le (by simp),List.map_append,List.map_cons,List.append_assoc]
    rfl
   have hrl:(xs.take k).length+1+((xs.drop k).take (xs.length - k)).length=(xs.take k++newH ad::xs.drop k).length:=by
    rw [hdr,List.length_append,List.length_cons]
    omega
   have hkl:k<(xs.take k++newH ad::xs.drop k).length:=by rw [List.length_append,List.length_cons]; omega
   generalize xs.take k++newH ad::xs.drop k=L at *
   have hw:IntKind.wrap .i64 ((L.getD k default).fr+1)=(L.getD k default).fr+1:=w64 (by omega)
   have hv:=hv R (by rw [hL,List.length_set]; omega)
   clear hI hB hA hpe h0
   generalize upO da=P at *
   obtain ⟨V,hV⟩ : ∃ V,V=recB2 m R:=⟨_,rfl⟩
   rw [← hV] at hv ⊢
   rw [hL] at hv
   clear hV
   rcases Nat.lt_or_ge k xs.length with hlt|hge2
   all_goals
    try have hne:=hne hlt
    try have hge:=hge hlt
    cases hu:upB da
    ·rw [hu,if_neg (by decide)] at hup
     subst hup
     have hz:updH (L.getD k default) (kd,ad,da) m=⟨(L.getD k default).addr,(L.getD k default).eo,(L.getD k default).ea,(L.getD k default).eb,(L.getD k default).eAt,(L.getD k default).oo,(L.getD k default).oa,(L.getD k default).ob,(L.getD k default).oAt,(L.getD k default).fr+1⟩:=by simp [updH,hu]
     rw [hz] at hv
     repeat' (first|refine sA ?_|refine sO ‹_› fun dc hdc => ?_|refine sN ?_|refine rW rfl (h1) ?_|refine rV (h1) ?_|rw [hrow]|rw [hrl]|rw [hw]|refine rW rfl (hv) ?_|refine rV (hv) ?_|(refine Dm_draw [2,4] ?_ ?_; · (simp; done))|(refine Rm_putw (by omega) ⟨(L.getD k default).addr,(L.getD k default).eo,(L.getD k default).ea,(L.getD k default).eb,(L.getD k default).eAt,(L.getD k default).oo,(L.getD k default).oa,(L.getD k default).ob,(L.getD k default).oAt,(L.getD k default).fr+1⟩ rfl (by first|rfl|exact putw_rfl) rfl ?_)|refine sB ?_|refine sX ?_ ?_<;>(try intro h)<;>(try omega)|exact sP|refine rK ?_|exact sQ|refine sD ?_|exact sE|omega)
     all_goals first
      | (have hVf:V=false:=by assumption
         subst hVf
         exact ret_k (.tup [.agg [.p (.int .i64 0),.nil],.p (.bool false)]) [] (by kernel_rfl) ⟨rfl,rfl⟩)
      | (have hVt:V=true:=by assumption
         subst hVt
         refine ret_k (.tup [.agg [.p (.int .i64 m),.own 0 0 L.length],.p (.bool true)]) [.arr 111 10 ((L.set k ⟨(L.getD k default).addr,(L.getD k default).eo,(L.getD k default).ea,(L.getD k default).eb,(L.getD k default).eAt,(L.getD k default).oo,(L.getD k default).oa,(L.getD k default).ob,(L.getD k default).oAt,(L.getD k default).fr+1⟩).map Hd.pv)] (by kernel_rfl) ?_
         show RcvD m R _ _
         rw [hL,hz]
         exact ⟨by rw [List.length_set]; rfl,rfl⟩)
      | skip
    ·rw [hu,if_pos rfl] at hup
     by_cases hk2:kd=2
     ·by_cases hod:16384≤da
      ·rw [decide_eq_true hod] at hup
       subst hup
       have hz:updH (L.getD k default) (kd,ad,da) m=⟨(L.getD k default).addr,(L.getD k default).eo,(L.getD k default).ea,(L.getD k default).eb,(L.getD k default).eAt,true,((da % 16384 / 128:Nat):Int),((da % 128:Nat):Int),m,(L.getD k default).fr+1⟩:=by simp [updH,hu,hk2,hod]
       rw [hz] at hv
       repeat' (first|refine sA ?_|refine sO ‹_› fun dc hdc => ?_|refine sN ?_|refine rW rfl (h1) ?_|refine rV (h1) ?_|rw [hrow]|rw [hrl]|rw [hw]|refine rW rfl (hv) ?_|refine rV (hv) ?_|(refine Dm_draw [2,4] ?_ ?_; · (simp; done))|(refine Rm_putw (by omega) ⟨(L.getD k default).addr,(L.getD k default).eo,(L.getD k default).ea,(L.getD k default).eb,(L.getD k default).eAt,true,((da % 16384 / 128:Nat):Int),((da % 128:Nat):Int),m,(L.getD k default).fr+1⟩ rfl (by first|rfl|exact putw_rfl) rfl ?_)|refine sB ?_|refine sX ?_ ?_<;>(try intro h)<;>(try omega)|exact sP|refine rK ?_|exact sQ|refine sD ?_|exact sE|omega)
       all_goals first
        | (have hVf:V=false:=by assumption
           subst hVf
           exact ret_k (.tup [.agg [.p (.int .i64 0),.nil],.p (.bool false)]) [] (by kernel_rfl) ⟨rfl,rfl⟩)
        | (have hVt:V=true:=by assumption
           subst hVt
           refine ret_k (.tup [.agg [.p (.int .i64 m),.own 0 0 L.length],.p (.bool true)]) [.arr 111 10 ((L.set k ⟨(L.getD k default).addr,(L.getD k default).eo,(L.getD k default).ea,(L.getD k default).eb,(L.getD k default).eAt,true,((da % 16384 / 128:Nat):Int),((da % 128:Nat):Int),m,(L.getD k default).fr+1⟩).map Hd.pv)] (by kernel_rfl) ?_
           show RcvD m R _ _
           rw [hL,hz]
           exact ⟨by rw [List.length_set]; rfl,rfl⟩)
        | skip
      ·rw [decide_eq_false hod] at hup
       subst hup
       have hz:updH (L.getD k default) (kd,ad,da) m=⟨(L.getD k default).addr,false,((da % 16384 / 128:Nat):Int),((da % 128:Nat):Int),m,(L.getD k default).oo,(L.getD k default).oa,(L.getD k default).ob,(L.getD k default).oAt,(L.getD k default).fr+1⟩:=by simp [updH,hu,hk2,hod]
       rw [hz] at hv
       repeat' (first|refine sA ?_|refine sO ‹_› fun dc hdc => ?_|refine sN ?_|refine rW rfl (h1) ?_|refine rV (h1) ?_|rw [hrow]|rw [hrl]|rw [hw]|refine rW rfl (hv) ?_|refine rV (hv) ?_|(refine Dm_draw [2,4] ?_ ?_; · (simp; done))|(refine Rm_putw (by omega) ⟨(L.getD k default).addr,false,((da % 16384 / 128:Nat):Int),((da % 128:Nat):Int),m,(L.getD k default).oo,(L.getD k default).oa,(L.getD k default).ob,(L.getD k default).oAt,(L.getD k default).fr+1⟩ rfl (by first|rfl|exact putw_rfl) rfl ?_)|refine sB ?_|refine sX ?_ ?_<;>(try intro h)<;>(try omega)|exact sP|refine rK ?_|exact sQ|refine sD ?_|exact sE|omega)
       all_goals first
        | (have hVf:V=false:=by assumption
           subst hVf
           exact ret_k (.tup [.agg [.p (.int .i64 0),.nil],.p (.bool false)]) [] (by kernel_rfl) ⟨rfl,rfl⟩)
        | (have hVt:V=true:=by assumption
           subst hVt
           refine ret_k (.tup [.agg [.p (.int .i64 m),.own 0 0 L.length],.p (.bool true)]) [.arr 111 10 ((L.set k ⟨(L.getD k default).addr,false,((da % 16384 / 128:Nat):Int),((da % 128:Nat):Int),m,(L.getD k default).oo,(L.getD k default).oa,(L.getD k default).ob,(L.getD k default).oAt,(L.getD k default).fr+1⟩).map Hd.pv)] (by kernel_rfl) ?_
           show RcvD m R _ _
           rw [hL,hz]
           exact ⟨by rw [List.length_set]; rfl,rfl⟩)
        | skip
     ·subst hup
      have hz:updH (L.getD k default) (kd,ad,da) m=⟨(L.getD k default).addr,(L.getD k default).eo,(L.getD k default).ea,(L.getD k default).eb,(L.getD k default).eAt,(L.getD k default).oo,(L.getD k default).oa,(L.getD k default).ob,(L.getD k default).oAt,(L.getD k default).fr+1⟩:=by simp [updH,hu,hk2]
      rw [hz] at hv
      repeat' (first|refine sA ?_|refine sO ‹_› fun dc hdc => ?_|refine sN ?_|refine rW rfl (h1) ?_|refine rV (h1) ?_|rw [hrow]|rw [hrl]|rw [hw]|refine rW rfl (hv) ?_|refine rV (hv) ?_|(refine Dm_draw [2,4] ?_ ?_; · (simp; done))|(refine Rm_putw (by omega) ⟨(L.getD k default).addr,(L.getD k default).eo,(L.getD k default).ea,(L.getD k default).eb,(L.getD k default).eAt,(L.getD k default).oo,(L.getD k default).oa,(L.getD k default).ob,(L.getD k default).oAt,(L.getD k default).fr+1⟩ rfl (by first|rfl|exact putw_rfl) rfl ?_)|refine sB ?_|refine sX ?_ ?_<;>(try intro h)<;>(try omega)|exact sP|refine rK ?_|exact sQ|refine sD ?_|exact sE|omega)
      all_goals first
       | (have hVf:V=false:=by assumption
          subst hVf
          exact ret_k (.tup [.agg [.p (.int .i64 0),.nil],.p (.bool false)]) [] (by kernel_rfl) ⟨rfl,rfl⟩)
       | (have hVt:V=true:=by assumption
          subst hVt
          refine ret_k (.tup [.agg [.p (.int .i64 m),.own 0 0 L.length],.p (.bool true)]) [.arr 111 10 ((L.set k ⟨(L.getD k default).addr,(L.getD k default).eo,(L.getD k default).ea,(L.getD k default).eb,(L.getD k default).eAt,(L.getD k default).oo,(L.getD k default).oa,(L.getD k default).ob,(L.getD k default).oAt,(L.getD k default).fr+1⟩).map Hd.pv)] (by kernel_rfl) ?_
          show RcvD m R _ _
          rw [hL,hz]
          exact ⟨by rw [List.length_set]; rfl,rfl⟩)
       | skip
end Go.Proofs.YtekmkgegjicjgaaGreat

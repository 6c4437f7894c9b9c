import Derived.Test.YtekmkgegjicjgaaGreatZBas
import Derived.Test.YtekmkgegjicjgaaGreatZAlA
namespace Go.Proofs.YtekmkgegjicjgaaGreat
open Go.Dv Go.Dv.EvL
set_option maxRecDepth 100000
set_option maxHeartbeats 16000000
attribute [local irreducible] Ok Rm Dm Om Sm Xm Cm Gm Hm Tm
def uoO (xs:List Al):List Al × Bool:=if alsB xs=true then (uoTo xs xs.length,true) else ([],false)
def uoD (xs:List Al)(d:DV)(H:Heap):Prop:=d = .tup [.own 0 0 (uoO xs).1.length,.p (.bool (uoO xs).2)]∧H=[.arr 158 2 ((uoO xs).1.map pairPV)]
theorem uo_pl {f:FuncId}{ps:List PV}{xs:List Al}(h:Okw Tryz.prog f ps (uoD xs)):Okv Tryz.prog f ps (.tup [.p (.sl 2 ((uoO xs).1.map pairPV)),.p (.bool (uoO xs).2)]):=by
 refine ok_frz h fun d H h=>⟨fun ob ho=>by simp at ho,_,?_,rfl,by simp⟩
 obtain ⟨rfl,rfl⟩:=h
 refine .inr ⟨_,[.sl 2 ((uoO xs).1.map pairPV),.bool (uoO xs).2],rfl,?_,rfl⟩
 simp [hid,viewOf,viewOfs,List.take_of_length_le]
theorem insU_at {o:List Al}{a:Al}{n k:Nat}(hn:o.length=n)(hk:downU o a n=downU o a k)(h:k=0∨ufB (o.getD (k - 1) default) a=false):insU o a=o.take k++a::o.drop k:=by
 have e:downU o a k=k:=by
  rcases Nat.eq_zero_or_pos k with h0|h0
  ·rw [h0]; rfl
  ·obtain ⟨j,rfl⟩ : ∃ j,k=j+1:=⟨k - 1,by omega⟩
   rcases h with h|h
   ·omega
   ·rw [Nat.add_sub_cancel] at h
    rw [downU,if_neg (by rw [h]; decide)]
 unfold insU
 rw [hn,hk,e]
theorem k_sUnseen (xs:List Al)(hb:xs.length≤1048576):Okv Tryz.prog 146 [.sl 5 (xs.map Al.pv)] (.tup [.p (.sl 2 ((uoO xs).1.map pairPV)),.p (.bool (uoO xs).2)]):=by
 refine uo_pl (ok_D hmix c_spec_UnseenAlerts (by simp) ?_)
 have hs:uoO xs=if alsB xs=true then (uoTo xs xs.length,true) else ([],false):=rfl
 have h1:=k_l20Good xs hb
 unfold uoD
 cases hB:alsB xs
 ·rw [hB,if_neg (by decide)] at hs
  rw [hB] at h1
  rw [hs]
  refine sF fun dc hdc => ?_; refine sA ?_
  repeat' (first|refine sA ?_|refine sO ‹_› fun dc hdc => ?_|refine sN ?_|refine rW rfl (h1) ?_|refine rV (h1) ?_|refine sB ?_|refine sX ?_ ?_<;>(try intro h)<;>(try omega)|exact sP|refine rK ?_|exact sQ|refine sD ?_|exact sE|omega)
  all_goals skip
 ·obtain ⟨_,g2⟩:=als_to hB
  rw [hB,if_pos rfl] at hs
  rw [hB] at h1
  rw [hs]
  simp only []
  clear hs
  refine sF fun dc hdc => ?_; refine sA ?_
  repeat' (first|refine sA ?_|refine sO ‹_› fun dc hdc => ?_|refine sN ?_|refine rW rfl (h1) ?_|refine rV (h1) ?_|refine sB ?_|refine sX ?_ ?_<;>(try intro h)<;>(try omega)|exact sP|refine rK ?_|exact sQ|refine sD ?_|exact sE|omega)
  refine Dm_loop [0,4,5,6] (fun v ds H' => ∃ i:Nat,i≤xs.length∧v=xs.length - i∧ds=[.p (.sl 5 (xs.map Al.pv)),.own 0 0 0,.own 1 0 (uoTo xs i).length,.p (.int .i64 i)] ∧
   H'=[.arr 158 2 [],.arr 114 5 ((uoTo xs i).map Al.pv)]) xs.length ⟨0,by omega,by omega,rfl,rfl⟩ ?_
  rintro v ds H' ⟨i,hi,rfl,rfl,rfl⟩ -
  have hln:=uoTo_len xs i
  rcases Nat.lt_or_ge i xs.length with hlt|hge
  ·have hst:uoTo xs (i+1)=if (xs.getD i default).seen=true then uoTo xs i else insU (uoTo xs i) (xs.getD i default):=rfl
   cases hsn:(xs.getD i default).seen
   ·rw [hsn,if_neg (by decide)] at hst
    generalize hY:uoTo xs (i+1)=Y' at *
    generalize uoTo xs i=o at *
    obtain ⟨n,hn⟩ : ∃ n,o.length=n:=⟨_,rfl⟩
    rw [hn] at hln ⊢
    repeat' (first|refine sA ?_|refine sO ‹_› fun dc hdc => ?_|refine sN ?_|rw [hsn]|refine sB ?_|refine sX ?_ ?_<;>(try intro h)<;>(try omega)|exact sP|refine rK ?_|exact sQ|refine sD ?_|exact sE|omega)
    refine Dm_loop [0,4,5,6,7,8] (fun k ds H'=>k≤n∧downU o (xs.getD i default) n=downU o (xs.getD i default) k∧ds=[.p (.sl 5 (xs.map Al.pv)),.own 0 0 0,.own 1 0 n,.p (.int .i64 i),.ptr 2 0 0,.p (.int .i64 k)] ∧
     H'=[.arr 158 2 [],.arr 114 5 (o.map Al.pv),.box 114 [.p (.int .i64 (xs.getD i default).low),.p (.int .i64 (xs.getD i default).high),.p (.int .i64 (xs.getD i default).lvl),.p (.int .i64 (xs.getD i default).since),.p (.bool false)]]) n ⟨by omega,rfl,rfl,rfl⟩ ?_
    rintro k ds H' ⟨hk,hdk,rfl,rfl⟩ -
    have hu:ufB (o.getD (k - 1) default) (xs.getD i default)=(decide ((o.getD (k - 1) default).lvl<(xs.getD i default).lvl) || (decide ((o.getD (k - 1) default).lvl=(xs.getD i default).lvl) && decide ((xs.getD i default).since<(o.getD (k - 1) default).since))):=rfl
    have hins:=insU_at (a:=xs.getD i default) hn hdk
    have eT:(o.drop k).take (n - k)=o.drop k:=List.take_of_length_le (by rw [List.length_drop]; omega)
    have eN:(o.take k).length+1+(o.drop k).length=(o.take k++xs.getD i default::o.drop k).length:=by rw [List.length_append,List.length_cons]; omega
    have eR:List.take ((o.take k).length+1) ((o.take k).map Al.pv++[.agg [.int .i64 (xs.getD i default).low,.int .i64 (xs.getD i default).high,.int .i64 (xs.getD i default).lvl,.int .i64 (xs.getD i default).since,.bool false]])++(o.drop k).map Al.pv=(o.take k++xs.getD i default::o.drop k).map Al.pv:=by
     rw [List.take_of_length_le (by simp),List.map_append,List.map_cons,List.append_assoc,al_pv,hsn]
     rfl
    rcases Nat.eq_zero_or_pos k with hk0|hk0
    ·have hins:=hins (.inl hk0)
     rw [← hins,← hst] at eN eR
     subst hk0
     clear hu
     have eT0:o.take n=o:=List.take_of_length_le (by omega)
     have eN0:1+o.length=Y'.length:=by simp at eN; omega
     have eR0:PV.agg [.int .i64 (xs.getD i default).low,.int .i64 (xs.getD i default).high,.int .i64 (xs.getD i default).lvl,.int .i64 (xs.getD i default).since,.bool false]::o.map Al.pv=Y'.map Al.pv:=by simpa using eR
     repeat' (first|refine sA ?_|refine sO ‹_› fun dc hdc => ?_|refine sN ?_|rw [eT0]|rw [eR0]|rw [eN0]|(refine Dm_draw [2] ?_ ?_; · (simp; done))|refine sB ?_|refine sX ?_ ?_<;>(try intro h)<;>(try omega)|exact sP|refine rK ?_|exact sQ|refine sD ?_|exact sE|omega)
     all_goals first
      | (refine Xm_inv_n (xs.length - (i+1)) (by omega) ⟨i+1,by omega,rfl,?_,?_⟩<;>rw [hY]<;>kernel_rfl)
      | skip
    ·obtain ⟨j,rfl⟩ : ∃ j,k=j+1:=⟨k - 1,by omega⟩
     rw [Nat.add_sub_cancel] at hu hins
     have hstep:downU o (xs.getD i default) (j+1)=if ufB (o.getD j default) (xs.getD i default)=true then downU o (xs.getD i default) j else j+1:=rfl
     cases hb:ufB (o.getD j default) (xs.getD i default)
     ·have hins:=hins (.inr hb)
      rw [← hins,← hst] at eN eR
      have hu2 : ¬ ((o.getD j default).lvl<(xs.getD i default).lvl) ∧ ¬ ((o.getD j default).lvl=(xs.getD i default).lvl∧(xs.getD i default).since<(o.getD j default).since):=by
       rw [hb] at hu
       simp only [Bool.false_eq,Bool.or_eq_false_iff,Bool.and_eq_false_iff,decide_eq_false_iff_not] at hu
       omega
      clear hu hstep
      repeat' (first|refine sA ?_|refine sO ‹_› fun dc hdc => ?_|refine sN ?_|rw [Nat.add_sub_cancel]|rw [eT]|rw [eR]|rw [eN]|(refine Dm_draw [2] ?_ ?_; · (simp; done))|refine sB ?_|refine sX ?_ ?_<;>(try intro h)<;>(try omega)|exact sP|refine rK ?_|exact sQ|refine sD ?_|exact sE|omega)
      all_goals first
       | (refine Xm_inv_n (xs.length - (i+1)) (by omega) ⟨i+1,by omega,rfl,?_,?_⟩<;>rw [hY]<;>kernel_rfl)
       | skip
     ·rw [hb,if_pos rfl] at hstep
      have hu2:(o.getD j default).lvl<(xs.getD i default).lvl∨((o.getD j default).lvl=(xs.getD i default).lvl∧(xs.getD i default).since<(o.getD j default).since):=by
       rw [hb] at hu
       simp only [Bool.true_eq,Bool.or_eq_true,Bool.and_eq_true,decide_eq_true_eq] at hu
       exact hu
      clear hu hins eN eR eT
      repeat' (first|refine sA ?_|refine sO ‹_› fun dc hdc => ?_|refine sN ?_|rw [Nat.add_sub_cancel]|refine sB ?_|refine sX ?_ ?_<;>(try intro h)<;>(try omega)|exact sP|refine rK ?_|exact sQ|refine sD ?_|exact sE|omega)
      all_goals first
       | exact Xm_inv_n j (by omega) ⟨by omega,by rw [hdk,hstep],by kernel_rfl,by kernel_rfl⟩
       | skip
   ·rw [hsn,if_pos rfl] at hst
    generalize hY:uoTo xs (i+1)=Y' at *
    generalize uoTo xs i=o at *
    subst hst
    repeat' (first|refine sA ?_|refine sO ‹_› fun dc hdc => ?_|refine sN ?_|rw [hsn]|refine sB ?_|refine sX ?_ ?_<;>(try intro h)<;>(try omega)|exact sP|refine rK ?_|exact sQ|refine sD ?_|exact sE|omega)
    all_goals first
     | (refine Xm_inv_n (xs.length - (i+1)) (by omega) ⟨i+1,by omega,rfl,?_,?_⟩<;>rw [hY]<;>kernel_rfl)
     | skip
  ·obtain rfl:i=xs.length:=by omega
   generalize uoTo xs xs.length=o at *
   repeat' (first|refine sA ?_|refine sO ‹_› fun dc hdc => ?_|refine sN ?_|refine sB ?_|refine sX ?_ ?_<;>(try intro h)<;>(try omega)|exact sP|refine rK ?_|exact sQ|refine sD ?_|exact sE|omega)
   refine Dm_loop [4,5,9] (fun v ds H' => ∃ k:Nat,k≤o.length∧v=o.length - k∧ds=[.own 0 0 k,.own 1 0 o.length,.p (.int .i64 k)]∧H'=[.arr 158 2 ((o.take k).map pairPV),.arr 114 5 (o.map Al.pv)]) o.length ⟨0,by omega,by omega,rfl,rfl⟩ ?_
   rintro v ds H' ⟨k,hk,rfl,rfl,rfl⟩ -
   have hN:(o.take k).length=k:=by rw [List.length_take]; omega
   have hNs:k<o.length→(o.take k).map pairPV++[.agg [.int .i64 (o.getD k default).low,.int .i64 (o.getD k default).high]]=(o.take (k+1)).map pairPV:=fun h=>by
    rw [take_snoc (d:=default) h,List.map_append]
    rfl
   have hNu:List.take k (o.take k)=o.take k:=List.take_of_length_le (by omega)
   have hNt:List.take k ((o.take k).map pairPV)=(o.take k).map pairPV:=List.take_of_length_le (by simp; omega)
   have hNe:k=o.length→o.take k=o:=by rintro rfl; exact List.take_length
   generalize ho:o.take k=N at *
   repeat' (first|refine sA ?_|refine sO ‹_› fun dc hdc => ?_|refine sN ?_|rw [hNt]|rw [hNu]|(refine Dm_draw [1] ?_ ?_; · (simp; done))|refine sB ?_|refine sX ?_ ?_<;>(try intro h)<;>(try omega)|exact sP|refine rK ?_|exact sQ|refine sD ?_|exact sE|omega)
   all_goals first
    | (rw [hNs (by omega)]
       exact Xm_inv_n (o.length - (k+1)) (by omega) ⟨k+1,by omega,rfl,by kernel_rfl,by kernel_rfl⟩)
    | (rw [hNe (by omega)]
       rw [show k=o.length from by omega]
       exact ret_k (.tup [.own 0 0 o.length,.p (.bool true)]) [.arr 158 2 (o.map pairPV)] (by kernel_rfl) ⟨rfl,rfl⟩)
    | skip
end Go.Proofs.YtekmkgegjicjgaaGreat
namespace Go.Proofs.YtekmkgegjicjgaaGreat
open Go.Dv Go.Dv.EvL
set_option maxRecDepth 100000
set_option maxHeartbeats 16000000
attribute [local irreducible] Ok Rm Dm Om Sm Xm Cm Gm Hm Tm
theorem cpy_row {o:List Al}{n k:Nat}(hn:o.length=n)(hk:k≤n) :
  ∃ W:List Al,W.length=n+1∧(∀ a:Al,W.set k a=o.take k++a::o.drop k) ∧
   List.take (k+1) (o.map Al.pv++[.agg [.int .i64 0,.int .i64 0,.int .i64 0,.int .i64 0,.bool false]])++List.take (n+1 - (k+1)) (List.take (n+1 - k) (List.drop k (o.map Al.pv++[.agg [.int .i64 0,.int .i64 0,.int .i64 0,.int .i64 0,.bool false]])))++List.drop (k+1+min (List.take (n+1 - k) (List.drop k (o.map Al.pv++[.agg [.int .i64 0,.int .i64 0,.int .i64 0,.int .i64 0,.bool false]]))).length (n+1 - (k+1))) (o.map Al.pv++[.agg [.int .i64 0,.int .i64 0,.int .i64 0,.int .i64 0,.bool false]])=W.map Al.pv:=by
 have hz:o.map Al.pv++[.agg [.int .i64 0,.int .i64 0,.int .i64 0,.int .i64 0,.bool false]]=(o++[default]).map Al.pv:=by simp [Al.pv,default]
 have hl:(o++[default]).length=n+1:=by simp [hn]
 subst hn
 refine ⟨(o++[default]).take (k+1)++o.drop k,?_,fun a => ?_,?_⟩
 ·rw [List.length_append,List.length_take,List.length_drop]
  omega
 ·by_cases h:k<o.length
  ·have e1:(o++[default]).take (k+1)=o.take (k+1):=by rw [List.take_append_of_le_length (by omega)]
   have hlk:(o.take k).length=k:=by rw [List.length_take]; omega
   rw [e1,take_snoc (d:=default) (by omega),List.append_assoc,List.set_append_right _ _ (by omega),hlk,Nat.sub_self]
   rfl
  ·obtain rfl:k=o.length:=by omega
   have e1:(o++[default]).take (o.length+1)=o++[default]:=List.take_of_length_le (by omega)
   rw [e1,List.drop_length,List.take_length,List.append_nil,List.set_append_right _ _ (Nat.le_refl _),Nat.sub_self]
   rfl
 ·rw [hz]
  generalize hX:(o++[default]).map Al.pv=X at *
  have hXl:X.length=o.length+1:=by rw [← hX,List.length_map,hl]
  have e1:List.take (o.length+1 - k) (X.drop k)=X.drop k:=List.take_of_length_le (by rw [List.length_drop]; omega)
  have e2:List.take (o.length+1 - (k+1)) (X.drop k)=(o.drop k).map Al.pv:=by
   rw [← hX,List.map_append,List.drop_append_of_le_length (by rw [List.length_map]; omega),List.take_append_of_le_length (by rw [List.length_drop,List.length_map]; omega),List.take_of_length_le (by rw [List.length_drop,List.length_map]; omega),List.map_drop]
  have e3:List.drop (k+1+min (X.drop k).length (o.length+1 - (k+1))) X=[]:=List.drop_of_length_le (by rw [List.length_drop]; omega)
  rw [e1,e2,e3,List.append_nil,← hX,← List.map_take,← List.map_append]
theorem k_iUnseen0 (xs:List Al)(hb:xs.length≤1048576):Okw Tryz.prog 117 [.sl 5 (xs.map Al.pv)] fun d H=>uoD xs d H∨((uoO xs).1=[]∧d = .tup [.nil,.p (.bool (uoO xs).2)]∧H=[]):=by
 refine ok_D hmix c_impl_UnseenAlerts (by simp) ?_
 have hs:uoO xs=if alsB xs=true then (uoTo xs xs.length,true) else ([],false):=rfl
 have h1:=k_iAlerts xs hb
 unfold uoD
 cases hB:alsB xs
 ·rw [hB,if_neg (by decide)] at hs
  rw [hB] at h1
  rw [hs]
  refine sF fun dc hdc => ?_; refine sA ?_
  repeat' (first|refine sA ?_|refine sO ‹_› fun dc hdc => ?_|refine sN ?_|refine rW rfl (h1) ?_|refine rV (h1) ?_|refine sB ?_|refine sX ?_ ?_<;>(try intro h)<;>(try omega)|exact sP|refine rK ?_|exact sQ|refine sD ?_|exact sE|omega)
  all_goals first
   | exact ret_k (.tup [.nil,.p (.bool false)]) [] (by kernel_rfl) (.inr ⟨rfl,rfl,rfl⟩)
   | exact ret_k (.tup [.nil,.p (.bool false)]) [] (by kernel_rfl) (.inr ⟨rfl,rfl⟩)
   | skip
 ·obtain ⟨_,g2⟩:=als_to hB
  rw [hB,if_pos rfl] at hs
  rw [hB] at h1
  rw [hs]
  simp only []
  clear hs
  refine sF fun dc hdc => ?_; refine sA ?_
  repeat' (first|refine sA ?_|refine sO ‹_› fun dc hdc => ?_|refine sN ?_|refine rW rfl (h1) ?_|refine rV (h1) ?_|refine sB ?_|refine sX ?_ ?_<;>(try intro h)<;>(try omega)|exact sP|refine rK ?_|exact sQ|refine sD ?_|exact sE|omega)
  refine Dm_loop [4,14,15,16] (fun v ds H' => ∃ i:Nat,i≤xs.length∧v=xs.length - i ∧
   ((uoTo xs i=[]∧ds=[.nil,.p (.sl 5 (xs.map Al.pv)),.p (.int .i64 xs.length),.p (.int .i64 i)]∧H'=[]) ∨
    (ds=[.own 0 0 (uoTo xs i).length,.p (.sl 5 (xs.map Al.pv)),.p (.int .i64 xs.length),.p (.int .i64 i)]∧H'=[.arr 114 5 ((uoTo xs i).map Al.pv)]))) xs.length ⟨0,by omega,by omega,.inl ⟨rfl,rfl,rfl⟩⟩ ?_
  rintro v ds H' ⟨i,hi,rfl,hh⟩ -
  have hln:=uoTo_len xs i
  rcases Nat.lt_or_ge i xs.length with hlt|hge
  ·have hst:uoTo xs (i+1)=if (xs.getD i default).seen=true then uoTo xs i else insU (uoTo xs i) (xs.getD i default):=rfl
   cases hsn:(xs.getD i default).seen
   ·rw [hsn,if_neg (by decide)] at hst
    generalize hY:uoTo xs (i+1)=Y' at *
    generalize uoTo xs i=o at *
    rcases hh with ⟨rfl,rfl,rfl⟩|⟨rfl,rfl⟩
    ·repeat' (first|refine sA ?_|refine sO ‹_› fun dc hdc => ?_|refine sN ?_|rw [hsn]|refine sB ?_|refine sX ?_ ?_<;>(try intro h)<;>(try omega)|exact sP|refine rK ?_|exact sQ|refine sD ?_|exact sE|omega)
     refine Dm_loop [4,6,7,14,15,16] (fun k ds H'=>k=0∧ds=[.nil,.ptr 0 0 0,.p (.int .i64 0),.p (.sl 5 (xs.map Al.pv)),.p (.int .i64 xs.length),.p (.int .i64 i)] ∧
      H'=[.box 114 [.p (.int .i64 (xs.getD i default).low),.p (.int .i64 (xs.getD i default).high),.p (.int .i64 (xs.getD i default).lvl),.p (.int .i64 (xs.getD i default).since),.p (.bool false)]]) 0 ⟨rfl,rfl,rfl⟩ ?_
     rintro k ds H' ⟨rfl,rfl,rfl⟩ -
     have hins:Y'=[xs.getD i default]:=by rw [hst]; rfl
     have ha:(⟨(xs.getD i default).low,(xs.getD i default).high,(xs.getD i default).lvl,(xs.getD i default).since,false⟩:Al)=xs.getD i default:=by rw [← hsn]
     have e9:PV.agg [.int .i64 0,.int .i64 0,.int .i64 0,.int .i64 0,.bool false]=(default:Al).pv:=rfl
     have e8:(default:Al).pv::List.drop (1+min 1 0) [(default:Al).pv]=[(default:Al)].map Al.pv:=rfl
     repeat' (first|refine sA ?_|refine sO ‹_› fun dc hdc => ?_|refine sN ?_|rw [e9]|rw [e8]|refine Rm_put (default:Al).pv (Al.pv ⟨(xs.getD i default).low,(xs.getD i default).high,(xs.getD i default).lvl,(xs.getD i default).since,false⟩) rfl rfl rfl rfl ?_|refine sB ?_|refine sX ?_ ?_<;>(try intro h)<;>(try omega)|exact sP|refine rK ?_|exact sQ|refine sD ?_|exact sE|omega)
     all_goals first
      | (refine Xm_inv_n (xs.length - (i+1)) (by omega) ⟨i+1,by omega,rfl,.inr ⟨?_,?_⟩⟩<;>rw [hY,hins,← ha]<;>kernel_rfl)
      | skip
    ·obtain ⟨n,hn⟩ : ∃ n,o.length=n:=⟨_,rfl⟩
     rw [hn] at hln ⊢
     repeat' (first|refine sA ?_|refine sO ‹_› fun dc hdc => ?_|refine sN ?_|rw [hsn]|refine sB ?_|refine sX ?_ ?_<;>(try intro h)<;>(try omega)|exact sP|refine rK ?_|exact sQ|refine sD ?_|exact sE|omega)
     refine Dm_loop [4,6,7,14,15,16] (fun k ds H'=>k≤n∧downU o (xs.getD i default) n=downU o (xs.getD i default) k∧ds=[.own 0 0 n,.ptr 1 0 0,.p (.int .i64 k),.p (.sl 5 (xs.map Al.pv)),.p (.int .i64 xs.length),.p (.int .i64 i)] ∧
      H'=[.arr 114 5 (o.map Al.pv),.box 114 [.p (.int .i64 (xs.getD i default).low),.p (.int .i64 (xs.getD i default).high),.p (.int .i64 (xs.getD i default).lvl),.p (.int .i64 (xs.getD i default).since),.p (.bool false)]]) n ⟨by omega,rfl,by kernel_rfl,by kernel_rfl⟩ ?_
     rintro k ds H' ⟨hk,hdk,rfl,rfl⟩ -
     have hu:ufB (o.getD (k - 1) default) (xs.getD i default)=(decide ((o.getD (k - 1) default).lvl<(xs.getD i default).lvl) || (decide ((o.getD (k - 1) default).lvl=(xs.getD i default).lvl) && decide ((xs.getD i default).since<(o.getD (k - 1) default).since))):=rfl
     have hins:=insU_at (a:=xs.getD i default) hn hdk
     have eT0:o.take n=o:=List.take_of_length_le (by omega)
     obtain ⟨W,hW1,hW2,hW3⟩:=cpy_row hn hk
     have ha:(⟨(xs.getD i default).low,(xs.getD i default).high,(xs.getD i default).lvl,(xs.getD i default).since,false⟩:Al)=xs.getD i default:=by rw [← hsn]
     rcases Nat.eq_zero_or_pos k with hk0|hk0
     ·have hins:=hins (.inl hk0)
      have hYl:Y'.length=n+1:=by rw [hst,hins,List.length_append,List.length_cons,List.length_take,List.length_drop]; omega
      clear hu
      repeat' (first|refine sA ?_|refine sO ‹_› fun dc hdc => ?_|refine sN ?_|rw [eT0]|rw [hW3]|(refine Rm_putw (by omega) ⟨(xs.getD i default).low,(xs.getD i default).high,(xs.getD i default).lvl,(xs.getD i default).since,false⟩ rfl (by first|rfl|exact putw_rfl) rfl ?_)|refine sB ?_|refine sX ?_ ?_<;>(try intro h)<;>(try omega)|exact sP|refine rK ?_|exact sQ|refine sD ?_|exact sE|omega)
      all_goals first
       | (refine Xm_inv_n (xs.length - (i+1)) (by omega) ⟨i+1,by omega,rfl,.inr ⟨?_,?_⟩⟩
          ·rw [hY,hYl]
           kernel_rfl
          ·rw [hY,hst,hins,← hW2,← ha]
           kernel_rfl)
       | skip
     ·obtain ⟨j,rfl⟩ : ∃ j,k=j+1:=⟨k - 1,by omega⟩
      rw [Nat.add_sub_cancel] at hu hins
      have hstep:downU o (xs.getD i default) (j+1)=if ufB (o.getD j default) (xs.getD i default)=true then downU o (xs.getD i default) j else j+1:=rfl
      cases hb:ufB (o.getD j default) (xs.getD i default)
      ·have hins:=hins (.inr hb)
       have hYl:Y'.length=n+1:=by rw [hst,hins,List.length_append,List.length_cons,List.length_take,List.length_drop]; omega
       have hu2 : ¬ ((o.getD j default).lvl<(xs.getD i default).lvl) ∧ ¬ ((o.getD j default).lvl=(xs.getD i default).lvl∧(xs.getD i default).since<(o.getD j default).since):=by
        rw [hb] at hu
        simp only [Bool.false_eq,Bool.or_eq_false_iff,Bool.and_eq_false_iff,decide_eq_false_iff_not] at hu
        omega
       clear hu hstep
       repeat' (first|refine sA ?_|refine sO ‹_› fun dc hdc => ?_|refine sN ?_|rw [Nat.add_sub_cancel]|rw [eT0]|rw [hW3]|(refine Rm_putw (by omega) ⟨(xs.getD i default).low,(xs.getD i default).high,(xs.getD i default).lvl,(xs.getD i default).since,false⟩ rfl (by first|rfl|exact putw_rfl) rfl ?_)|refine sB ?_|refine sX ?_ ?_<;>(try intro h)<;>(try omega)|exact sP|refine rK ?_|exact sQ|refine sD ?_|exact sE|omega)
       all_goals first
        | (refine Xm_inv_n (xs.length - (i+1)) (by omega) ⟨i+1,by omega,rfl,.inr ⟨?_,?_⟩⟩
           ·rw [hY,hYl]
            kernel_rfl
           ·rw [hY,hst,hins,← hW2,← ha]
            kernel_rfl)
        | skip
      ·rw [hb,if_pos rfl] at hstep
       have hu2:(o.getD j default).lvl<(xs.getD i default).lvl∨((o.getD j default).lvl=(xs.getD i default).lvl∧(xs.getD i default).since<(o.getD j default).since):=by
        rw [hb] at hu
        simp only [Bool.true_eq,Bool.or_eq_true,Bool.and_eq_true,decide_eq_true_eq] at hu
        exact hu
       clear hu hins hW3 hW2
       repeat' (first|refine sA ?_|refine sO ‹_› fun dc hdc => ?_|refine sN ?_|rw [Nat.add_sub_cancel]|refine sB ?_|refine sX ?_ ?_<;>(try intro h)<;>(try omega)|exact sP|refine rK ?_|exact sQ|refine sD ?_|exact sE|omega)
       all_goals first
        | exact Xm_inv_n j (by omega) ⟨by omega,by rw [hdk,hstep],by kernel_rfl,by kernel_rfl⟩
        | skip
   ·rw [hsn,if_pos rfl] at hst
    generalize hY:uoTo xs (i+1)=Y' at *
    generalize uoTo xs i=o at *
    subst hst
    rcases hh with ⟨rfl,rfl,rfl⟩|⟨rfl,rfl⟩
    ·repeat' (first|refine sA ?_|refine sO ‹_› fun dc hdc => ?_|refine sN ?_|rw [hsn]|refine sB ?_|refine sX ?_ ?_<;>(try intro h)<;>(try omega)|exact sP|refine rK ?_|exact sQ|refine sD ?_|exact sE|omega)
     all_goals first
      | exact Xm_inv_n (xs.length - (i+1)) (by omega) ⟨i+1,by omega,rfl,.inl ⟨hY,by kernel_rfl,by kernel_rfl⟩⟩
      | skip
    ·repeat' (first|refine sA ?_|refine sO ‹_› fun dc hdc => ?_|refine sN ?_|rw [hsn]|refine sB ?_|refine sX ?_ ?_<;>(try intro h)<;>(try omega)|exact sP|refine rK ?_|exact sQ|refine sD ?_|exact sE|omega)
     all_goals first
      | (refine Xm_inv_n (xs.length - (i+1)) (by omega) ⟨i+1,by omega,rfl,.inr ⟨?_,?_⟩⟩<;>rw [hY]<;>kernel_rfl)
      | skip
  ·obtain rfl:i=xs.length:=by omega
   generalize uoTo xs xs.length=o at *
   rcases hh with ⟨rfl,rfl,rfl⟩|⟨rfl,rfl⟩
   ·repeat' (first|refine sA ?_|refine sO ‹_› fun dc hdc => ?_|refine sN ?_|refine sB ?_|refine sX ?_ ?_<;>(try intro h)<;>(try omega)|exact sP|refine rK ?_|exact sQ|refine sD ?_|exact sE|omega)
    refine Dm_loop [8,78,79,80] (fun k ds H'=>ds=[.nil,.nil,.p (.int .i64 0),.p (.int .i64 0)]∧H'=[]) 0 ⟨by kernel_rfl,by kernel_rfl⟩ ?_
    rintro k ds H' ⟨rfl,rfl⟩ -
    repeat' (first|refine sA ?_|refine sO ‹_› fun dc hdc => ?_|refine sN ?_|refine sB ?_|refine sX ?_ ?_<;>(try intro h)<;>(try omega)|exact sP|refine rK ?_|exact sQ|refine sD ?_|exact sE|omega)
    all_goals first
     | exact ret_k (.tup [.nil,.p (.bool true)]) [] (by kernel_rfl) (.inr ⟨rfl,rfl,rfl⟩)
     | exact ret_k (.tup [.nil,.p (.bool true)]) [] (by kernel_rfl) (.inr ⟨rfl,rfl⟩)
     | skip
   ·repeat' (first|refine sA ?_|refine sO ‹_› fun dc hdc => ?_|refine sN ?_|refine sB ?_|refine sX ?_ ?_<;>(try intro h)<;>(try omega)|exact sP|refine rK ?_|exact sQ|refine sD ?_|exact sE|omega)
    refine Dm_loop [8,78,79,80] (fun v ds H' => ∃ k:Nat,k≤o.length∧v=o.length - k ∧
     ((k=0∧ds=[.nil,.own 0 0 o.length,.p (.int .i64 o.length),.p (.int .i64 k)]∧H'=[.arr 114 5 (o.map Al.pv)]) ∨
      (ds=[.own 0 0 k,.own 1 0 o.length,.p (.int .i64 o.length),.p (.int .i64 k)]∧H'=[.arr 158 2 ((o.take k).map pairPV),.arr 114 5 (o.map Al.pv)]))) o.length ⟨0,by omega,by omega,.inl ⟨rfl,by kernel_rfl,by kernel_rfl⟩⟩ ?_
    rintro v ds H' ⟨k,hk,rfl,hh⟩ -
    have hNs:k<o.length→(o.take k).map pairPV++[.agg [.int .i64 (o.getD k default).low,.int .i64 (o.getD k default).high]]=(o.take (k+1)).map pairPV:=fun h=>by
     rw [take_snoc (d:=default) h,List.map_append]
     rfl
    have hNu:List.take k (o.take k)=o.take k:=List.take_of_length_le (by rw [List.length_take]; omega)
    have hNt:List.take k ((o.take k).map pairPV)=(o.take k).map pairPV:=List.take_of_length_le (by rw [List.length_map,List.length_take]; omega)
    rcases Nat.lt_or_ge k o.length with hlt|hge2
    ·have hNs:=hNs hlt
     rcases hh with ⟨rfl,rfl,rfl⟩|⟨rfl,rfl⟩
     ·have hN1:[PV.agg [.int .i64 (o.getD 0 default).low,.int .i64 (o.getD 0 default).high]]=(o.take (0+1)).map pairPV:=hNs
      repeat' (first|refine sA ?_|refine sO ‹_› fun dc hdc => ?_|refine sN ?_|rw [hN1]|refine sB ?_|refine sX ?_ ?_<;>(try intro h)<;>(try omega)|exact sP|refine rK ?_|exact sQ|refine sD ?_|exact sE|omega)
      all_goals first
       | exact Xm_inv_n (o.length - (0+1)) (by omega) ⟨0+1,by omega,rfl,.inr ⟨by kernel_rfl,by kernel_rfl⟩⟩
       | skip
     ·repeat' (first|refine sA ?_|refine sO ‹_› fun dc hdc => ?_|refine sN ?_|rw [hNt]|rw [hNu]|rw [hNs]|refine sB ?_|refine sX ?_ ?_<;>(try intro h)<;>(try omega)|exact sP|refine rK ?_|exact sQ|refine sD ?_|exact sE|omega)
      all_goals first
       | exact Xm_inv_n (o.length - (k+1)) (by omega) ⟨k+1,by omega,rfl,.inr ⟨by kernel_rfl,by kernel_rfl⟩⟩
       | skip
    ·rcases hh with ⟨rfl,rfl,rfl⟩|⟨rfl,rfl⟩
     ·have ho:o=[]:=List.eq_nil_of_length_eq_zero (by omega)
      subst ho
      repeat' (first|refine sA ?_|refine sO ‹_› fun dc hdc => ?_|refine sN ?_|refine sB ?_|refine sX ?_ ?_<;>(try intro h)<;>(try omega)|exact sP|refine rK ?_|exact sQ|refine sD ?_|exact sE|omega)
      all_goals first
       | exact ret_k (.tup [.nil,.p (.bool true)]) [] (by kernel_rfl) (.inr ⟨rfl,rfl,rfl⟩)
       | exact ret_k (.tup [.nil,.p (.bool true)]) [] (by kernel_rfl) (.inr ⟨rfl,rfl⟩)
       | skip
     ·have hN:o.take k=o:=List.take_of_length_le hge2
      rw [hN,show k=o.length from by omega]
      repeat' (first|refine sA ?_|refine sO ‹_› fun dc hdc => ?_|refine sN ?_|refine sB ?_|refine sX ?_ ?_<;>(try intro h)<;>(try omega)|exact sP|refine rK ?_|exact sQ|refine sD ?_|exact sE|omega)
      all_goals first
       | exact ret_k (.tup [.own 0 0 o.length,.p (.bool true)]) [.arr 158 2 (o.map pairPV)] (by kernel_rfl) (.inl ⟨rfl,rfl⟩)
       | skip
theorem k_iUnseen (xs:List Al)(hb:xs.length≤1048576):Okv Tryz.prog 117 [.sl 5 (xs.map Al.pv)] (.tup [.p (.sl 2 ((uoO xs).1.map pairPV)),.p (.bool (uoO xs).2)]):=by
 refine uo_pl (nil_own 158 2 (by decide) (k_iUnseen0 xs hb) fun d H hh => ?_)
 rcases hh with hh|⟨h1,rfl,rfl⟩
 ·exact .inl hh
 ·refine .inr ⟨[.bool (uoO xs).2],⟨trivial,trivial⟩,rfl,rfl,?_⟩
  unfold uoD
  rw [h1]
  exact ⟨rfl,rfl⟩
end Go.Proofs.YtekmkgegjicjgaaGreat

import Derived.Test.YtekmkgegjicjgaaGreatZBas
import Derived.Test.YtekmkgegjicjgaaGreatZRcA
namespace Go.Proofs.YtekmkgegjicjgaaGreat
open Go.Dv Go.Dv.EvL
set_option maxRecDepth 100000
set_option maxHeartbeats 16000000
attribute [local irreducible] Ok Rm Dm Om Sm Xm Cm Gm Hm Tm
theorem ptH_spec {n m:Int}{h:Hd}(_hm:0≤m∧m≤9999)(k1:keptB h.eo h.ea h.eb h.eAt false n=true)(k2:keptB h.oo h.oa h.ob h.oAt true n=true) :
  ptH m h=⟨h.addr,if h.eAt<m - 10 then false else h.eo,if h.eAt<m - 10 then 0 else h.ea,if h.eAt<m - 10 then 0 else h.eb,if h.eAt<m - 10 then -1 else h.eAt,
   if h.oAt<m - 10 then false else h.oo,if h.oAt<m - 10 then 0 else h.oa,if h.oAt<m - 10 then 0 else h.ob,if h.oAt<m - 10 then -1 else h.oAt,h.fr⟩ ∧
  (ptK m h=true↔(0≤(if h.eAt<m - 10 then -1 else h.eAt)∨0≤(if h.oAt<m - 10 then -1 else h.oAt))):=by
 have e1:=kept_in k1
 have e2:=kept_in k2
 have f1:frsh h.eAt m=true↔(0≤h.eAt∧m - h.eAt≤10):=by unfold frsh; simp only [Bool.and_eq_true,decide_eq_true_eq]
 have f2:frsh h.oAt m=true↔(0≤h.oAt∧m - h.oAt≤10):=by unfold frsh; simp only [Bool.and_eq_true,decide_eq_true_eq]
 have hK:ptK m h=true↔(frsh h.eAt m=true∨frsh h.oAt m=true):=by unfold ptK; simp only [Bool.or_eq_true]
 constructor
 ·unfold ptH
  congr 1<;>(simp only [f1,f2]; (repeat' split)<;>first|rfl|omega|(rcases e1 with e1|e1<;>first|omega|(exact e1.2.1.symm)|(exact e1.2.1)|(exact e1.2.2.1.symm)|(exact e1.2.2.2.symm))|(rcases e2 with e2|e2<;>first|omega|(exact e2.2.1.symm)|(exact e2.2.1)|(exact e2.2.2.1.symm)|(exact e2.2.2.2.symm)))
 ·rw [hK,f1,f2]
  split<;>split<;>(rcases e1 with e1|e1<;>rcases e2 with e2|e2<;>omega)
theorem ptB_in {n m:Int}{xs:List Hd}(h:ptB n xs m=true):recB2 n xs=true∧(0≤m∧m≤9999)∧n≤m:=by
 unfold ptB minB at h
 simp only [Bool.and_eq_true,decide_eq_true_eq] at h
 exact ⟨h.1.1,h.1.2,h.2⟩
theorem k_iPass (n:Int)(xs:List Hd)(m:Int)(hb:xs.length≤1048576):Okw Tryz.prog 111 [.agg [.int .i64 n,.sl 10 (xs.map Hd.pv)],.int .i64 m] (RcvR (ptB n xs m) m (ptTo m xs xs.length)):=by
 refine pt_ok (ok_D0 c_impl_PassTime (by simp) ?_)
 have hd:ptB n xs m=(recB2 n xs && minB m && decide (n≤m)):=rfl
 have h1:=k_iReceiver n xs hb
 have h2:=k_isMinute m
 cases hB:ptB n xs m
 ·unfold PtD
  simp only [Bool.false_eq_true,if_false]
  rw [hB] at hd
  generalize recB2 n xs=q1 at *
  generalize minB m=q2 at *
  cases q1<;>cases q2<;>simp only [Bool.false_and,Bool.true_and,Bool.and_true,false_eq_decide_iff] at hd
  all_goals
   refine sA ?_
   repeat' (first|refine sA ?_|refine sN ?_|refine rW rfl (h1) ?_|refine rV (h1) ?_|refine rW rfl (h2) ?_|refine rV (h2) ?_|refine sB ?_|refine sX ?_ ?_<;>(try intro h)<;>(try omega)|exact sP|refine rK ?_|exact sQ|refine sD ?_|rfl|exact sE|omega)
  all_goals first
   | exact ret_gen _ _ _ rfl rfl rfl ⟨rfl,rfl⟩
   | skip
 ·obtain ⟨g1,g2,g3⟩:=ptB_in hB
  obtain ⟨g4,g5,g6,g7⟩:=rec2_in g1
  unfold PtD
  simp only [if_true]
  rw [g1] at h1
  rw [show minB m=true from decide_eq_true g2] at h2
  clear hd hB g1
  refine sA ?_
  repeat' (first|refine sA ?_|refine sN ?_|refine rW rfl (h1) ?_|refine rV (h1) ?_|refine rW rfl (h2) ?_|refine rV (h2) ?_|refine sB ?_|refine sX ?_ ?_<;>(try intro h)<;>(try omega)|exact sP|refine rK ?_|exact sQ|refine sD ?_|rfl|exact sE|omega)
  refine Dm_loop [1,4,6,27,28,29] (fun k ds H' => ∃ i:Nat,i≤xs.length∧k=xs.length - i∧ds=[.p (.int .i64 m),.ptr 0 0 0,.ptr 1 0 0,.p (.sl 10 (xs.map Hd.pv)),.p (.int .i64 xs.length),.p (.int .i64 i)] ∧
   ((ptTo m xs i=[]∧H'=[.box 36 [.p (.int .i64 0),.nil],.box 36 [.p (.int .i64 m),.nil]]) ∨
    H'=[.box 36 [.p (.int .i64 0),.nil],.box 36 [.p (.int .i64 m),.own 2 0 (ptTo m xs i).length],.arr 111 10 ((ptTo m xs i).map Hd.pv)])) xs.length ⟨0,by omega,by omega,rfl,.inl ⟨rfl,rfl⟩⟩ ?_
  rintro k ds H' ⟨i,hi,rfl,rfl,hh⟩ -
  have hln:=ptTo_len m xs i
  rcases Nat.lt_or_ge i xs.length with hlt|hge
  ·have hst:ptTo m xs (i+1)=if ptK m (xs.getD i default)=true then ptTo m xs i++[ptH m (xs.getD i default)] else ptTo m xs i:=rfl
   obtain ⟨a1,a2⟩:=hd_times g4.2 (g7 i hlt)
   have f1:=k_isFresh (xs.getD i default).eAt m a1 g2
   have f2:=k_isFresh (xs.getD i default).oAt m a2 g2
   have c1:frsh (xs.getD i default).eAt m=true→0≤(xs.getD i default).eAt:=fun h=>by unfold frsh at h; simp only [Bool.and_eq_true,decide_eq_true_eq] at h; exact h.1
   have c2:frsh (xs.getD i default).oAt m=true→0≤(xs.getD i default).oAt:=fun h=>by unfold frsh at h; simp only [Bool.and_eq_true,decide_eq_true_eq] at h; exact h.1
   have hH:ptH m (xs.getD i default)=⟨(xs.getD i default).addr,if frsh (xs.getD i default).eAt m=true then (xs.getD i default).eo else false,if frsh (xs.getD i default).eAt m=true then (xs.getD i default).ea else 0,if frsh (xs.getD i default).eAt m=true then (xs.getD i default).eb else 0,if frsh (xs.getD i default).eAt m=true then (xs.getD i default).eAt else -1,
    if frsh (xs.getD i default).oAt m=true then (xs.getD i default).oo else false,if frsh (xs.getD i default).oAt m=true then (xs.getD i default).oa else 0,if frsh (xs.getD i default).oAt m=true then (xs.getD i default).ob else 0,if frsh (xs.getD i default).oAt m=true then (xs.getD i default).oAt else -1,(xs.getD i default).fr⟩:=rfl
   have hK:ptK m (xs.getD i default)=(frsh (xs.getD i default).eAt m || frsh (xs.getD i default).oAt m):=rfl
   rw [hK,hH] at hst
   clear hH hK
   generalize hY:ptTo m xs (i+1)=Y' at *
   generalize ptTo m xs i=Y at *
   generalize frsh (xs.getD i default).eAt m=q1 at *
   generalize frsh (xs.getD i default).oAt m=q2 at *
   rcases hh with ⟨rfl,rfl⟩|rfl<;>cases q1<;>cases q2<;>simp only [Bool.or_self,Bool.or_true,Bool.or_false,Bool.false_eq_true,if_true,if_false,forall_const] at hst c1 c2<;>subst hst
   all_goals
    repeat' (first|refine sA ?_|refine sN ?_|refine rW rfl (f1) ?_|refine rV (f1) ?_|refine rW rfl (f2) ?_|refine rV (f2) ?_|refine sB ?_|refine sX ?_ ?_<;>(try intro h)<;>(try omega)|exact sP|refine rK ?_|exact sQ|refine sD ?_|rfl|exact sE|omega)
   all_goals first
    | exact Xm_inv_n (xs.length - (i+1)) (by omega) ⟨i+1,by omega,rfl,rfl,.inl ⟨hY,rfl⟩⟩
    | (refine Xm_inv_n (xs.length - (i+1)) (by omega) ⟨i+1,by omega,rfl,rfl,.inr ?_⟩
       rw [hY]
       try simp only [List.map_append,List.length_append]
       rfl)
    | skip
  ·obtain rfl:i=xs.length:=by omega
   generalize ptTo m xs xs.length=Y at *
   rcases hh with ⟨rfl,rfl⟩|rfl
   ·repeat' (first|refine sA ?_|refine sN ?_|refine sB ?_|refine sX ?_ ?_<;>(try intro h)<;>(try omega)|exact sP|refine rK ?_|exact sQ|refine sD ?_|rfl|exact sE|omega)
    all_goals first
     | exact ret_gen _ _ _ rfl rfl rfl (.inr ⟨rfl,rfl,rfl⟩)
     | exact ret_gen _ _ _ rfl rfl rfl (.inr ⟨rfl,rfl⟩)
     | skip
   ·repeat' (first|refine sA ?_|refine sN ?_|refine sB ?_|refine sX ?_ ?_<;>(try intro h)<;>(try omega)|exact sP|refine rK ?_|exact sQ|refine sD ?_|rfl|exact sE|omega)
    all_goals first
     | exact ret_gen _ _ _ rfl rfl rfl (.inl ⟨rfl,rfl⟩)
     | skip
end Go.Proofs.YtekmkgegjicjgaaGreat

import Derived.Test.YtekmkgegjicjgaaGreatZBas
import Derived.Test.YtekmkgegjicjgaaGreatZKin
import Derived.Test.YtekmkgegjicjgaaGreatZLogs
namespace Go.Proofs.YtekmkgegjicjgaaGreat
open Go.Dv Go.Dv.EvL
set_option maxRecDepth 100000
set_option maxHeartbeats 16000000
attribute [local irreducible] Ok Rm Dm Om Sm Xm Cm Gm Hm Tm
def minB (n:Int):Bool:=decide (0≤n∧n≤9999)
def addrB (n:Int):Bool:=decide (1≤n∧n≤65535)
theorem k_isMinute (n:Int):Okv Tryz.prog 71 [.int .i64 n] (.p (.bool (minB n))):=by
 refine ok_D hmix c_impl_isMinute (by simp) ?_
 unfold minB
 refine sA ?_
 repeat' (first|refine sA ?_|refine sN ?_|refine rW rfl (k_within _ _ _) ?_|refine rV (k_within _ _ _) ?_|refine sB ?_|refine sX ?_ ?_<;>(try intro h)<;>(try omega)|exact sP|refine rK ?_|exact sQ|refine sD ?_|rfl|exact sE|omega)
theorem k_l9Minute (n:Int):Okv Tryz.prog 72 [.int .i64 n] (.p (.bool (minB n))):=by
 refine ok_D hmix c_spec_l9Minute (by simp) ?_
 unfold minB
 refine sA ?_
 repeat' (first|refine sA ?_|refine sN ?_|refine rW rfl (k_l1In _ _ _) ?_|refine rV (k_l1In _ _ _) ?_|refine sB ?_|refine sX ?_ ?_<;>(try intro h)<;>(try omega)|exact sP|refine rK ?_|exact sQ|refine sD ?_|rfl|exact sE|omega)
theorem k_isAddress (n:Int):Okv Tryz.prog 134 [.int .i64 n] (.p (.bool (addrB n))):=by
 refine ok_D hmix c_impl_isAddress (by simp) ?_
 unfold addrB
 refine sA ?_
 repeat' (first|refine sA ?_|refine sN ?_|refine rW rfl (k_within _ _ _) ?_|refine rV (k_within _ _ _) ?_|refine sB ?_|refine sX ?_ ?_<;>(try intro h)<;>(try omega)|exact sP|refine rK ?_|exact sQ|refine sD ?_|rfl|exact sE|omega)
theorem k_l5Address (n:Int):Okv Tryz.prog 139 [.int .i64 n] (.p (.bool (addrB n))):=by
 refine ok_D hmix c_spec_l5Address (by simp) ?_
 unfold addrB
 refine sA ?_
 repeat' (first|refine sA ?_|refine sN ?_|refine rW rfl (k_l1In _ _ _) ?_|refine rV (k_l1In _ _ _) ?_|refine sB ?_|refine sX ?_ ?_<;>(try intro h)<;>(try omega)|exact sP|refine rK ?_|exact sQ|refine sD ?_|rfl|exact sE|omega)
def rpS (o:Bool):Int:=if o=true then 99 else 100
theorem rpS_in (o:Bool):99≤rpS o∧rpS o≤100:=by cases o<;>decide
theorem k_rsize (o:Bool)(a b:Int):Okv Tryz.prog 214 [.agg [.bool o,.int .i64 a,.int .i64 b]] (.p (.int .i64 (rpS o))):=by
 refine ok_D hmix c_impl_Report_size (by simp) ?_
 cases o
 all_goals
  refine sA ?_
  repeat' (first|refine sA ?_|refine sN ?_|refine sB ?_|refine sX ?_ ?_<;>(try intro h)<;>(try omega)|exact sP|refine rK ?_|exact sQ|refine sD ?_|rfl|exact sE|omega)
theorem k_l7Size (o:Bool):Okv Tryz.prog 212 [.bool o] (.p (.int .i64 (rpS o))):=by
 refine ok_D hmix c_spec_l7Size (by simp) ?_
 cases o
 all_goals
  refine sA ?_
  repeat' (first|refine sA ?_|refine sN ?_|refine sB ?_|refine sX ?_ ?_<;>(try intro h)<;>(try omega)|exact sP|refine rK ?_|exact sQ|refine sD ?_|rfl|exact sE|omega)
def rpB (o:Bool)(a b:Int):Bool:=decide (0≤a∧a≤rpS o - 1) && decide (0≤b∧b≤rpS o - 1)
theorem k_iReport (o:Bool)(a b:Int):Okv Tryz.prog 183 [.agg [.bool o,.int .i64 a,.int .i64 b]] (.p (.bool (rpB o a b))):=by
 refine ok_D hmix c_impl_IsValidReport (by simp) ?_
 have hd:rpB o a b=(decide (0≤a∧a≤rpS o - 1) && decide (0≤b∧b≤rpS o - 1)):=rfl
 have hs:=rpS_in o
 have h1:=k_rsize o a b
 generalize rpS o=s at *
 refine sA ?_
 repeat' (first|refine sA ?_|refine sN ?_|refine rW rfl (h1) ?_|refine rV (h1) ?_|refine rW rfl (k_within _ _ _) ?_|refine rV (k_within _ _ _) ?_|refine sB ?_|refine sX ?_ ?_<;>(try intro h)<;>(try omega)|exact sP|refine rK ?_|exact sQ|refine sD ?_|rfl|exact sE|omega)
 all_goals grind
theorem k_l7Report (o:Bool)(a b:Int):Okv Tryz.prog 184 [.agg [.bool o,.int .i64 a,.int .i64 b]] (.p (.bool (rpB o a b))):=by
 refine ok_D hmix c_spec_l7Report (by simp) ?_
 have hd:rpB o a b=(decide (0≤a∧a≤rpS o - 1) && decide (0≤b∧b≤rpS o - 1)):=rfl
 have hs:=rpS_in o
 have h1:=k_l7Size o
 generalize rpS o=s at *
 refine sA ?_
 repeat' (first|refine sA ?_|refine sN ?_|refine rW rfl (h1) ?_|refine rV (h1) ?_|refine rW rfl (k_l1In _ _ _) ?_|refine rV (k_l1In _ _ _) ?_|refine sB ?_|refine sX ?_ ?_<;>(try intro h)<;>(try omega)|exact sP|refine rK ?_|exact sQ|refine sD ?_|rfl|exact sE|omega)
 all_goals grind
def keptB (o:Bool)(a b t:Int)(odd:Bool)(n:Int):Bool:=if t = -1 then (!o && decide (a=0) && decide (b=0)) else decide (0≤t∧t≤n) && (o == odd) && rpB o a b
theorem k_isKept (o:Bool)(a b t:Int)(odd:Bool)(n:Int):Okv Tryz.prog 135 [.agg [.bool o,.int .i64 a,.int .i64 b],.int .i64 t,.bool odd,.int .i64 n] (.p (.bool (keptB o a b t odd n))):=by
 refine ok_D hmix c_impl_isKept (by simp) ?_
 have hd:keptB o a b t odd n=if t = -1 then (!o && decide (a=0) && decide (b=0)) else decide (0≤t∧t≤n) && (o == odd) && rpB o a b:=rfl
 have h1:=k_iReport o a b
 generalize keptB o a b t odd n=z at *
 generalize rpB o a b=y at *
 refine sA ?_
 repeat' (first|refine sA ?_|refine sN ?_|refine rW rfl (h1) ?_|refine rV (h1) ?_|refine rW rfl (k_within _ _ _) ?_|refine rV (k_within _ _ _) ?_|refine sB ?_|refine sX ?_ ?_<;>(try intro h)<;>(try omega)|exact sP|refine rK ?_|exact sQ|refine sD ?_|rfl|exact sE|omega)
 all_goals (cases o<;>grind)
theorem k_l9Half (o:Bool)(a b t:Int)(odd:Bool)(n:Int):Okv Tryz.prog 140 [.agg [.bool o,.int .i64 a,.int .i64 b],.int .i64 t,.bool odd,.int .i64 n] (.p (.bool (keptB o a b t odd n))):=by
 refine ok_D hmix c_spec_l9Half (by simp) ?_
 have hd:keptB o a b t odd n=if t = -1 then (!o && decide (a=0) && decide (b=0)) else decide (0≤t∧t≤n) && (o == odd) && rpB o a b:=rfl
 have h1:=k_l7Report o a b
 generalize keptB o a b t odd n=z at *
 generalize rpB o a b=y at *
 refine sA ?_
 repeat' (first|refine sA ?_|refine sN ?_|refine rW rfl (h1) ?_|refine rV (h1) ?_|refine rW rfl (k_l1In _ _ _) ?_|refine rV (k_l1In _ _ _) ?_|refine sB ?_|refine sX ?_ ?_<;>(try intro h)<;>(try omega)|exact sP|refine rK ?_|exact sQ|refine sD ?_|rfl|exact sE|omega)
 all_goals (cases o<;>grind)
def hdB (n:Int)(h:Hd):Bool:=addrB h.addr && decide (1≤h.fr∧h.fr≤9999) && keptB h.eo h.ea h.eb h.eAt false n && keptB h.oo h.oa h.ob h.oAt true n
def recTo (n:Int)(xs:List Hd):Nat→Bool
 | 0=>true
 | i+1=>recTo n xs i && (hdB n (xs.getD i default) && (decide (i=0) || decide ((xs.getD (i - 1) default).addr<(xs.getD i default).addr)))
def recB2 (n:Int)(xs:List Hd):Bool:=minB n && decide (xs.length≤6) && recTo n xs xs.length
theorem recTo_no {n:Int}{xs:List Hd}{i:Nat}(h:recTo n xs i=false) : ∀ {j:Nat},i≤j→recTo n xs j=false
 | 0,hj=>by
  obtain rfl:i=0:=by omega
  exact h
 | j+1,hj=>by
  by_cases hi:i=j+1
  ·rw [← hi]; exact h
  ·rw [recTo,recTo_no h (show i≤j by omega)]
   rfl
theorem rec2_no {n:Int}{xs:List Hd}{i:Nat}(hi:i<xs.length)(h:recTo n xs (i+1)=false):recB2 n xs=false:=by
 unfold recB2
 rw [recTo_no h (by omega)]
 simp
theorem k_iReceiver (n:Int)(xs:List Hd)(hb:xs.length≤1048576):Okv Tryz.prog 79 [.agg [.int .i64 n,.sl 10 (xs.map Hd.pv)]] (.p (.bool (recB2 n xs))):=by
 refine ok_D hmix c_impl_IsValidReceiver (by simp) ?_
 have hr:recB2 n xs=(minB n && decide (xs.length≤6) && recTo n xs xs.length):=rfl
 have hm:=k_isMinute n
 have h2:=fun (i:Nat) (h:i<xs.length)=>rec2_no (n:=n) (xs:=xs) (i:=i) h
 generalize recB2 n xs=z at *
 cases hmb:minB n
 all_goals rw [hmb] at hm hr
 ·simp only [Bool.false_and] at hr
  subst hr
  refine sA ?_
  repeat' (first|refine sA ?_|refine sN ?_|refine rW rfl (hm) ?_|refine rV (hm) ?_|refine sB ?_|refine sX ?_ ?_<;>(try intro h)<;>(try omega)|exact sP|refine rK ?_|exact sQ|refine sD ?_|rfl|exact sE|omega)
 ·simp only [Bool.true_and] at hr
  refine sA ?_
  repeat' (first|refine sA ?_|refine sN ?_|refine rW rfl (hm) ?_|refine rV (hm) ?_|refine sB ?_|refine sX ?_ ?_<;>(try intro h)<;>(try omega)|exact sP|refine rK ?_|exact sQ|refine sD ?_|rfl|exact sE|omega)
  ·grind
  ·refine Dm_loop [1,16,17,18] (fun m ds H' => ∃ i:Nat,i≤xs.length∧m=xs.length - i∧recTo n xs i=true∧ds=[.ptr 0 0 0,.p (.sl 10 (xs.map Hd.pv)),.p (.int .i64 xs.length),.p (.int .i64 i)]∧H'=[.box 36 [.p (.int .i64 n),.p (.sl 10 (xs.map Hd.pv))]]) xs.length ⟨0,by omega,by omega,rfl,rfl,rfl⟩ ?_
   rintro m ds H' ⟨i,hi,rfl,hp,rfl,rfl⟩ -
   have h1:recTo n xs (i+1)=(hdB n (xs.getD i default) && (decide (i=0) || decide ((xs.getD (i - 1) default).addr<(xs.getD i default).addr))):=by rw [recTo,hp,Bool.true_and]
   have h2:=h2 i
   have hend:xs.length≤i→recTo n xs xs.length=true:=fun h=>by rw [show xs.length=i from by omega]; exact hp
   have h4:hdB n (xs.getD i default)=(addrB (xs.getD i default).addr && decide (1≤(xs.getD i default).fr∧(xs.getD i default).fr≤9999) && keptB (xs.getD i default).eo (xs.getD i default).ea (xs.getD i default).eb (xs.getD i default).eAt false n && keptB (xs.getD i default).oo (xs.getD i default).oa (xs.getD i default).ob (xs.getD i default).oAt true n):=rfl
   repeat' (first|refine sA ?_|refine sN ?_|refine rW rfl (k_isAddress _) ?_|refine rV (k_isAddress _) ?_|refine rW rfl (k_within _ _ _) ?_|refine rV (k_within _ _ _) ?_|refine rW rfl (k_isKept _ _ _ _ _ _) ?_|refine rV (k_isKept _ _ _ _ _ _) ?_|refine sB ?_|refine sX ?_ ?_<;>(try intro h)<;>(try omega)|exact sP|refine rK ?_|exact sQ|refine sD ?_|rfl|exact sE|omega)
   all_goals first
    | (rw [h2 (by omega) (by grind)]; done)
    | (exact Xm_inv_n (xs.length - (i+1)) (by omega) ⟨i+1,by omega,rfl,by grind,rfl,rfl⟩)
    | grind
    | skip
theorem k_l9Good (n:Int)(xs:List Hd)(hb:xs.length≤1048576):Okv Tryz.prog 87 [.agg [.int .i64 n,.sl 10 (xs.map Hd.pv)]] (.p (.bool (recB2 n xs))):=by
 refine ok_D hmix c_spec_l9Good (by simp) ?_
 have hr:recB2 n xs=(minB n && decide (xs.length≤6) && recTo n xs xs.length):=rfl
 have hm:=k_l9Minute n
 have h2:=fun (i:Nat) (h:i<xs.length)=>rec2_no (n:=n) (xs:=xs) (i:=i) h
 generalize recB2 n xs=z at *
 cases hmb:minB n
 all_goals rw [hmb] at hm hr
 ·simp only [Bool.false_and] at hr
  subst hr
  refine sA ?_
  repeat' (first|refine sA ?_|refine sN ?_|refine rW rfl (hm) ?_|refine rV (hm) ?_|refine sB ?_|refine sX ?_ ?_<;>(try intro h)<;>(try omega)|exact sP|refine rK ?_|exact sQ|refine sD ?_|rfl|exact sE|omega)
 ·simp only [Bool.true_and] at hr
  refine sA ?_
  repeat' (first|refine sA ?_|refine sN ?_|refine rW rfl (hm) ?_|refine rV (hm) ?_|refine sB ?_|refine sX ?_ ?_<;>(try intro h)<;>(try omega)|exact sP|refine rK ?_|exact sQ|refine sD ?_|rfl|exact sE|omega)
  ·grind
  ·refine Dm_loop [1,3] (fun m ds H' => ∃ i:Nat,i≤xs.length∧m=xs.length - i∧recTo n xs i=true∧ds=[.ptr 0 0 0,.p (.int .i64 i)]∧H'=[.box 36 [.p (.int .i64 n),.p (.sl 10 (xs.map Hd.pv))]]) xs.length ⟨0,by omega,by omega,rfl,rfl,rfl⟩ ?_
   rintro m ds H' ⟨i,hi,rfl,hp,rfl,rfl⟩ -
   have h1:recTo n xs (i+1)=(hdB n (xs.getD i default) && (decide (i=0) || decide ((xs.getD (i - 1) default).addr<(xs.getD i default).addr))):=by rw [recTo,hp,Bool.true_and]
   have h2:=h2 i
   have hend:xs.length≤i→recTo n xs xs.length=true:=fun h=>by rw [show xs.length=i from by omega]; exact hp
   have h4:hdB n (xs.getD i default)=(addrB (xs.getD i default).addr && decide (1≤(xs.getD i default).fr∧(xs.getD i default).fr≤9999) && keptB (xs.getD i default).eo (xs.getD i default).ea (xs.getD i default).eb (xs.getD i default).eAt false n && keptB (xs.getD i default).oo (xs.getD i default).oa (xs.getD i default).ob (xs.getD i default).oAt true n):=rfl
   repeat' (first|refine sA ?_|refine sN ?_|refine rW rfl (k_l5Address _) ?_|refine rV (k_l5Address _) ?_|refine rW rfl (k_l1In _ _ _) ?_|refine rV (k_l1In _ _ _) ?_|refine rW rfl (k_l9Half _ _ _ _ _ _) ?_|refine rV (k_l9Half _ _ _ _ _ _) ?_|refine sB ?_|refine sX ?_ ?_<;>(try intro h)<;>(try omega)|exact sP|refine rK ?_|exact sQ|refine sD ?_|rfl|exact sE|omega)
   all_goals first
    | (rw [h2 (by omega) (by grind)]; done)
    | (exact Xm_inv_n (xs.length - (i+1)) (by omega) ⟨i+1,by omega,rfl,by grind,rfl,rfl⟩)
    | grind
    | skip
def alB (a:Al):Bool:=addrB a.low && addrB a.high && decide (a.low<a.high) && decide (1≤a.lvl∧a.lvl≤2) && minB a.since
def befB (a b:Al):Bool:=decide (a.low<b.low) || (decide (a.low=b.low) && decide (a.high<b.high))
theorem k_isAlert (a:Al):Okv Tryz.prog 136 [a.pv] (.p (.bool (alB a))):=by
 refine ok_D hmix c_impl_isAlert (by simp) ?_
 have hd:alB a=(addrB a.low && addrB a.high && decide (a.low<a.high) && decide (1≤a.lvl∧a.lvl≤2) && minB a.since):=rfl
 rw [al_pv]
 refine sA ?_
 repeat' (first|refine sA ?_|refine sN ?_|refine rW rfl (k_isAddress _) ?_|refine rV (k_isAddress _) ?_|refine rW rfl (k_within _ _ _) ?_|refine rV (k_within _ _ _) ?_|refine rW rfl (k_isMinute _) ?_|refine rV (k_isMinute _) ?_|refine sB ?_|refine sX ?_ ?_<;>(try intro h)<;>(try omega)|exact sP|refine rK ?_|exact sQ|refine sD ?_|rfl|exact sE|omega)
 all_goals grind
theorem k_l20Single (a:Al):Okv Tryz.prog 141 [a.pv] (.p (.bool (alB a))):=by
 refine ok_D hmix c_spec_l20Single (by simp) ?_
 have hd:alB a=(addrB a.low && addrB a.high && decide (a.low<a.high) && decide (1≤a.lvl∧a.lvl≤2) && minB a.since):=rfl
 rw [al_pv]
 refine sA ?_
 repeat' (first|refine sA ?_|refine sN ?_|refine rW rfl (k_l5Address _) ?_|refine rV (k_l5Address _) ?_|refine rW rfl (k_l1In _ _ _) ?_|refine rV (k_l1In _ _ _) ?_|refine rW rfl (k_l9Minute _) ?_|refine rV (k_l9Minute _) ?_|refine sB ?_|refine sX ?_ ?_<;>(try intro h)<;>(try omega)|exact sP|refine rK ?_|exact sQ|refine sD ?_|rfl|exact sE|omega)
 all_goals grind
theorem k_alertBefore (a b:Al):Okv Tryz.prog 137 [a.pv,b.pv] (.p (.bool (befB a b))):=by
 refine ok_D hmix c_impl_alertBefore (by simp) ?_
 have hd:befB a b=(decide (a.low<b.low) || (decide (a.low=b.low) && decide (a.high<b.high))):=rfl
 rw [al_pv,al_pv]
 refine sA ?_
 repeat' (first|refine sA ?_|refine sN ?_|refine sB ?_|refine sX ?_ ?_<;>(try intro h)<;>(try omega)|exact sP|refine rK ?_|exact sQ|refine sD ?_|rfl|exact sE|omega)
 all_goals grind
theorem k_l20Before (a b:Al):Okv Tryz.prog 142 [a.pv,b.pv] (.p (.bool (befB a b))):=by
 refine ok_D hmix c_spec_l20Before (by simp) ?_
 have hd:befB a b=(decide (a.low<b.low) || (decide (a.low=b.low) && decide (a.high<b.high))):=rfl
 rw [al_pv,al_pv]
 refine sA ?_
 repeat' (first|refine sA ?_|refine sN ?_|refine sB ?_|refine sX ?_ ?_<;>(try intro h)<;>(try omega)|exact sP|refine rK ?_|exact sQ|refine sD ?_|rfl|exact sE|omega)
 all_goals grind
def alTo (xs:List Al):Nat→Bool
 | 0=>true
 | i+1=>alTo xs i && (alB (xs.getD i default) && (decide (i=0) || befB (xs.getD (i - 1) default) (xs.getD i default)))
def alsB (xs:List Al):Bool:=decide (xs.length≤10) && alTo xs xs.length
theorem alTo_no {xs:List Al}{i:Nat}(h:alTo xs i=false) : ∀ {j:Nat},i≤j→alTo xs j=false
 | 0,hj=>by
  obtain rfl:i=0:=by omega
  exact h
 | j+1,hj=>by
  by_cases hi:i=j+1
  ·rw [← hi]; exact h
  ·rw [alTo,alTo_no h (show i≤j by omega)]
   rfl
theorem als_no {xs:List Al}{i:Nat}(hi:i<xs.length)(h:alTo xs (i+1)=false):alsB xs=false:=by
 unfold alsB
 rw [alTo_no h (by omega)]
 simp
theorem k_iAlerts (xs:List Al)(hb:xs.length≤1048576):Okv Tryz.prog 80 [.sl 5 (xs.map Al.pv)] (.p (.bool (alsB xs))):=by
 refine ok_D hmix c_impl_IsValidAlerts (by simp) ?_
 have hr:alsB xs=(decide (xs.length≤10) && alTo xs xs.length):=rfl
 have h2:=fun (i:Nat) (h:i<xs.length)=>als_no (xs:=xs) (i:=i) h
 generalize alsB xs=z at *
 refine sA ?_
 repeat' (first|refine sA ?_|refine sN ?_|refine sB ?_|refine sX ?_ ?_<;>(try intro h)<;>(try omega)|exact sP|refine rK ?_|exact sQ|refine sD ?_|rfl|exact sE|omega)
 ·grind
 ·refine Dm_loop [0,8,9,10] (fun m ds H' => ∃ i:Nat,i≤xs.length∧m=xs.length - i∧alTo xs i=true∧ds=[.p (.sl 5 (xs.map Al.pv)),.p (.sl 5 (xs.map Al.pv)),.p (.int .i64 xs.length),.p (.int .i64 i)]∧H'=[]) xs.length ⟨0,by omega,by omega,rfl,rfl,rfl⟩ ?_
  rintro m ds H' ⟨i,hi,rfl,hp,rfl,rfl⟩ -
  have h1:alTo xs (i+1)=(alB (xs.getD i default) && (decide (i=0) || befB (xs.getD (i - 1) default) (xs.getD i default))):=by rw [alTo,hp,Bool.true_and]
  have h2:=h2 i
  have hend:xs.length≤i→alTo xs xs.length=true:=fun h=>by rw [show xs.length=i from by omega]; exact hp
  have h3:=k_isAlert (xs.getD i default)
  have h4:=k_alertBefore (xs.getD (i - 1) default) (xs.getD i default)
  generalize alB (xs.getD i default)=y1 at *
  generalize befB (xs.getD (i - 1) default) (xs.getD i default)=y2 at *
  simp only [al_pv] at h3 h4
  repeat' (first|refine sA ?_|refine sN ?_|refine rW rfl (h3) ?_|refine rV (h3) ?_|refine rW rfl (h4) ?_|refine rV (h4) ?_|refine sB ?_|refine sX ?_ ?_<;>(try intro h)<;>(try omega)|exact sP|refine rK ?_|exact sQ|refine sD ?_|rfl|exact sE|omega)
  all_goals first
   | (rw [h2 (by omega) (by grind)]; done)
   | (exact Xm_inv_n (xs.length - (i+1)) (by omega) ⟨i+1,by omega,rfl,by grind,rfl,rfl⟩)
   | grind
   | skip
theorem k_l20Good (xs:List Al)(hb:xs.length≤1048576):Okv Tryz.prog 88 [.sl 5 (xs.map Al.pv)] (.p (.bool (alsB xs))):=by
 refine ok_D hmix c_spec_l20Good (by simp) ?_
 have hr:alsB xs=(decide (xs.length≤10) && alTo xs xs.length):=rfl
 have h2:=fun (i:Nat) (h:i<xs.length)=>als_no (xs:=xs) (i:=i) h
 generalize alsB xs=z at *
 refine sA ?_
 refine Dm_loop [0,3] (fun m ds H' => ∃ i:Nat,i≤xs.length∧m=xs.length - i∧alTo xs i=true∧ds=[.p (.sl 5 (xs.map Al.pv)),.p (.int .i64 i)]∧H'=[]) xs.length ⟨0,by omega,by omega,rfl,rfl,rfl⟩ ?_
 rintro m ds H' ⟨i,hi,rfl,hp,rfl,rfl⟩ -
 have h1:alTo xs (i+1)=(alB (xs.getD i default) && (decide (i=0) || befB (xs.getD (i - 1) default) (xs.getD i default))):=by rw [alTo,hp,Bool.true_and]
 have h2:=h2 i
 have hend:xs.length≤i→alTo xs xs.length=true:=fun h=>by rw [show xs.length=i from by omega]; exact hp
 have h3:=k_l20Single (xs.getD i default)
 have h4:=k_l20Before (xs.getD (i - 1) default) (xs.getD i default)
 generalize alB (xs.getD i default)=y1 at *
 generalize befB (xs.getD (i - 1) default) (xs.getD i default)=y2 at *
 simp only [al_pv] at h3 h4
 repeat' (first|refine sA ?_|refine sN ?_|refine rW rfl (h3) ?_|refine rV (h3) ?_|refine rW rfl (h4) ?_|refine rV (h4) ?_|refine sB ?_|refine sX ?_ ?_<;>(try intro h)<;>(try omega)|exact sP|refine rK ?_|exact sQ|refine sD ?_|rfl|exact sE|omega)
 all_goals first
  | (rw [h2 (by omega) (by grind)]; done)
  | (exact Xm_inv_n (xs.length - (i+1)) (by omega) ⟨i+1,by omega,rfl,by grind,rfl,rfl⟩)
  | grind
  | (rw [hr,hend (by omega),Bool.and_true]; exact decide_eq_decide.2 (by omega))
  | skip
end Go.Proofs.YtekmkgegjicjgaaGreat
namespace Go.Proofs.YtekmkgegjicjgaaGreat
open Go.Dv Go.Dv.EvL
set_option maxRecDepth 100000
set_option maxHeartbeats 16000000
attribute [local irreducible] Ok Rm Dm Om Sm Xm Cm Gm Hm Tm
structure Cs where
 mn:Int
 hl:List Hd
 al:List Al
 lg:Lg
deriving DecidableEq
def Cs.pv (c:Cs):PV := .agg [.int .i64 c.mn,.sl 10 (c.hl.map Hd.pv),.sl 5 (c.al.map Al.pv),.str c.lg.dur,.str c.lg.pend,.int .i64 c.lg.cnt]
theorem cs_pv (c:Cs):c.pv = .agg [.int .i64 c.mn,.sl 10 (c.hl.map Hd.pv),.sl 5 (c.al.map Al.pv),.str c.lg.dur,.str c.lg.pend,.int .i64 c.lg.cnt]:=rfl
def Cs.dv (c:Cs)(i j:Nat):DV := .agg [.p (.int .i64 c.mn),.own i 0 c.hl.length,.own j 0 c.al.length,.p (.str c.lg.dur),.p (.str c.lg.pend),.p (.int .i64 c.lg.cnt)]
theorem cs_dv (c:Cs)(i j:Nat):c.dv i j = .agg [.p (.int .i64 c.mn),.own i 0 c.hl.length,.own j 0 c.al.length,.p (.str c.lg.dur),.p (.str c.lg.pend),.p (.int .i64 c.lg.cnt)]:=rfl
def Cs.rows (c:Cs):Heap:=[.arr 111 10 (c.hl.map Hd.pv),.arr 114 5 (c.al.map Al.pv)]
theorem cs_rows (c:Cs):c.rows=[.arr 111 10 (c.hl.map Hd.pv),.arr 114 5 (c.al.map Al.pv)]:=rfl
def Cs.size (c:Cs):Nat:=c.hl.length+c.al.length+c.lg.dur.length+c.lg.pend.length
def Cs.bds (c:Cs):Prop:=W64 c.mn∧c.hl.length≤9223372036854775807∧c.al.length≤9223372036854775807∧c.lg.dur.length≤9223372036854775807∧c.lg.pend.length≤9223372036854775807∧W64 c.lg.cnt
set_option maxRecDepth 100000 in
theorem open_Console {m:Nat}{xs:List PV}(h:PTy Tryz.prog (m+8) 29 xs) : ∃ r:Cs,mkEl (aggB Tryz.prog 29) xs=r.pv∧r.bds:=by
 have e:aggB Tryz.prog 29=true:=by kernel_rfl
 have e2:aggB Tryz.prog 22=false:=by kernel_rfl
 have e3:aggB Tryz.prog 25=false:=by kernel_rfl
 obtain ⟨_,_,rfl,h0,_,_,rfl,h1,_,_,rfl,h2,rfl⟩:=pty_struct Tryz.underlying29 h
 obtain ⟨_,_,rfl,g0,_,_,rfl,g1,rfl⟩:=pty_struct Tryz.underlying24 h0
 obtain ⟨a0,rfl,b0⟩:=pty_int Tryz.underlying3 g0
 obtain ⟨hl,e4,b1,_⟩:=open_Heards g1
 obtain ⟨rows,rfl,_,_⟩:=pty_slice Tryz.underlying22 g1
 rw [e2] at e4
 obtain ⟨al,e5,b2,_⟩:=open_Alerts h1
 obtain ⟨rows2,rfl,_,_⟩:=pty_slice Tryz.underlying25 h1
 rw [e3] at e5
 obtain ⟨_,_,rfl,g2,_,_,rfl,g3,_,_,rfl,g4,rfl⟩:=pty_struct Tryz.underlying27 h2
 obtain ⟨d,rfl,b3⟩:=pty_str Tryz.underlying9 g2
 obtain ⟨p,rfl,b4⟩:=pty_str Tryz.underlying9 g3
 obtain ⟨k,rfl,b5⟩:=pty_int Tryz.underlying3 g4
 have e6:PV.sl (Tryz.prog.cellsOf 178) (rows.map (mkEl (aggB Tryz.prog 178))) = .sl 10 (hl.map Hd.pv):=e4
 have e7:PV.sl (Tryz.prog.cellsOf 119) (rows2.map (mkEl (aggB Tryz.prog 119))) = .sl 5 (al.map Al.pv):=e5
 rw [e,e6,e7]
 exact ⟨⟨a0,hl,al,⟨d,p,k⟩⟩,rfl,wf64 b0,b1,b2,b3,b4,wf64 b5⟩
def CsFits (c:Cs):Prop:=c.hl.length≤1048576∧c.al.length≤1048576∧c.lg.dur.length≤1048576∧c.lg.pend.length≤1048576
theorem cs_fits {c:Cs}{n:Int}(hn:n≤1048576)(h:((c.size:Nat):Int)≤n):CsFits c:=by
 have h1:c.size=c.hl.length+c.al.length+c.lg.dur.length+c.lg.pend.length:=rfl
 exact ⟨by omega,by omega,by omega,by omega⟩
theorem k_szLog (l:Lg)(n:Int)(hn:0≤n∧n≤1048576)(h1:l.dur.length≤9223372036854775807)(h2:l.pend.length≤9223372036854775807):Okv Tryz.prog 21 [l.pv,.int .i64 n] (.p (.int .i64 (szO n (l.dur.length+l.pend.length)))):=by
 refine ok_D hmix c_laws_szLog (by simp) ?_
 have hs:szO n (l.dur.length+l.pend.length)=if n<((l.dur.length+l.pend.length:Nat):Int) then -1 else n - ((l.dur.length+l.pend.length:Nat):Int):=rfl
 rw [lg_pv]
 refine sA ?_
 repeat' (first|refine sA ?_|refine sN ?_|refine sB ?_|refine sX ?_ ?_<;>(try intro h)<;>(try omega)|exact sP|refine rK ?_|exact sQ|refine sD ?_|rfl|exact sE|omega)
 all_goals grind
theorem k_szReceiver (m:Int)(xs:List Hd)(n:Int)(hn:0≤n∧n≤1048576)(h1:xs.length≤9223372036854775807):Okv Tryz.prog 40 [.agg [.int .i64 m,.sl 10 (xs.map Hd.pv)],.int .i64 n] (.p (.int .i64 (szO n xs.length))):=by
 refine ok_D hmix c_laws_szReceiver (by simp) ?_
 have hs:szO n xs.length=if n<(xs.length:Int) then -1 else n - (xs.length:Int):=rfl
 have h2:=k_szHeardS xs n hn h1
 generalize szO n xs.length=z at *
 refine sA ?_
 repeat' (first|refine sA ?_|refine sN ?_|refine rW rfl (h2) ?_|refine rV (h2) ?_|refine sB ?_|refine sX ?_ ?_<;>(try intro h)<;>(try omega)|exact sP|refine rK ?_|exact sQ|refine sD ?_|rfl|exact sE|omega)
 all_goals grind
theorem k_szConsole (c:Cs)(n:Int)(hn:0≤n∧n≤1048576)(hr:c.bds):Okv Tryz.prog 9 [c.pv,.int .i64 n] (.p (.int .i64 (szO n c.size))):=by
 refine ok_D hmix c_laws_szConsole (by simp) ?_
 obtain ⟨_,r1,r2,r3,r4,_⟩:=hr
 have hz:c.size=c.hl.length+c.al.length+c.lg.dur.length+c.lg.pend.length:=rfl
 have hs:szO n c.size=if n<(c.size:Int) then -1 else n - (c.size:Int):=rfl
 have hs1:szO n c.hl.length=if n<(c.hl.length:Int) then -1 else n - (c.hl.length:Int):=rfl
 have h1:=k_szReceiver c.mn c.hl n hn r1
 have h2:=fun h=>k_szAlertS c.al (n - c.hl.length) h r2
 have hs2:szO (n - c.hl.length) c.al.length=if n - c.hl.length<(c.al.length:Int) then -1 else n - c.hl.length - (c.al.length:Int):=rfl
 have h3:=fun h=>k_szLog c.lg (n - c.hl.length - c.al.length) h r3 r4
 have hs3:szO (n - c.hl.length - c.al.length) (c.lg.dur.length+c.lg.pend.length)=if n - c.hl.length - c.al.length<((c.lg.dur.length+c.lg.pend.length:Nat):Int) then -1 else n - c.hl.length - c.al.length - ((c.lg.dur.length+c.lg.pend.length:Nat):Int):=rfl
 generalize szO (n - c.hl.length - c.al.length) (c.lg.dur.length+c.lg.pend.length)=z3 at *
 generalize szO (n - c.hl.length) c.al.length=z2 at *
 generalize szO n c.hl.length=z1 at *
 generalize szO n c.size=z at *
 simp only [cs_pv,lg_pv] at *
 by_cases q1:n<(c.hl.length:Int)
 ·rw [if_pos q1] at hs1
  subst hs1
  refine sA ?_
  repeat' (first|refine sA ?_|refine sN ?_|refine rW rfl (h1) ?_|refine rV (h1) ?_|refine sB ?_|refine sX ?_ ?_<;>(try intro h)<;>(try omega)|exact sP|refine rK ?_|exact sQ|refine sD ?_|rfl|exact sE|omega)
  all_goals grind
 ·rw [if_neg q1] at hs1
  subst hs1
  by_cases q2:n - c.hl.length<(c.al.length:Int)
  ·rw [if_pos q2] at hs2
   subst hs2
   refine sA ?_
   repeat' (first|refine sA ?_|refine sN ?_|refine rW rfl (h1) ?_|refine rV (h1) ?_|refine rW rfl (h2 (by omega)) ?_|refine rV (h2 (by omega)) ?_|refine sB ?_|refine sX ?_ ?_<;>(try intro h)<;>(try omega)|exact sP|refine rK ?_|exact sQ|refine sD ?_|rfl|exact sE|omega)
   all_goals grind
  ·rw [if_neg q2] at hs2
   subst hs2
   refine sA ?_
   repeat' (first|refine sA ?_|refine sN ?_|refine rW rfl (h1) ?_|refine rV (h1) ?_|refine rW rfl (h2 (by omega)) ?_|refine rV (h2 (by omega)) ?_|refine rW rfl (h3 (by omega)) ?_|refine rV (h3 (by omega)) ?_|refine sB ?_|refine sX ?_ ?_<;>(try intro h)<;>(try omega)|exact sP|refine rK ?_|exact sQ|refine sD ?_|rfl|exact sE|omega)
   all_goals grind
theorem k_toLog (l:Lg):Okv Tryz.prog 23 [l.pv] (.p l.pv):=by
 refine ok_D hmix c_laws_toLog (by simp) ?_
 rw [lg_pv]
 refine sA ?_
 repeat' (first|refine sA ?_|refine sN ?_|refine sB ?_|refine sX ?_ ?_<;>(try intro h)<;>(try omega)|exact sP|refine rK ?_|exact sQ|refine sD ?_|rfl|exact sE|omega)
theorem k_eqLog (l:Lg):Okv Tryz.prog 49 [l.pv,l.pv] (.p (.bool true)):=by
 refine ok_D hmix c_laws_eqLog (by simp) ?_
 rw [lg_pv]
 refine sA ?_
 repeat' (first|refine sA ?_|refine sN ?_|refine sB ?_|refine sX ?_ ?_<;>(try intro h)<;>(try omega)|exact sP|refine rK ?_|exact sQ|refine sD ?_|rfl|exact sE|omega)
theorem k_toReceiver (n:Int)(xs:List Hd)(hb:xs.length≤1048576):Okw Tryz.prog 44 [.agg [.int .i64 n,.sl 10 (xs.map Hd.pv)]] fun d H=>d = .agg [.p (.int .i64 n),.own 0 0 xs.length]∧H=[.arr 111 10 (xs.map Hd.pv)]:=by
 refine ok_D hmix c_laws_toReceiver (by simp) ?_
 have h1:=k_toHeardS xs hb
 refine sA ?_
 repeat' (first|refine sA ?_|refine sN ?_|(refine Rm_o h1 rfl (fun r H2 hh => ?_); obtain ⟨rfl,rfl⟩:=hh)|refine sB ?_|refine sX ?_ ?_<;>(try intro h)<;>(try omega)|exact sP|refine rK ?_|exact sQ|refine sD ?_|rfl|exact sE|omega)
theorem k_eqReceiver (n:Int)(xs:List Hd)(hb:xs.length≤1048576):Okv Tryz.prog 47 [.agg [.int .i64 n,.sl 10 (xs.map Hd.pv)],.agg [.int .i64 n,.sl 10 (xs.map Hd.pv)]] (.p (.bool true)):=by
 refine ok_D hmix c_laws_eqReceiver (by simp) ?_
 have h1:=k_eqHeardS xs hb
 refine sA ?_
 repeat' (first|refine sA ?_|refine sN ?_|refine rW rfl (h1) ?_|refine rV (h1) ?_|refine sB ?_|refine sX ?_ ?_<;>(try intro h)<;>(try omega)|exact sP|refine rK ?_|exact sQ|refine sD ?_|rfl|exact sE|omega)
theorem k_toConsole (c:Cs)(hf:CsFits c):Okw Tryz.prog 11 [c.pv] fun d H=>d=c.dv 0 1∧H=c.rows:=by
 refine ok_D hmix c_laws_toConsole (by simp) ?_
 have h1:=k_toReceiver c.mn c.hl hf.1
 have h2:=k_toAlertS c.al hf.2.1
 have h3:=k_toLog c.lg
 simp only [cs_pv,cs_dv,cs_rows,lg_pv] at *
 refine sA ?_
 repeat' (first|refine sA ?_|refine sN ?_|(refine Rm_o h1 rfl (fun r H2 hh => ?_); obtain ⟨rfl,rfl⟩:=hh)|(refine Rm_o h2 rfl (fun r H2 hh => ?_); obtain ⟨rfl,rfl⟩:=hh)|refine rW rfl (h3) ?_|refine rV (h3) ?_|refine sB ?_|refine sX ?_ ?_<;>(try intro h)<;>(try omega)|exact sP|refine rK ?_|exact sQ|refine sD ?_|rfl|exact sE|omega)
theorem k_eqConsole (c:Cs)(hf:CsFits c):Okv Tryz.prog 14 [c.pv,c.pv] (.p (.bool true)):=by
 refine ok_D hmix c_laws_eqConsole (by simp) ?_
 have h1:=k_eqReceiver c.mn c.hl hf.1
 have h2:=k_eqAlertS c.al hf.2.1
 have h3:=k_eqLog c.lg
 simp only [cs_pv,lg_pv] at *
 refine sA ?_
 repeat' (first|refine sA ?_|refine sN ?_|refine rW rfl (h1) ?_|refine rV (h1) ?_|refine rW rfl (h2) ?_|refine rV (h2) ?_|refine rW rfl (h3) ?_|refine rV (h3) ?_|refine sB ?_|refine sX ?_ ?_<;>(try intro h)<;>(try omega)|exact sP|refine rK ?_|exact sQ|refine sD ?_|rfl|exact sE|omega)
def csB (c:Cs):Bool:=recB2 c.mn c.hl && alsB c.al && logB c.lg
theorem k_iConsole (c:Cs)(hf:CsFits c):Okv Tryz.prog 35 [c.pv] (.p (.bool (csB c))):=by
 refine ok_D hmix c_impl_IsValidConsole (by simp) ?_
 have hd:csB c=(recB2 c.mn c.hl && alsB c.al && logB c.lg):=rfl
 obtain ⟨f1,f2,f3,f4⟩:=hf
 have h1:=k_iReceiver c.mn c.hl f1
 have h2:=k_iAlerts c.al f2
 have h3:=k_iValidLog c.lg (by omega) (by omega)
 generalize csB c=z at *
 generalize recB2 c.mn c.hl=z1 at *
 generalize alsB c.al=z2 at *
 generalize logB c.lg=z3 at *
 simp only [cs_pv,lg_pv] at *
 subst hd
 cases z1<;>cases z2<;>cases z3
 all_goals
  refine sA ?_
  repeat' (first|refine sA ?_|refine sN ?_|refine rW rfl (h1) ?_|refine rV (h1) ?_|refine rW rfl (h2) ?_|refine rV (h2) ?_|refine rW rfl (h3) ?_|refine rV (h3) ?_|refine sB ?_|refine sX ?_ ?_<;>(try intro h)<;>(try omega)|exact sP|refine rK ?_|exact sQ|refine sD ?_|rfl|exact sE|omega)
theorem k_l28Good (c:Cs)(hf:CsFits c):Okv Tryz.prog 43 [c.pv] (.p (.bool (csB c))):=by
 refine ok_D hmix c_spec_l28Good (by simp) ?_
 have hd:csB c=(recB2 c.mn c.hl && alsB c.al && logB c.lg):=rfl
 obtain ⟨f1,f2,f3,f4⟩:=hf
 have h1:=k_l9Good c.mn c.hl f1
 have h2:=k_l20Good c.al f2
 have h3:=k_l27Log c.lg (by omega) (by omega)
 generalize csB c=z at *
 generalize recB2 c.mn c.hl=z1 at *
 generalize alsB c.al=z2 at *
 generalize logB c.lg=z3 at *
 simp only [cs_pv,lg_pv] at *
 subst hd
 cases z1<;>cases z2<;>cases z3
 all_goals
  refine sA ?_
  repeat' (first|refine sA ?_|refine sN ?_|refine rW rfl (h1) ?_|refine rV (h1) ?_|refine rW rfl (h2) ?_|refine rV (h2) ?_|refine rW rfl (h3) ?_|refine rV (h3) ?_|refine sB ?_|refine sX ?_ ?_<;>(try intro h)<;>(try omega)|exact sP|refine rK ?_|exact sQ|refine sD ?_|rfl|exact sE|omega)
theorem k_sConsole (c:Cs)(hf:CsFits c):Okv Tryz.prog 36 [c.pv] (.p (.bool (csB c))):=by
 refine ok_D hmix c_spec_IsValidConsole (by simp) ?_
 have h1:=k_l28Good c hf
 simp only [cs_pv] at *
 refine sA ?_
 repeat' (first|refine sA ?_|refine sN ?_|refine rW rfl (h1) ?_|refine rV (h1) ?_|refine sB ?_|refine sX ?_ ?_<;>(try intro h)<;>(try omega)|exact sP|refine rK ?_|exact sQ|refine sD ?_|rfl|exact sE|omega)
end Go.Proofs.YtekmkgegjicjgaaGreat

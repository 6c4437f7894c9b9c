import Derived.Test.YtekmkgegjicjgaaGreatZIr5
import Derived.Test.YtekmkgegjicjgaaGreatZBas
import Derived.Test.YtekmkgegjicjgaaGreatZLogX
import Derived.Test.YtekmkgegjicjgaaGreatZLogs
namespace Go.Proofs.YtekmkgegjicjgaaGreat
open Go.Dv Go.Dv.EvL
set_option maxRecDepth 100000
set_option maxHeartbeats 16000000
attribute [local irreducible] Ok Rm Dm Om Sm Xm Cm Gm Hm Tm
theorem cut0 {s:List UInt8}{n:Nat}:cutL s 0 n=s.take n:=by simp [cutL]
theorem k_iCrash0 (l:Lg)(k:Int)(h1:l.dur.length≤1073741824)(h2:l.pend.length≤1073741824)(hv:logB l=true)(hk1:0≤k)(hk2:k≤l.pend.length):Okv Tryz.prog 32 [l.pv,.int .i64 k,.bool false] (.tup [.p (.str (crashO l k false).1),.p (.bool true)]):=by
 refine ok_D hmix c_impl_CrashLog (by simp) ?_
 have ha:=k_iValidLog l h1 h2
 have hs:crashO l k false=(l.dur++l.pend.take k.toNat,true):=by
  unfold crashO
  rw [if_pos ⟨hv,hk1,hk2⟩,if_neg (by simp)]
 rw [hs]
 obtain ⟨n,rfl⟩ : ∃ n:Nat,k=n:=⟨k.toNat,by omega⟩
 have hl:(l.pend.take n).length=n:=by rw [List.length_take]; omega
 rw [hv] at ha
 rw [lg_pv l] at *
 simp only [Int.toNat_natCast]
 generalize ht:l.pend.take n=t at *
 have hlt:(l.dur++t).length=l.dur.length+n:=by rw [List.length_append,hl]
 generalize hd:l.dur++t=D at *
 refine sA ?_
 repeat' (first|refine sA ?_|refine sN ?_|refine rW rfl (ha) ?_|refine rV (ha) ?_|refine rW rfl (k_within _ _ _) ?_|refine rV (k_within _ _ _) ?_|rw [cut0]|rw [ht]|rw [hd]|refine dr ?_|refine dr0 ?_|refine sB ?_|refine sX ?_ ?_<;>(try intro h)<;>(try omega)|exact sP|refine rK ?_|exact sQ|refine sD ?_|rfl|exact sE|omega)
 all_goals skip
end Go.Proofs.YtekmkgegjicjgaaGreat

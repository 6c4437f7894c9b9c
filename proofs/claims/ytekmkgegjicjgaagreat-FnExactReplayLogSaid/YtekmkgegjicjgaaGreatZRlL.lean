import Derived.Test.YtekmkgegjicjgaaGreatZIr3
import Derived.Test.YtekmkgegjicjgaaGreatZBas
import Derived.Test.YtekmkgegjicjgaaGreatZRun2
namespace Go.Proofs.YtekmkgegjicjgaaGreat
open Go.Dv Go.Dv.EvL
set_option maxRecDepth 100000
set_option maxHeartbeats 16000000
attribute [local irreducible] Ok Rm Dm Om Sm Xm Cm Gm Hm Tm
set_option maxRecDepth 100000 in
theorem open_Log {m:Nat}{xs:List PV}(h:PTy Tryz.prog (m+4) 27 xs) : ∃ l:Lg,mkEl (aggB Tryz.prog 27) xs=l.pv∧l.dur.length≤9223372036854775807∧l.pend.length≤9223372036854775807∧W64 l.cnt:=by
 have e:aggB Tryz.prog 27=true:=by kernel_rfl
 obtain ⟨_,_,rfl,g2,_,_,rfl,g3,_,_,rfl,g4,rfl⟩:=pty_struct Tryz.underlying27 h
 obtain ⟨d,rfl,b3⟩:=pty_str Tryz.underlying9 g2
 obtain ⟨p,rfl,b4⟩:=pty_str Tryz.underlying9 g3
 obtain ⟨k,rfl,b5⟩:=pty_int Tryz.underlying3 g4
 rw [e]
 exact ⟨⟨d,p,k⟩,rfl,b3,b4,wf64 b5⟩
theorem k_FnExactReplayLog (m:Int)(_:W64 m)(l:Lg)(hr:l.dur.length≤9223372036854775807∧l.pend.length≤9223372036854775807∧W64 l.cnt):Okv Tryz.prog 5 [.int .i64 m,l.pv] (.p (.bool true)):=by
 refine ok_D hmix c_laws_FnExactReplayLog (by simp) ?_
 have h1:=k_szLog l 1048576 (by omega) hr.1 hr.2.1
 have hz:szO 1048576 (l.dur.length+l.pend.length)=if (1048576:Int)<((l.dur.length+l.pend.length:Nat):Int) then -1 else 1048576 - ((l.dur.length+l.pend.length:Nat):Int):=rfl
 by_cases hb:(1048576:Int)<((l.dur.length+l.pend.length:Nat):Int)
 ·rw [if_pos hb] at hz
  rw [hz] at h1
  rw [lg_pv] at *
  refine sF fun dc hdc => ?_; refine sA ?_
  repeat' (first|refine sA ?_|refine sO ‹_› fun dc hdc => ?_|refine sN ?_|refine rW rfl (h1) ?_|refine rV (h1) ?_|refine sB ?_|refine sX ?_ ?_<;>(try intro h)<;>(try omega)|exact sP|refine rK ?_|exact sQ|refine sD ?_|exact sE|omega)
  all_goals skip
 ·rw [if_neg hb] at hz
  have h2:=k_toLog l
  have h3:=k_sReplay m l (by omega) (by omega)
  have h4:=k_iReplay m l (by omega) (by omega)
  generalize (rlO m l).1=n at *
  generalize (rlO m l).2=ok at *
  generalize szO 1048576 (l.dur.length+l.pend.length)=z at *
  rw [lg_pv] at *
  refine sF fun dc hdc => ?_; refine sA ?_
  repeat' (first|refine sA ?_|refine sO ‹_› fun dc hdc => ?_|refine sN ?_|refine rW rfl (h1) ?_|refine rV (h1) ?_|refine rW rfl (h2) ?_|refine rV (h2) ?_|refine rW rfl (h3) ?_|refine rV (h3) ?_|refine rW rfl (h4) ?_|refine rV (h4) ?_|refine sB ?_|refine sX ?_ ?_<;>(try intro h)<;>(try omega)|exact sP|refine rK ?_|exact sQ|refine sD ?_|exact sE|omega)
  all_goals skip
end Go.Proofs.YtekmkgegjicjgaaGreat

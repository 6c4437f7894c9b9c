import Derived.Test.YtekmkgegjicjgaaGreatZBas
import Derived.Test.YtekmkgegjicjgaaGreatZCVa
namespace Go.Proofs.YtekmkgegjicjgaaGreat
open Go.Dv Go.Dv.EvL
set_option maxRecDepth 100000
set_option maxHeartbeats 16000000
attribute [local irreducible] Ok Rm Dm Om Sm Xm Cm Gm Hm Tm
theorem crash_part {l:Lg}(h:logB l=true)(hl:l.dur.length+l.pend.length≤23340){k:Int}(h0:0≤k)(hk:k≤l.pend.length) :
  (crashO l k false).2=true∧(crashO l k false).1.length≤23340∧(recoverO (crashO l k false).1).2.2=true∧logB (recoverO (crashO l k false).1).1=true∧recsO (recoverO (crashO l k false).1).1 <+: recsO l ∧
  (recoverO (crashO l k false).1).1.dur.length≤23340∧(recoverO (crashO l k false).1).1.pend.length=0:=by
 have h2:(crashO l k false).2=true:=by
  unfold crashO
  rw [if_pos ⟨h,h0,hk⟩]
 obtain ⟨_,g1,_,g2⟩:=crash_keeps h2
 generalize (crashO l k false).1=s at *
 have hr:recoverO s=(⟨cutL s 0 (openS s).2,[],(openS s).1.length⟩,(openS s).2,true):=by
  unfold recoverO
  rw [if_pos (by omega)]
 have hb:=logB_rec s
 have hbd:=openS_bound s
 have e:openS (s.take (openS s).2)=openS s:=openR_fix 60 0 s
 have e2:cutL s 0 (openS s).2=s.take (openS s).2:=by simp [cutL]
 rw [hr]
 refine ⟨h2,by omega,rfl,hb,?_,?_,rfl⟩
 ·unfold recsO
  rw [if_pos hb,if_pos h,List.append_nil]
  show (openS (cutL s 0 (openS s).2)).1 <+: _
  rw [e2,e]
  exact g1
 ·show (cutL s 0 (openS s).2).length≤23340
  rw [e2,List.length_take]
  omega
theorem new_ok {m:Int}(h:minB m=true):newM m=m:=by
 unfold newM
 rw [if_pos h]
theorem leads_fits {c0 c:Cs}(h:Leads c0 c):CsFits c∧c.lg.dur.length+c.lg.pend.length≤23340∧logB c.lg=true:=by
 obtain ⟨h1,h2,h3,_⟩:=cs_small h.1
 exact ⟨by unfold CsFits; omega,h3,(cs_okV h.1).2.2⟩
theorem leads_end {m:Int}{c:Cs}(hm:minB m=true)(h:Leads (newC m) c){k:Int}(h0:0≤k)(hk:k≤c.lg.pend.length) :
  ∃ (s:List UInt8) (l:Lg) (n:Nat),rlO m c.lg=((recsO c.lg).length,true)∧((recsO c.lg).length:Int)=c.lg.cnt∧crashO c.lg k false=(s,true)∧s.length≤23340∧recoverO s=(l,n,true)∧rlO m l=((recsO l).length,true)∧((recsO l).length:Int)=l.cnt ∧
  l.dur.length≤23340∧l.pend.length=0:=by
 obtain ⟨f1,f2,f3⟩:=leads_fits h
 obtain ⟨g1,g2,g3,g4,g5,g6,g7⟩:=crash_part f3 f2 h0 hk
 refine ⟨(crashO c.lg k false).1,(recoverO (crashO c.lg k false).1).1,(recoverO (crashO c.lg k false).1).2.1,leads_replay hm h,recs_cnt f3,Prod.ext rfl g1,g2,Prod.ext rfl (Prod.ext rfl g3),leads_part hm h g4 g5,recs_cnt g4,g6,g7⟩
end Go.Proofs.YtekmkgegjicjgaaGreat

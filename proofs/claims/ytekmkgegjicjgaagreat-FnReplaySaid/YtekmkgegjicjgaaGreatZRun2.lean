import Derived.Test.YtekmkgegjicjgaaGreatZBas
import Derived.Test.YtekmkgegjicjgaaGreatZCmE
import Derived.Test.YtekmkgegjicjgaaGreatZCmK
import Derived.Test.YtekmkgegjicjgaaGreatZCVa
namespace Go.Proofs.YtekmkgegjicjgaaGreat
open Go.Dv Go.Dv.EvL
set_option maxRecDepth 100000
set_option maxHeartbeats 16000000
attribute [local irreducible] Ok Rm Dm Om Sm Xm Cm Gm Hm Tm
theorem k_iNew0 (n:Int):Okv Tryz.prog 28 [.int .i64 n] (.tup [.p (.agg [.int .i64 (newM n),.sl 1 [],.sl 1 [],.str [],.str [],.int .i64 0]),.p (.bool (minB n))]):=by
 refine ok_D hmix c_impl_NewConsole (by simp) ?_
 have h:=k_isMinute n
 unfold newM
 cases hm:minB n
 all_goals
  rw [hm] at h
  refine sA ?_
  repeat' (first|refine sA ?_|refine sN ?_|exact ret_gen _ _ _ rfl rfl rfl ⟨rfl,rfl⟩|refine rW rfl (h) ?_|refine rV (h) ?_|refine sB ?_|refine sX ?_ ?_<;>(try intro h)<;>(try omega)|exact sP|refine rK ?_|exact sQ|refine sD ?_|rfl|exact sE|omega)
theorem k_sNew0 (n:Int):Okv Tryz.prog 29 [.int .i64 n] (.tup [.p (.agg [.int .i64 (newM n),.sl 1 [],.sl 1 [],.str [],.str [],.int .i64 0]),.p (.bool (minB n))]):=by
 refine ok_D hmix c_spec_NewConsole (by simp) ?_
 have h:=k_l9Minute n
 unfold newM
 cases hm:minB n
 all_goals
  rw [hm] at h
  refine sA ?_
  repeat' (first|refine sA ?_|refine sN ?_|exact ret_gen _ _ _ rfl rfl rfl ⟨rfl,rfl⟩|refine rW rfl (h) ?_|refine rV (h) ?_|refine sB ?_|refine sX ?_ ?_<;>(try intro h)<;>(try omega)|exact sP|refine rK ?_|exact sQ|refine sD ?_|rfl|exact sE|omega)
theorem k_iNew (n:Int):Okv Tryz.prog 28 [.int .i64 n] (.tup [.p (newC (newM n)).pv,.p (.bool (minB n))]):=new_cv (k_iNew0 n)
theorem k_sNew (n:Int):Okv Tryz.prog 29 [.int .i64 n] (.tup [.p (newC (newM n)).pv,.p (.bool (minB n))]):=new_cv (k_sNew0 n)
theorem k_sReplay (m:Int)(l:Lg)(h1:l.dur.length≤1048576)(h2:l.pend.length≤1048576):Okv Tryz.prog 22 [.int .i64 m,l.pv] (.tup [.p (.int .i64 (rlO m l).1),.p (.bool (rlO m l).2)]):=by
 refine ok_D hmix c_spec_ReplayLog (by simp) ?_
 have a0:=k_sNew m
 have a2:=k_sLogRecsP l (by omega) (by omega)
 have a3:=k_l27Log l (by omega) (by omega)
 have hs:rlO m l=if minB m=true∧logB l=true then (rlK (newC m) (recsO l) (recsO l).length,true) else (0,false):=rfl
 have hm:newM m=if minB m=true then m else 0:=rfl
 by_cases hv:minB m=true∧logB l=true
 ·rw [if_pos hv] at hs
  rw [hs]
  rw [if_pos hv.1] at hm
  rw [hv.1,hm] at a0
  rw [hv.2] at a2 a3
  have hcm:=recsO_cmd' hv.2
  have hrl:=recsO_len l
  generalize recsO l=rs at *
  have hf:=new_fits m
  generalize newC m=c at *
  clear hs hm hv
  have hstart:c.pv = .agg [.int .i64 (cnTo c rs 0).mn,.sl 10 ((cnTo c rs 0).hl.map Hd.pv),.sl 5 ((cnTo c rs 0).al.map Al.pv),.str (cnTo c rs 0).lg.dur,.str (cnTo c rs 0).lg.pend,.int .i64 (cnTo c rs 0).lg.cnt]:=rfl
  rw [hstart] at a0
  rw [lg_pv] at *
  refine sF fun dc hdc => ?_; refine sA ?_
  repeat' (first|refine sA ?_|refine sO ‹_› fun dc hdc => ?_|refine sN ?_|(refine Rm_o a0 rfl (fun r H2 hh => ?_); obtain ⟨rfl,rfl⟩:=hh)|refine rW rfl (a3) ?_|refine rV (a3) ?_|(refine Rm_o a2 rfl (fun r H2 hh => ?_); obtain ⟨rfl,rfl⟩:=hh)|refine sB ?_|refine sX ?_ ?_<;>(try intro h)<;>(try omega)|exact sP|refine rK ?_|exact sQ|refine sD ?_|exact sE|omega)
  refine Dm_loop [6,8,11] (fun v ds H' => ∃ i:Nat,i≤rs.length∧v=rs.length - i∧rlK c rs rs.length=rlK c rs (rs.length - i)∧ds=[.ptr 0 0 0,.p (.sl 2 (rs.map Rec.pv)),.p (.int .i64 i)]∧H'=[.box 40 [.p (.int .i64 (cnTo c rs i).mn),.p (.sl 10 ((cnTo c rs i).hl.map Hd.pv)),.p (.sl 5 ((cnTo c rs i).al.map Al.pv)),.p (.str (cnTo c rs i).lg.dur),.p (.str (cnTo c rs i).lg.pend),.p (.int .i64 (cnTo c rs i).lg.cnt)]]) rs.length ⟨0,by omega,by omega,rfl,by kernel_rfl,by kernel_rfl⟩ ?_
  clear hstart a0 a2 a3
  rintro v ds H' ⟨i,hi,rfl,he,rfl,rfl⟩ -
  rcases Nat.lt_or_ge i rs.length with hlt|hge
  ·have hcl:=hcm _ (getD_mem (d:=default) hlt)
   obtain ⟨k,hk⟩ : ∃ k,rs.length - i=k+1:=⟨rs.length - i - 1,by omega⟩
   have hr:rlK c rs (k+1)=if (exO (cnTo c rs i) (rs.getD i default).cmd).2=(rs.getD i default).reply then rlK c rs k else i:=by
    rw [rlK,show rs.length - (k+1)=i from by omega]
   rw [hk] at he
   rw [hr] at he
   have hn:cnTo c rs (i+1)=(exO (cnTo c rs i) (rs.getD i default).cmd).1:=rfl
   have a1:=k_sExec (cnTo c rs i) (rs.getD i default).cmd (cn_fits hf rs i) hcl
   rw [← hn] at a1
   generalize (exO (cnTo c rs i) (rs.getD i default).cmd).2=T at *
   clear hn hr
   rw [cs_pv,cs_pv] at a1
   generalize rlK c rs rs.length=Z at *
   by_cases hq:T=(rs.getD i default).reply
   ·rw [if_pos hq] at he
    have q1:(T != (rs.getD i default).reply)=false:=bne_eq_false_iff_eq.2 hq
    repeat' (first|refine sA ?_|refine sO ‹_› fun dc hdc => ?_|refine sN ?_|(refine Rm_o a1 rfl (fun r H2 hh => ?_); obtain ⟨rfl,rfl⟩:=hh)|exact absurd hq (by assumption)|simp only [q1]|refine sB ?_|refine sX ?_ ?_<;>(try intro h)<;>(try omega)|exact sP|refine rK ?_|exact sQ|refine sD ?_|exact sE|omega)
    all_goals first
     | exact Xm_inv_n (rs.length - (i+1)) (by omega) ⟨i+1,by omega,rfl,by rw [he,show rs.length - (i+1)=k from by omega],by kernel_rfl,by kernel_rfl⟩
     | skip
   ·rw [if_neg hq] at he
    rw [he]
    have q1:(T != (rs.getD i default).reply)=true:=bne_iff_ne.2 hq
    repeat' (first|refine sA ?_|refine sO ‹_› fun dc hdc => ?_|refine sN ?_|(refine Rm_o a1 rfl (fun r H2 hh => ?_); obtain ⟨rfl,rfl⟩:=hh)|exact absurd (by assumption) hq|simp only [q1]|refine sB ?_|refine sX ?_ ?_<;>(try intro h)<;>(try omega)|exact sP|refine rK ?_|exact sQ|refine sD ?_|exact sE|omega)
    all_goals skip
  ·obtain rfl:i=rs.length:=by omega
   rw [Nat.sub_self,rlK] at he
   rw [he]
   repeat' (first|refine sA ?_|refine sO ‹_› fun dc hdc => ?_|refine sN ?_|refine sB ?_|refine sX ?_ ?_<;>(try intro h)<;>(try omega)|exact sP|refine rK ?_|exact sQ|refine sD ?_|exact sE|omega)
   all_goals skip
 ·rw [if_neg hv] at hs
  rw [hs]
  generalize newC (newM m)=c at *
  generalize recsO l=rs at *
  generalize minB m=b1 at *
  generalize logB l=b2 at *
  clear hs hm
  rw [cs_pv] at *
  rw [lg_pv] at *
  cases b1<;>cases b2<;>simp only [and_true,Bool.false_eq_true,and_false,not_true,not_false_eq_true] at hv
  all_goals
   refine sF fun dc hdc => ?_; refine sA ?_
   repeat' (first|refine sA ?_|refine sO ‹_› fun dc hdc => ?_|refine sN ?_|(refine Rm_o a0 rfl (fun r H2 hh => ?_); obtain ⟨rfl,rfl⟩:=hh)|refine rW rfl (a3) ?_|refine rV (a3) ?_|(refine Rm_o a2 rfl (fun r H2 hh => ?_); obtain ⟨rfl,rfl⟩:=hh)|refine sB ?_|refine sX ?_ ?_<;>(try intro h)<;>(try omega)|exact sP|refine rK ?_|exact sQ|refine sD ?_|exact sE|omega)
  all_goals skip
theorem k_iReplay (m:Int)(l:Lg)(h1:l.dur.length≤1048576)(h2:l.pend.length≤1048576):Okv Tryz.prog 24 [.int .i64 m,l.pv] (.tup [.p (.int .i64 (rlO m l).1),.p (.bool (rlO m l).2)]):=by
 refine ok_D hmix c_impl_ReplayLog (by simp) ?_
 have a0:=k_iNew m
 have a2:=k_iLogRecsP l (by omega) (by omega)
 have a3:=k_iValidLog l (by omega) (by omega)
 have hs:rlO m l=if minB m=true∧logB l=true then (rlK (newC m) (recsO l) (recsO l).length,true) else (0,false):=rfl
 have hm:newM m=if minB m=true then m else 0:=rfl
 by_cases hv:minB m=true∧logB l=true
 ·rw [if_pos hv] at hs
  rw [hs]
  rw [if_pos hv.1] at hm
  rw [hv.1,hm] at a0
  rw [hv.2] at a2 a3
  have hcm:=recsO_cmd' hv.2
  have hrl:=recsO_len l
  generalize recsO l=rs at *
  have hf:=new_fits m
  generalize newC m=c at *
  clear hs hm hv
  have hstart:c.pv = .agg [.int .i64 (cnTo c rs 0).mn,.sl 10 ((cnTo c rs 0).hl.map Hd.pv),.sl 5 ((cnTo c rs 0).al.map Al.pv),.str (cnTo c rs 0).lg.dur,.str (cnTo c rs 0).lg.pend,.int .i64 (cnTo c rs 0).lg.cnt]:=rfl
  rw [hstart] at a0
  rw [lg_pv] at *
  refine sF fun dc hdc => ?_; refine sA ?_
  repeat' (first|refine sA ?_|refine sO ‹_› fun dc hdc => ?_|refine sN ?_|(refine Rm_o a0 rfl (fun r H2 hh => ?_); obtain ⟨rfl,rfl⟩:=hh)|refine rW rfl (a3) ?_|refine rV (a3) ?_|(refine Rm_o a2 rfl (fun r H2 hh => ?_); obtain ⟨rfl,rfl⟩:=hh)|refine sB ?_|refine sX ?_ ?_<;>(try intro h)<;>(try omega)|exact sP|refine rK ?_|exact sQ|refine sD ?_|exact sE|omega)
  refine Dm_loop [6,8,30,31,32] (fun v ds H' => ∃ i:Nat,i≤rs.length∧v=rs.length - i∧rlK c rs rs.length=rlK c rs (rs.length - i)∧ds=[.ptr 0 0 0,.p (.sl 2 (rs.map Rec.pv)),.p (.sl 2 (rs.map Rec.pv)),.p (.int .i64 rs.length),.p (.int .i64 i)]∧H'=[.box 40 [.p (.int .i64 (cnTo c rs i).mn),.p (.sl 10 ((cnTo c rs i).hl.map Hd.pv)),.p (.sl 5 ((cnTo c rs i).al.map Al.pv)),.p (.str (cnTo c rs i).lg.dur),.p (.str (cnTo c rs i).lg.pend),.p (.int .i64 (cnTo c rs i).lg.cnt)]]) rs.length ⟨0,by omega,by omega,rfl,by kernel_rfl,by kernel_rfl⟩ ?_
  clear hstart a0 a2 a3
  rintro v ds H' ⟨i,hi,rfl,he,rfl,rfl⟩ -
  rcases Nat.lt_or_ge i rs.length with hlt|hge
  ·have hcl:=hcm _ (getD_mem (d:=default) hlt)
   obtain ⟨k,hk⟩ : ∃ k,rs.length - i=k+1:=⟨rs.length - i - 1,by omega⟩
   have hr:rlK c rs (k+1)=if (exO (cnTo c rs i) (rs.getD i default).cmd).2=(rs.getD i default).reply then rlK c rs k else i:=by
    rw [rlK,show rs.length - (k+1)=i from by omega]
   rw [hk] at he
   rw [hr] at he
   have hn:cnTo c rs (i+1)=(exO (cnTo c rs i) (rs.getD i default).cmd).1:=rfl
   have a1:=k_iExecP (cnTo c rs i) (rs.getD i default).cmd (cn_fits hf rs i) hcl
   rw [← hn] at a1
   generalize (exO (cnTo c rs i) (rs.getD i default).cmd).2=T at *
   clear hn hr
   rw [cs_pv,cs_pv] at a1
   generalize rlK c rs rs.length=Z at *
   by_cases hq:T=(rs.getD i default).reply
   ·rw [if_pos hq] at he
    have q1:(T != (rs.getD i default).reply)=false:=bne_eq_false_iff_eq.2 hq
    repeat' (first|refine sA ?_|refine sO ‹_› fun dc hdc => ?_|refine sN ?_|(refine Rm_o a1 rfl (fun r H2 hh => ?_); obtain ⟨rfl,rfl⟩:=hh)|exact absurd hq (by assumption)|simp only [q1]|refine sB ?_|refine sX ?_ ?_<;>(try intro h)<;>(try omega)|exact sP|refine rK ?_|exact sQ|refine sD ?_|exact sE|omega)
    all_goals first
     | exact Xm_inv_n (rs.length - (i+1)) (by omega) ⟨i+1,by omega,rfl,by rw [he,show rs.length - (i+1)=k from by omega],by kernel_rfl,by kernel_rfl⟩
     | skip
   ·rw [if_neg hq] at he
    rw [he]
    have q1:(T != (rs.getD i default).reply)=true:=bne_iff_ne.2 hq
    repeat' (first|refine sA ?_|refine sO ‹_› fun dc hdc => ?_|refine sN ?_|(refine Rm_o a1 rfl (fun r H2 hh => ?_); obtain ⟨rfl,rfl⟩:=hh)|exact absurd (by assumption) hq|simp only [q1]|refine sB ?_|refine sX ?_ ?_<;>(try intro h)<;>(try omega)|exact sP|refine rK ?_|exact sQ|refine sD ?_|exact sE|omega)
    all_goals skip
  ·obtain rfl:i=rs.length:=by omega
   rw [Nat.sub_self,rlK] at he
   rw [he]
   repeat' (first|refine sA ?_|refine sO ‹_› fun dc hdc => ?_|refine sN ?_|refine sB ?_|refine sX ?_ ?_<;>(try intro h)<;>(try omega)|exact sP|refine rK ?_|exact sQ|refine sD ?_|exact sE|omega)
   all_goals skip
 ·rw [if_neg hv] at hs
  rw [hs]
  generalize newC (newM m)=c at *
  generalize recsO l=rs at *
  generalize minB m=b1 at *
  generalize logB l=b2 at *
  clear hs hm
  rw [cs_pv] at *
  rw [lg_pv] at *
  cases b1<;>cases b2<;>simp only [and_true,Bool.false_eq_true,and_false,not_true,not_false_eq_true] at hv
  all_goals
   refine sF fun dc hdc => ?_; refine sA ?_
   repeat' (first|refine sA ?_|refine sO ‹_› fun dc hdc => ?_|refine sN ?_|(refine Rm_o a0 rfl (fun r H2 hh => ?_); obtain ⟨rfl,rfl⟩:=hh)|refine rW rfl (a3) ?_|refine rV (a3) ?_|(refine Rm_o a2 rfl (fun r H2 hh => ?_); obtain ⟨rfl,rfl⟩:=hh)|refine sB ?_|refine sX ?_ ?_<;>(try intro h)<;>(try omega)|exact sP|refine rK ?_|exact sQ|refine sD ?_|exact sE|omega)
  all_goals skip
end Go.Proofs.YtekmkgegjicjgaaGreat

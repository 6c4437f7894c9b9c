import Derived.Test.YtekmkgegjicjgaaGreatZBas
import Derived.Test.YtekmkgegjicjgaaGreatZCDd
import Derived.Test.YtekmkgegjicjgaaGreatZCDb
import Derived.Test.YtekmkgegjicjgaaGreatZCVa
import Derived.Test.YtekmkgegjicjgaaGreatZCmE
import Derived.Test.YtekmkgegjicjgaaGreatZRun2
namespace Go.Proofs.YtekmkgegjicjgaaGreat
open Go.Dv Go.Dv.EvL
set_option maxRecDepth 100000
set_option maxHeartbeats 16000000
attribute [local irreducible] Ok Rm Dm Om Sm Xm Cm Gm Hm Tm
theorem cd_fits {c:Cs}(h:CdIn c):CsFits c:=by
 obtain ⟨_,h2,_,h4,h5⟩:=h
 have:=h4.1
 exact ⟨by omega,by omega,by omega,by omega⟩
theorem cd_valid {c:Cs}(h:csB c=true):CdIn c:=by
 obtain ⟨h1,h2,h3,h4,h5,h6⟩:=cs_in h
 obtain ⟨_,_,h7,_⟩:=cs_small h
 refine ⟨by omega,by omega,fun x hx => ?_,⟨by omega,fun y hy => ?_⟩,by omega⟩
 ·obtain ⟨i,hi,rfl⟩:=List.mem_iff_getElem.1 hx
  have:=h3 i hi
  rw [List.getD_eq_getElem?_getD,List.getElem?_eq_getElem hi] at this
  simp only [Option.getD_some] at this
  omega
 ·obtain ⟨i,hi,rfl⟩:=List.mem_iff_getElem.1 hy
  have:=h5 i hi
  rw [List.getD_eq_getElem?_getD,List.getElem?_eq_getElem hi] at this
  simp only [Option.getD_some] at this
  unfold alB addrB minB at this
  simp only [Bool.and_eq_true,decide_eq_true_eq] at this
  exact ⟨by omega,by omega,by omega,by omega⟩
theorem cd_new {m:Int}(h:0≤m∧m≤10000):CdIn (newC (newM m)):=by
 have hm : -100000≤newM m∧newM m≤100000:=by unfold newM; split<;>omega
 exact ⟨hm,by simp [newC],by simp [newC],⟨by simp [newC],by simp [newC]⟩,by simp [newC,noLg]⟩
theorem cd_of {m:Int}{xs:List Hd}{ys:List Al}(h1:RcIn m xs)(h2:AsIn 40 ys):CdIn ⟨m,xs,ys,noLg⟩:=by
 obtain ⟨p1,p2,p3⟩:=h1
 exact ⟨⟨by simp only []; omega,by simp only []; omega⟩,by simp only []; omega,p3,as_up h2 (by omega),by simp [noLg]⟩
theorem cd_step {c:Cs}(h:csB c=true)(t:Txt):CdIn (exO c t).1:=cd_valid (ex_valid h t)
def csC (c:Cs):List DV:=[.p (.int .i64 c.mn),.p (.sl 10 (c.hl.map Hd.pv)),.p (.sl 5 (c.al.map Al.pv)),.p (.str c.lg.dur),.p (.str c.lg.pend),.p (.int .i64 c.lg.cnt)]
theorem csC_eq (c:Cs):csC c=[.p (.int .i64 c.mn),.p (.sl 10 (c.hl.map Hd.pv)),.p (.sl 5 (c.al.map Al.pv)),.p (.str c.lg.dur),.p (.str c.lg.pend),.p (.int .i64 c.lg.cnt)]:=rfl
theorem cd_log {c:Cs}{x y:List UInt8}{z:Int}(h:CdIn c)(hl:x.length+y.length≤40000):CdIn ⟨c.mn,c.hl,c.al,⟨x,y,z⟩⟩:=⟨h.1,h.2.1,h.2.2.1,h.2.2.2.1,by simp only []; omega⟩
def zC:OB := .box 40 [.p (.int .i64 0),.nil,.nil,.p (.str []),.p (.str []),.p (.int .i64 0)]
def cO (c:Cs):OB := .box 40 [.p (.int .i64 c.mn),.p (.sl 10 (c.hl.map Hd.pv)),.p (.sl 5 (c.al.map Al.pv)),.p (.str c.lg.dur),.p (.str c.lg.pend),.p (.int .i64 c.lg.cnt)]
theorem k_console (code:List UInt8)(a s:Int)(hc:code.length≤65536)(ha:0≤a∧a≤600000):Ok Tryz.prog 70 [.ptr 0 0 0] [curO code a s]
  fun d H => ∃ (c:Cs) (a' s':Int),d = .p c.pv∧CdIn c∧a≤a'∧a'≤a+10000∧H=[curO code a' s']:=by
 refine ok_D hmix c_spec_l1Cur_console (by simp) ?_
 refine sF fun dc hdc => ?_; refine sA ?_
 repeat' (first|refine sA ?_|refine sO ‹_› fun dc hdc => ?_|refine sN ?_|refine sB ?_|refine sX ?_ ?_<;>(try intro h)<;>(try omega)|exact sP|refine rK ?_|exact sQ|refine sD ?_|exact sE|omega)
 refine Rm_mc rfl rfl (k_receiver _ _ _ hc (by omega)) (fun r H2 hh => ?_)
 obtain ⟨m,xs,a1,s1,rfl,h1,b1,b2,rfl⟩:=hh
 repeat' (first|refine sA ?_|refine sO ‹_› fun dc hdc => ?_|refine sN ?_|refine sB ?_|refine sX ?_ ?_<;>(try intro h)<;>(try omega)|exact sP|refine rK ?_|exact sQ|refine sD ?_|exact sE|omega)
 refine Rm_mc rfl rfl (k_alerts _ _ _ hc (by omega)) (fun r H2 hh => ?_)
 obtain ⟨ys,a2,s2,rfl,h2,c1,c2,rfl⟩:=hh
 have hcd:=cd_of h1 h2
 repeat' (first|refine sA ?_|refine sO ‹_› fun dc hdc => ?_|refine sN ?_|refine sB ?_|refine sX ?_ ?_<;>(try intro h)<;>(try omega)|exact sP|refine rK ?_|exact sQ|refine sD ?_|exact sE|omega)
 refine Rm_one hc rfl (by omega) (by omega) (fun w a3 s3 d1 d2 => ?_)
 cases w
 case' true =>
  repeat' (first|refine sA ?_|refine sO ‹_› fun dc hdc => ?_|refine sN ?_|refine sB ?_|refine sX ?_ ?_<;>(try intro h)<;>(try omega)|exact sP|refine rK ?_|exact sQ|refine sD ?_|exact sE|omega)
  refine Rm_pick hc rfl (by omega) (by omega) (fun k a4 s4 e1 e2 e3 => ?_)
  have hn:=k_sNew k
  have hcd:=cd_new (m:=k) (by omega)
  rw [cs_pv] at hn
  generalize newC (newM k)=c0 at *
  repeat' (first|refine sA ?_|refine sO ‹_› fun dc hdc => ?_|refine sN ?_|(refine Rm_o hn rfl (fun r H2 hh => ?_); obtain ⟨rfl,rfl⟩:=hh)|refine sB ?_|refine sX ?_ ?_<;>(try intro h)<;>(try omega)|exact sP|refine rK ?_|exact sQ|refine sD ?_|exact sE|omega)
  refine Rm_pick hc rfl (by omega) (by omega) (fun n a5 s5 f1 f2 f3 => ?_)
  repeat' (first|refine sA ?_|refine sO ‹_› fun dc hdc => ?_|refine sN ?_|refine sB ?_|refine sX ?_ ?_<;>(try intro h)<;>(try omega)|exact sP|refine rK ?_|exact sQ|refine sD ?_|exact sE|omega)
 case' false =>
  generalize hc0:(⟨m,xs,ys,noLg⟩:Cs)=c0 at *
  repeat' (first|refine sA ?_|refine sO ‹_› fun dc hdc => ?_|refine sN ?_|refine sB ?_|refine sX ?_ ?_<;>(try intro h)<;>(try omega)|exact sP|refine rK ?_|exact sQ|refine sD ?_|exact sE|omega)
  refine Rm_pick hc rfl (by omega) (by omega) (fun n a5 s5 f1 f2 f3 => ?_)
  repeat' (first|refine sA ?_|refine sO ‹_› fun dc hdc => ?_|refine sN ?_|refine sB ?_|refine sX ?_ ?_<;>(try intro h)<;>(try omega)|exact sP|refine rK ?_|exact sQ|refine sD ?_|exact sE|omega)
 all_goals
  have g1:a≤a5∧a5≤a+4100:=by omega
  refine Dm_loop [0,2,3,4] (fun k ds H' => ∃ (c:Cs) (a' s':Int),k≤3∧CdIn c∧a≤a'∧a'+500 * k≤a+5700∧ds=[.ptr 0 0 0,.ptr 1 0 0,.ptr 2 0 0,.p (.int .i64 k)]∧H'=[curO code a' s',zC,cO c]) n ⟨c0,a5,s5,by omega,hcd,by omega,by omega,rfl,by (first|rfl|(subst hc0; rfl))⟩ ?_
  clear hcd
  rintro k ds H' ⟨c,a',s',i1,hcd,i3,i4,rfl,rfl⟩ -
  unfold zC cO
  have hg:=k_l28Good c (cd_fits hcd)
  have hcm:=fun (a s:Int) (h:0≤a∧a≤700000000)=>k_command code a s c hc h hcd
  have hex:=fun (t:Txt) (h:t.length≤1048576)=>k_sExec c t (cd_fits hcd) h
  have hval:=fun (h:csB c=true) (t:Txt)=>cd_step h t
  rw [cs_pv] at hg
  simp only [cs_pv c] at hcm hex
  generalize csB c=b at *
  rcases Nat.eq_zero_or_pos k with rfl|hk
  case' inr=>cases b
  case' inr.true =>
   repeat' (first|refine sA ?_|refine sO ‹_› fun dc hdc => ?_|refine sN ?_|(refine Rm_o hg rfl (fun r H2 hh => ?_); obtain ⟨rfl,rfl⟩:=hh)|refine rW rfl (DR) ?_|refine rV (DR) ?_|(refine Rm_mc rfl rfl (hcm _ _ (by omega)) (fun r H2 hh => ?_); obtain ⟨t,a6,s6,rfl,ht,j1,j2,rfl⟩:=hh; have hx:=hex t (by omega); have hv:=hval rfl t; rw [cs_pv] at hx; generalize (exO c t).1=c2 at *; generalize (exO c t).2=rr at *)|(refine Rm_o hx rfl (fun r H2 hh => ?_); obtain ⟨rfl,rfl⟩:=hh)|(refine Tm_fin (by simp only [hideOK,newsE]; simp []) ?_)|refine sB ?_|refine sX ?_ ?_<;>(try intro h)<;>(try omega)|exact sP|refine rK ?_|exact sQ|refine sD ?_|exact sE|omega)
   all_goals exact Xm_inv_n (k - 1) (by omega) ⟨c2,a6,s6,by omega,hv,by omega,by omega,rfl,rfl⟩
 all_goals
  clear hcm hex hval
  repeat' (first|refine sA ?_|refine sO ‹_› fun dc hdc => ?_|refine sN ?_|(refine Rm_o hg rfl (fun r H2 hh => ?_); obtain ⟨rfl,rfl⟩:=hh)|refine sB ?_|refine sX ?_ ?_<;>(try intro h)<;>(try omega)|exact sP|refine rK ?_|exact sQ|refine sD ?_|exact sE|omega)
  refine Rm_one hc rfl (by omega) (by omega) (fun w a6 s6 u1 u2 => ?_)
  cases w
  case' true =>
   repeat' (first|refine sA ?_|refine sO ‹_› fun dc hdc => ?_|refine sN ?_|refine sB ?_|refine sX ?_ ?_<;>(try intro h)<;>(try omega)|exact sP|refine rK ?_|exact sQ|refine sD ?_|exact sE|omega)
   refine Rm_mc rfl rfl (k_anyLog code _ _ hc (by omega)) (fun r H2 hh => ?_)
   obtain ⟨x,y,z,a7,s7,rfl,hl,n0,n1,u3,u4,rfl⟩:=hh
   have hcd2:=cd_log (z:=z) hcd hl
   repeat' (first|refine sA ?_|refine sO ‹_› fun dc hdc => ?_|refine sN ?_|refine sB ?_|refine sX ?_ ?_<;>(try intro h)<;>(try omega)|exact sP|refine rK ?_|exact sQ|refine sD ?_|exact sE|omega)
  case' false =>
   repeat' (first|refine sA ?_|refine sO ‹_› fun dc hdc => ?_|refine sN ?_|refine sB ?_|refine sX ?_ ?_<;>(try intro h)<;>(try omega)|exact sP|refine rK ?_|exact sQ|refine sD ?_|exact sE|omega)
  all_goals skip
 all_goals first
  | exact ret_gen _ _ _ rfl rfl rfl ⟨c,a6,s6,rfl,hcd,by omega,by omega,rfl⟩
  | exact ret_gen _ _ _ rfl rfl rfl ⟨_,a7,s7,rfl,hcd2,by omega,by omega,rfl⟩
  | skip
end Go.Proofs.YtekmkgegjicjgaaGreat

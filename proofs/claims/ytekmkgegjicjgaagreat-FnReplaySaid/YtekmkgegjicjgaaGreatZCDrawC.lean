import Derived.Test.YtekmkgegjicjgaaGreatZIr5
import Derived.Test.YtekmkgegjicjgaaGreatZBas
import Derived.Test.YtekmkgegjicjgaaGreatZCDraw9
namespace Go.Proofs.YtekmkgegjicjgaaGreat
open Go.Dv Go.Dv.EvL
set_option maxRecDepth 100000
set_option maxHeartbeats 16000000
attribute [local irreducible] Ok Rm Dm Om Sm Xm Cm Gm Hm Tm
def DrL (d:DV)(H:Heap):Prop := ∃ (m:Int) (l:Lg),d = .tup [.p (.int .i64 m),.p l.pv]∧0≤m∧m≤10000∧l.dur.length+l.pend.length≤100000∧H=[]
theorem new_csB {m:Int}(h:minB m=true):csB (newC (newM m))=true:=by
 have:=(leads_new h).1
 unfold newM
 rw [if_pos h]
 exact this
theorem k_DrawReplayLog (code:List UInt8)(hc:code.length≤65536):Okw Tryz.prog 26 [codeP code] DrL:=by
 refine ok_D hmix c_spec_DrawReplayLog (by simp) ?_
 refine sF fun dc hdc => ?_; refine sA ?_
 repeat' (first|refine sA ?_|refine sO ‹_› fun dc hdc => ?_|refine sN ?_|unfold codeP|refine sB ?_|refine sX ?_ ?_<;>(try intro h)<;>(try omega)|exact sP|refine rK ?_|exact sQ|refine sD ?_|exact sE|omega)
 refine Rm_among 0 10000 hc rfl rfl rfl (by omega) (by omega) (by first|decide|(simp; omega)) (by decide) (fun m a1 s1 b1 b2 b3 b4 b5 => ?_)
 clear b3
 have hn:=k_sNew m
 have hcd:=new_csB (m:=m)
 generalize minB m=bm at *
 generalize newC (newM m)=c0 at *
 rw [cs_pv] at hn
 cases bm
 case' false =>
  repeat' (first|refine sA ?_|refine sO ‹_› fun dc hdc => ?_|refine sN ?_|(refine Rm_o hn rfl (fun r H2 hh => ?_); obtain ⟨rfl,rfl⟩:=hh)|refine sB ?_|refine sX ?_ ?_<;>(try intro h)<;>(try omega)|exact sP|refine rK ?_|exact sQ|refine sD ?_|exact sE|omega)
 case' true =>
  have hv0:=hcd rfl
  repeat' (first|refine sA ?_|refine sO ‹_› fun dc hdc => ?_|refine sN ?_|(refine Rm_o hn rfl (fun r H2 hh => ?_); obtain ⟨rfl,rfl⟩:=hh)|refine sB ?_|refine sX ?_ ?_<;>(try intro h)<;>(try omega)|exact sP|refine rK ?_|exact sQ|refine sD ?_|exact sE|omega)
  refine Rm_pick hc rfl (by omega) (by omega) (fun n a2 s2 e1 e2 e3 => ?_)
  repeat' (first|refine sA ?_|refine sO ‹_› fun dc hdc => ?_|refine sN ?_|refine sB ?_|refine sX ?_ ?_<;>(try intro h)<;>(try omega)|exact sP|refine rK ?_|exact sQ|refine sD ?_|exact sE|omega)
  refine Dm_loop [3,4,5,6,8] (fun k ds H' => ∃ (c:Cs) (a' s':Int),k≤5∧csB c=true∧0≤a'∧a'+500 * k≤6000∧ds=[.ptr 0 0 0,.ptr 1 0 0,.p (.int .i64 m),.ptr 2 0 0,.p (.int .i64 k)]∧H'=[.box 38 [.p (.str []),.p (.str []),.p (.int .i64 0)],curO code a' s',cO c]) n ⟨c0,a2,s2,by omega,hv0,by omega,by omega,rfl,rfl⟩ ?_
  clear hv0 hcd hn
  rintro k ds H' ⟨c,a',s',i1,i2,i3,i4,rfl,rfl⟩ -
  unfold cO
  have hcd:=cd_valid i2
  have hcm:=fun (a s:Int) (h:0≤a∧a≤700000000)=>k_command code a s c hc h hcd
  have hex:=fun (t:Txt) (h:t.length≤1048576)=>k_sExec c t (cd_fits hcd) h
  have hval:=fun (t:Txt)=>ex_valid i2 t
  have hsm:=cs_small i2
  simp only [cs_pv c] at hcm hex
  repeat' (first|refine sA ?_|refine sO ‹_› fun dc hdc => ?_|refine sN ?_|refine rW rfl (DR) ?_|refine rV (DR) ?_|(refine Rm_mc rfl rfl (hcm _ _ (by omega)) (fun r H2 hh => ?_); obtain ⟨t,a6,s6,rfl,ht,j1,j2,rfl⟩:=hh; have hx:=hex t (by omega); have hv:=hval t; rw [cs_pv] at hx; generalize (exO c t).1=c2 at *; generalize (exO c t).2=rr at *)|(refine Rm_o hx rfl (fun r H2 hh => ?_); obtain ⟨rfl,rfl⟩:=hh)|(refine Tm_fin (by simp only [hideOK,newsE]; simp []) ?_)|refine sB ?_|refine sX ?_ ?_<;>(try intro h)<;>(try omega)|exact sP|refine rK ?_|exact sQ|refine sD ?_|exact sE|omega)
  all_goals first
   | exact Xm_inv_n (k - 1) (by omega) ⟨c2,a6,s6,by omega,hv,by omega,by omega,rfl,rfl⟩
   | skip
 case' true =>
  refine Rm_one hc rfl (by omega) (by omega) (fun w a4 s4 k1 k2 => ?_)
  cases w
 case' true.true =>
  have hlr:=fun (a s:Int) (h:0≤a∧a≤1000000)=>k_logRecord code a s hc h
  repeat' (first|refine sA ?_|refine sO ‹_› fun dc hdc => ?_|refine sN ?_|refine dr ?_|refine dr3 ?_|(refine Rm_mc rfl rfl (hlr _ _ (by omega)) (fun r H2 hh => ?_); obtain ⟨e,a5,s5,rfl,he,g3,g4,rfl⟩:=hh; have ha:=k_sAppendW c.lg e (by omega) ⟨hsm.2.2.2.1,hsm.2.2.2.2⟩ he; simp only [lg_pv,rec_pv] at ha ⊢)|(refine Rm_o ha rfl (fun r H2 hh => ?_); obtain ⟨x,y,z,b,rfl,rfl,g5,g6,g7⟩:=hh)|(refine Tm_fin (by simp only [hideOK,newsE,List.length_cons,List.length_nil,Nat.reduceSub,Nat.reduceAdd,List.take_zero,List.map_nil]; simp [refsL,refs,cur_eq,bkL,bk,codeP]) ?_)|refine sB ?_|refine sX ?_ ?_<;>(try intro h)<;>(try omega)|exact sP|refine rK ?_|exact sQ|refine sD ?_|exact sE|omega)
 case' true.false =>
  repeat' (first|refine sA ?_|refine sO ‹_› fun dc hdc => ?_|refine sN ?_|refine dr ?_|refine dr3 ?_|(refine Tm_fin (by simp only [hideOK,newsE,List.length_cons,List.length_nil,Nat.reduceSub,Nat.reduceAdd,List.take_zero,List.map_nil]; simp [refsL,refs,cur_eq,codeP]) ?_)|refine sB ?_|refine sX ?_ ?_<;>(try intro h)<;>(try omega)|exact sP|refine rK ?_|exact sQ|refine sD ?_|exact sE|omega)
 all_goals first
  | exact ret_gen _ _ _ rfl rfl rfl ⟨m,⟨x,y,z⟩,rfl,by omega,by omega,by simp only []; omega,rfl⟩
  | exact ret_gen _ _ _ rfl rfl rfl ⟨m,c.lg,rfl,by omega,by omega,by omega,rfl⟩
  | exact ret_gen _ _ _ rfl rfl rfl ⟨m,⟨[],[],0⟩,rfl,by omega,by omega,by simp,rfl⟩
  | skip
end Go.Proofs.YtekmkgegjicjgaaGreat

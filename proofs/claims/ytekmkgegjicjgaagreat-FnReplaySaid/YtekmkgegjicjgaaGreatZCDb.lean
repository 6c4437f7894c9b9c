import Derived.Test.YtekmkgegjicjgaaGreatZBas
import Derived.Test.YtekmkgegjicjgaaGreatZCDa
import Derived.Test.YtekmkgegjicjgaaGreatZRcD
import Derived.Test.YtekmkgegjicjgaaGreatZCDc
namespace Go.Proofs.YtekmkgegjicjgaaGreat
open Go.Dv Go.Dv.EvL
set_option maxRecDepth 100000
set_option maxHeartbeats 16000000
attribute [local irreducible] Ok Rm Dm Om Sm Xm Cm Gm Hm Tm
def RcIn (m:Int)(xs:List Hd):Prop:=(-1≤m∧m≤10000)∧xs.length≤7 ∧ ∀ x∈xs,0≤x.addr∧x.addr≤65536
theorem rc_of {m n:Int}{xs:List Hd}(h:recB2 n xs=true)(hm : -1≤m∧m≤10000):RcIn m xs:=by
 obtain ⟨_,h2,_,h4⟩:=rec2_in h
 refine ⟨hm,by omega,fun x hx => ?_⟩
 obtain ⟨i,hi,rfl⟩:=List.mem_iff_getElem.1 hx
 have:=(hd_at (h4 i hi)).1
 rw [List.getD_eq_getElem?_getD,List.getElem?_eq_getElem hi] at this
 show 0≤(xs[i]).addr∧(xs[i]).addr≤65536
 have e:(some xs[i]).getD default=xs[i]:=rfl
 rw [e] at this
 omega
def RcQ (code:List UInt8)(a:Int)(d:DV)(H:Heap):Prop := ∃ (m:Int) (xs:List Hd) (a' s':Int),RcIn m xs∧a≤a'∧a'≤a+2000 ∧
 ((d = .p (.agg [.int .i64 m,.sl 10 (xs.map Hd.pv)])∧H=[curO code a' s'])∨(xs=[]∧d = .p (.agg [.int .i64 m,.sl 1 []])∧H=[curO code a' s']) ∨
  (d = .agg [.p (.int .i64 m),.own 1 0 xs.length]∧H=[curO code a' s',.arr 111 10 (xs.map Hd.pv)]))
theorem k_receiver0 (code:List UInt8)(a s:Int)(hc:code.length≤65536)(ha:0≤a∧a≤800000000):Ok Tryz.prog 129 [.ptr 0 0 0] [curO code a s] (RcQ code a):=by
 refine ok_D hmix c_spec_l1Cur_receiver (by simp) ?_
 refine sA ?_
 repeat' (first|refine sA ?_|refine sN ?_|refine sB ?_|refine sX ?_ ?_<;>(try intro h)<;>(try omega)|exact sP|refine rK ?_|exact sQ|refine sD ?_|rfl|exact sE|omega)
 refine Rm_pick hc rfl (by omega) (by omega) (fun m0 a1 s1 b1 b2 b3 => ?_)
 repeat' (first|refine sA ?_|refine sN ?_|refine sB ?_|refine sX ?_ ?_<;>(try intro h)<;>(try omega)|exact sP|refine rK ?_|exact sQ|refine sD ?_|rfl|exact sE|omega)
 refine Rm_pick hc rfl (by omega) (by omega) (fun n a2 s2 c1 c2 c3 => ?_)
 repeat' (first|refine sA ?_|refine sN ?_|refine sB ?_|refine sX ?_ ?_<;>(try intro h)<;>(try omega)|exact sP|refine rK ?_|exact sQ|refine sD ?_|rfl|exact sE|omega)
 refine Dm_loop [0,2,3,4] (fun k ds H' => ∃ (m:Nat) (ys:List Hd) (R:DV) (a' s':Int),k≤8∧m+4 * k≤9+32∧a2≤a'∧a'≤a2+150 * (8 - k)∧ds=[.ptr 0 0 0,.ptr 1 0 0,.ptr 2 0 0,.p (.int .i64 k)] ∧
  H'=[curO code a' s',.box 36 [.p (.int .i64 0),.nil],.box 36 [.p (.int .i64 m),R]] ∧
  ((ys=[]∧R = .nil)∨(R = .p (.sl 10 (ys.map Hd.pv))∧recB2 m ys=true))) n ⟨m0,[],.nil,a2,s2,by omega,by omega,by omega,by omega,rfl,rfl,.inl ⟨rfl,rfl⟩⟩ ?_
 rintro k ds H' ⟨m,ys,R,a',s',g1,g2,g3,g4,rfl,rfl,hR⟩ -
 rcases Nat.eq_zero_or_pos k with rfl|hk0
 ·have hin:RcIn m ys:=by
   rcases hR with ⟨rfl,_⟩|⟨_,h⟩
   ·exact ⟨by omega,by simp,by simp⟩
   ·exact rc_of h (by omega)
  have hyl:=hin.2.1
  rcases hR with ⟨rfl,rfl⟩|⟨rfl,hrv⟩
  ·repeat' (first|refine sA ?_|refine sN ?_|refine sB ?_|refine sX ?_ ?_<;>(try intro h)<;>(try omega)|exact sP|refine rK ?_|exact sQ|refine sD ?_|rfl|exact sE|omega)
   refine Rm_pick hc rfl (by omega) (by omega) (fun w a3 s3 d1 d2 d3 => ?_)
   repeat' (first|refine sA ?_|refine sN ?_|refine sB ?_|refine sX ?_ ?_<;>(try intro h)<;>(try omega)|exact sP|refine rK ?_|exact sQ|refine sD ?_|rfl|exact sE|omega)
   ·refine Rm_among (-1) 10000 hc rfl rfl rfl (by omega) (by omega) (by first|decide|(simp; omega)) (by decide) (fun mm a4 s4 e1 e2 e3 e4 e5 => ?_)
    clear e3
    repeat' (first|refine sA ?_|refine sN ?_|refine sB ?_|refine sX ?_ ?_<;>(try intro h)<;>(try omega)|exact sP|refine rK ?_|exact sQ|refine sD ?_|rfl|exact sE|omega)
    exact ret_gen _ _ _ rfl rfl rfl ⟨mm,[],a4,s4,⟨by omega,by simp,by simp⟩,by omega,by omega,.inr (.inl ⟨rfl,rfl,rfl⟩)⟩
   ·refine Rm_among (0) 65536 hc rfl rfl rfl (by omega) (by omega) (by first|decide|(simp; omega)) (by decide) (fun ad a4 s4 e1 e2 e3 e4 e5 => ?_)
    clear e3
    repeat' (first|refine sA ?_|refine sN ?_|refine sB ?_|refine sX ?_ ?_<;>(try intro h)<;>(try omega)|exact sP|refine rK ?_|exact sQ|refine sD ?_|rfl|exact sE|omega)
    refine Rm_pick hc rfl (by omega) (by omega) (fun p a5 s5 f1 f2 f3 => ?_)
    repeat' (first|refine sA ?_|refine sN ?_|refine sB ?_|refine sX ?_ ?_<;>(try intro h)<;>(try omega)|exact sP|refine rK ?_|exact sQ|refine sD ?_|rfl|exact sE|omega)
    refine Rm_pick hc rfl (by omega) (by omega) (fun q a6 s6 g5 g6 g7 => ?_)
    repeat' (first|refine sA ?_|refine sN ?_|refine sB ?_|refine sX ?_ ?_<;>(try intro h)<;>(try omega)|exact sP|refine rK ?_|exact sQ|refine sD ?_|rfl|exact sE|omega)
    exact ret_gen _ _ _ rfl rfl rfl ⟨m,[⟨ad,false,0,0,-1,false,0,0,(p:Int) - 1,q⟩],a6,s6,⟨by omega,by simp,by simp; omega⟩,by omega,by omega,.inr (.inr ⟨rfl,rfl⟩)⟩
   ·exact ret_gen _ _ _ rfl rfl rfl ⟨m,[],a3,s3,⟨by omega,by simp,by simp⟩,by omega,by omega,.inr (.inl ⟨rfl,rfl,rfl⟩)⟩
  ·have hr6:=(rec2_in hrv).2.1
   repeat' (first|refine sA ?_|refine sN ?_|refine sB ?_|refine sX ?_ ?_<;>(try intro h)<;>(try omega)|exact sP|refine rK ?_|exact sQ|refine sD ?_|rfl|exact sE|omega)
   refine Rm_pick hc rfl (by omega) (by omega) (fun w a3 s3 d1 d2 d3 => ?_)
   repeat' (first|refine sA ?_|refine sN ?_|refine sB ?_|refine sX ?_ ?_<;>(try intro h)<;>(try omega)|exact sP|refine rK ?_|exact sQ|refine sD ?_|rfl|exact sE|omega)
   ·refine Rm_among (-1) 10000 hc rfl rfl rfl (by omega) (by omega) (by first|decide|(simp; omega)) (by decide) (fun mm a4 s4 e1 e2 e3 e4 e5 => ?_)
    clear e3
    repeat' (first|refine sA ?_|refine sN ?_|refine sB ?_|refine sX ?_ ?_<;>(try intro h)<;>(try omega)|exact sP|refine rK ?_|exact sQ|refine sD ?_|rfl|exact sE|omega)
    exact ret_gen _ _ _ rfl rfl rfl ⟨mm,ys,a4,s4,rc_of hrv (by omega),by omega,by omega,.inl ⟨rfl,rfl⟩⟩
   ·refine Rm_among (0) 65536 hc rfl rfl rfl (by omega) (by omega) (by first|decide|(simp; omega)) (by decide) (fun ad a4 s4 e1 e2 e3 e4 e5 => ?_)
    clear e3
    repeat' (first|refine sA ?_|refine sN ?_|refine sB ?_|refine sX ?_ ?_<;>(try intro h)<;>(try omega)|exact sP|refine rK ?_|exact sQ|refine sD ?_|rfl|exact sE|omega)
    refine Rm_pick hc rfl (by omega) (by omega) (fun p a5 s5 f1 f2 f3 => ?_)
    repeat' (first|refine sA ?_|refine sN ?_|refine sB ?_|refine sX ?_ ?_<;>(try intro h)<;>(try omega)|exact sP|refine rK ?_|exact sQ|refine sD ?_|rfl|exact sE|omega)
    refine Rm_pick hc rfl (by omega) (by omega) (fun q a6 s6 g5 g6 g7 => ?_)
    repeat' (first|refine sA ?_|refine sN ?_|refine sB ?_|refine sX ?_ ?_<;>(try intro h)<;>(try omega)|exact sP|refine rK ?_|exact sQ|refine sD ?_|rfl|exact sE|omega)
    refine ret_gen _ _ _ rfl rfl rfl ⟨m,ys++[⟨ad,false,0,0,-1,false,0,0,(p:Int) - 1,q⟩],a6,s6,⟨by omega,by simp; omega,fun x hx => ?_⟩,by omega,by omega,.inr (.inr ⟨?_,?_⟩)⟩
    ·simp only [List.mem_append,List.mem_singleton] at hx
     rcases hx with hx|rfl
     ·exact hin.2.2 x hx
     ·exact ⟨e1,e2⟩
    ·rw [List.length_append]; rfl
    ·rw [List.map_append]; rfl
   ·exact ret_gen _ _ _ rfl rfl rfl ⟨m,ys,a3,s3,rc_of hrv (by omega),by omega,by omega,.inl ⟨rfl,rfl⟩⟩
 ·rcases hR with ⟨rfl,rfl⟩|⟨rfl,hrv⟩
  ·skip
   repeat' (first|refine sA ?_|refine sN ?_|refine Dm_draw [2] (by simp) ?_|refine sB ?_|refine sX ?_ ?_<;>(try intro h)<;>(try omega)|exact sP|refine rK ?_|exact sQ|refine sD ?_|rfl|exact sE|omega)
   all_goals
    refine Rm_mc rfl rfl (k_message _ _ _ hc (by omega)) (fun r H2 hh => ?_)
    obtain ⟨t,a3,s3,rfl,ht,d1,d2,rfl⟩:=hh
    repeat' (first|refine sA ?_|refine sN ?_|refine sB ?_|refine sX ?_ ?_<;>(try intro h)<;>(try omega)|exact sP|refine rK ?_|exact sQ|refine sD ?_|rfl|exact sE|omega)
   all_goals
    refine Rm_pick hc rfl (by omega) (by omega) (fun j a4 s4 e1 e2 e3 => ?_)
    repeat' (first|refine sA ?_|refine sN ?_|refine sB ?_|refine sX ?_ ?_<;>(try intro h)<;>(try omega)|exact sP|refine rK ?_|exact sQ|refine sD ?_|rfl|exact sE|omega)
   all_goals
    have hRc:=ok_arg_nil (k:=1) (k2:=10) (k_sReceive m [] t ((m+j:Nat):Int) (by simp) (by omega))
    have hdef:rcvB m [] ((m+j:Nat):Int) (rpfO t)=true→recB2 ((m+j:Nat):Int) (rcvL [] (rpfO t).1 ((m+j:Nat):Int))=true:=fun h=>by
     unfold rcvB at h
     simp only [Bool.and_eq_true] at h
     exact h.2
    unfold rcvP at hRc
    generalize rcvL [] (rpfO t).1 ((m+j:Nat):Int)=Y at *
    generalize rcvB m [] ((m+j:Nat):Int) (rpfO t)=b at *
    cases b
    ·simp only [Bool.false_eq_true,if_false] at hRc
     refine Rm_o hRc rfl (fun r H2 hh => ?_)
     obtain ⟨rfl,rfl⟩:=hh
     repeat' (first|refine sA ?_|refine sN ?_|(refine Tm_fin (by simp only [hideOK,newsE,List.length_cons,List.length_nil,Nat.reduceSub,Nat.reduceAdd,List.take_succ_cons,List.take_zero,List.map_cons,List.map_nil]; simp [refsL,refs,cur_eq,codeP]) ?_)|refine sB ?_|refine sX ?_ ?_<;>(try intro h)<;>(try omega)|exact sP|refine rK ?_|exact sQ|refine sD ?_|rfl|exact sE|omega)
     exact Xm_inv_n (k - 1) (by omega) ⟨m,[],_,a4,s4,by omega,by omega,by omega,by omega,rfl,rfl,.inl ⟨rfl,rfl⟩⟩
    ·simp only [if_true] at hRc
     refine Rm_o hRc rfl (fun r H2 hh => ?_)
     obtain ⟨rfl,rfl⟩:=hh
     repeat' (first|refine sA ?_|refine sN ?_|(refine Tm_fin (by simp only [hideOK,newsE,List.length_cons,List.length_nil,Nat.reduceSub,Nat.reduceAdd,List.take_succ_cons,List.take_zero,List.map_cons,List.map_nil]; simp [refsL,refs,cur_eq,codeP]) ?_)|refine sB ?_|refine sX ?_ ?_<;>(try intro h)<;>(try omega)|exact sP|refine rK ?_|exact sQ|refine sD ?_|rfl|exact sE|omega)
     exact Xm_inv_n (k - 1) (by omega) ⟨m+j,Y,.p (.sl 10 (Y.map Hd.pv)),a4,s4,by omega,by omega,by omega,by omega,rfl,rfl,.inr ⟨rfl,hdef rfl⟩⟩
  ·have hr6:=(rec2_in hrv).2.1
   repeat' (first|refine sA ?_|refine sN ?_|refine Dm_draw [2] (by simp) ?_|refine sB ?_|refine sX ?_ ?_<;>(try intro h)<;>(try omega)|exact sP|refine rK ?_|exact sQ|refine sD ?_|rfl|exact sE|omega)
   all_goals
    refine Rm_mc rfl rfl (k_message _ _ _ hc (by omega)) (fun r H2 hh => ?_)
    obtain ⟨t,a3,s3,rfl,ht,d1,d2,rfl⟩:=hh
    repeat' (first|refine sA ?_|refine sN ?_|refine sB ?_|refine sX ?_ ?_<;>(try intro h)<;>(try omega)|exact sP|refine rK ?_|exact sQ|refine sD ?_|rfl|exact sE|omega)
   all_goals
    refine Rm_pick hc rfl (by omega) (by omega) (fun j a4 s4 e1 e2 e3 => ?_)
    repeat' (first|refine sA ?_|refine sN ?_|refine sB ?_|refine sX ?_ ?_<;>(try intro h)<;>(try omega)|exact sP|refine rK ?_|exact sQ|refine sD ?_|rfl|exact sE|omega)
   all_goals
    have hRc:=k_sReceive m ys t ((m+j:Nat):Int) (by omega) (by omega)
    have hdef:rcvB m ys ((m+j:Nat):Int) (rpfO t)=true→recB2 ((m+j:Nat):Int) (rcvL ys (rpfO t).1 ((m+j:Nat):Int))=true:=fun h=>by
     unfold rcvB at h
     simp only [Bool.and_eq_true] at h
     exact h.2
    unfold rcvP at hRc
    generalize rcvL ys (rpfO t).1 ((m+j:Nat):Int)=Y at *
    generalize rcvB m ys ((m+j:Nat):Int) (rpfO t)=b at *
    cases b
    ·simp only [Bool.false_eq_true,if_false] at hRc
     refine Rm_o hRc rfl (fun r H2 hh => ?_)
     obtain ⟨rfl,rfl⟩:=hh
     repeat' (first|refine sA ?_|refine sN ?_|(refine Tm_fin (by simp only [hideOK,newsE,List.length_cons,List.length_nil,Nat.reduceSub,Nat.reduceAdd,List.take_succ_cons,List.take_zero,List.map_cons,List.map_nil]; simp [refsL,refs,cur_eq,codeP]) ?_)|refine sB ?_|refine sX ?_ ?_<;>(try intro h)<;>(try omega)|exact sP|refine rK ?_|exact sQ|refine sD ?_|rfl|exact sE|omega)
     exact Xm_inv_n (k - 1) (by omega) ⟨m,ys,_,a4,s4,by omega,by omega,by omega,by omega,rfl,rfl,.inr ⟨rfl,hrv⟩⟩
    ·simp only [if_true] at hRc
     refine Rm_o hRc rfl (fun r H2 hh => ?_)
     obtain ⟨rfl,rfl⟩:=hh
     repeat' (first|refine sA ?_|refine sN ?_|(refine Tm_fin (by simp only [hideOK,newsE,List.length_cons,List.length_nil,Nat.reduceSub,Nat.reduceAdd,List.take_succ_cons,List.take_zero,List.map_cons,List.map_nil]; simp [refsL,refs,cur_eq,codeP]) ?_)|refine sB ?_|refine sX ?_ ?_<;>(try intro h)<;>(try omega)|exact sP|refine rK ?_|exact sQ|refine sD ?_|rfl|exact sE|omega)
     exact Xm_inv_n (k - 1) (by omega) ⟨m+j,Y,.p (.sl 10 (Y.map Hd.pv)),a4,s4,by omega,by omega,by omega,by omega,rfl,rfl,.inr ⟨rfl,hdef rfl⟩⟩
end Go.Proofs.YtekmkgegjicjgaaGreat
namespace Go.Proofs.YtekmkgegjicjgaaGreat
open Go.Dv Go.Dv.EvL
set_option maxRecDepth 100000
set_option maxHeartbeats 16000000
attribute [local irreducible] Ok Rm Dm Om Sm Xm Cm Gm Hm Tm
theorem pl_cur {code:List UInt8}{a s:Int}{H:Heap} : ∀ ob∈List.take 1 (curO code a s::H),isPl ob:=by
 intro ob ho
 simp only [List.take_succ_cons,List.take_zero,List.mem_singleton] at ho
 subst ho
 exact ⟨_,rfl⟩
theorem k_receiver (code:List UInt8)(a s:Int)(hc:code.length≤65536)(ha:0≤a∧a≤800000000):Ok Tryz.prog 129 [.ptr 0 0 0] [curO code a s]
  fun d H => ∃ (m:Int) (xs:List Hd) (a' s':Int),d = .p (.agg [.int .i64 m,.sl 10 (xs.map Hd.pv)])∧RcIn m xs∧a≤a'∧a'≤a+2000∧H=[curO code a' s']:=by
 refine ok_res_nil (Q:=fun d H => ∃ (m:Int) (xs:List Hd) (a' s':Int),RcIn m xs∧a≤a'∧a'≤a+2000∧H=[curO code a' s']∧(d = .p (.agg [.int .i64 m,.sl 10 (xs.map Hd.pv)])∨(xs=[]∧d = .p (.agg [.int .i64 m,.sl 1 []])))) 1 10 (ok_frz (k_receiver0 code a s hc ha) ?_) ?_
 ·rintro d H ⟨m,xs,a',s',h1,h2,h3,h4⟩
  rcases h4 with ⟨rfl,rfl⟩|⟨rfl,rfl,rfl⟩|⟨rfl,rfl⟩
  ·exact ⟨pl_cur,_,.inl ⟨_,rfl,rfl⟩,m,xs,a',s',h1,h2,h3,rfl,.inl rfl⟩
  ·exact ⟨pl_cur,_,.inl ⟨_,rfl,rfl⟩,m,[],a',s',h1,h2,h3,rfl,.inr ⟨rfl,rfl⟩⟩
  ·refine ⟨pl_cur,.p (.agg [.int .i64 m,.sl 10 (xs.map Hd.pv)]),.inl ⟨_,?_,rfl⟩,m,xs,a',s',h1,h2,h3,rfl,.inl rfl⟩
   simp [hid,viewOf,viewOfs,List.take_of_length_le]
 ·rintro d H ⟨m,xs,a',s',h1,h2,h3,h4,h5⟩
  rcases h5 with h5|⟨rfl,h5⟩
  ·exact .inl ⟨m,xs,a',s',h5,h1,h2,h3,h4⟩
  ·exact .inr ⟨_,h5,m,[],a',s',rfl,h1,h2,h3,h4⟩
theorem k_alerts (code:List UInt8)(a s:Int)(hc:code.length≤65536)(ha:0≤a∧a≤800000000):Ok Tryz.prog 130 [.ptr 0 0 0] [curO code a s]
  fun d H => ∃ (ys:List Al) (a' s':Int),d = .p (.sl 5 (ys.map Al.pv))∧AsIn 40 ys∧a≤a'∧a'≤a+2000∧H=[curO code a' s']:=by
 refine ok_frz (k_alerts0 code a s hc ha) ?_
 rintro d H ⟨ys,a',s',h1,h2,h3,rfl,rfl⟩
 refine ⟨pl_cur,.p (.sl 5 (ys.map Al.pv)),.inl ⟨_,?_,rfl⟩,ys,a',s',rfl,h1,h2,h3,rfl⟩
 simp [hid,viewOf,List.take_of_length_le]
end Go.Proofs.YtekmkgegjicjgaaGreat

import Derived.Test.YtekmkgegjicjgaaGreatZBas
import Derived.Test.YtekmkgegjicjgaaGreatZCu
import Derived.Test.YtekmkgegjicjgaaGreatZCon
import Derived.Test.YtekmkgegjicjgaaGreatZAlA
namespace Go.Proofs.YtekmkgegjicjgaaGreat
open Go.Dv Go.Dv.EvL
set_option maxRecDepth 100000
set_option maxHeartbeats 16000000
attribute [local irreducible] Ok Rm Dm Om Sm Xm Cm Gm Hm Tm
def AlIn (x:Al):Prop:=(-100000≤x.low∧x.low≤100000)∧(-100000≤x.high∧x.high≤100000)∧(-100000≤x.lvl∧x.lvl≤100000)∧(-100000≤x.since∧x.since≤100000)
theorem k_alert (code:List UInt8)(a s:Int)(hc:code.length≤65536)(ha:0≤a∧a≤900000000):Ok Tryz.prog 181 [.ptr 0 0 0] [curO code a s]
  fun d H => ∃ (x:Al) (a' s':Int),d = .p x.pv∧AlIn x∧a≤a'∧a'≤a+20∧H=[curO code a' s']:=by
 refine ok_D hmix c_spec_l1Cur_alert (by simp) ?_
 refine sA ?_
 repeat' (first|refine sA ?_|refine sN ?_|refine sB ?_|refine sX ?_ ?_<;>(try intro h)<;>(try omega)|exact sP|refine rK ?_|exact sQ|refine sD ?_|rfl|exact sE|omega)
 refine Rm_among 1 300 hc rfl rfl rfl (by omega) (by omega) (by first|decide|(simp; omega)) (by decide) (fun lo a1 s1 b1 b2 b3 b4 b5 => ?_)
 clear b3
 repeat' (first|refine sA ?_|refine sN ?_|refine sB ?_|refine sX ?_ ?_<;>(try intro h)<;>(try omega)|exact sP|refine rK ?_|exact sQ|refine sD ?_|rfl|exact sE|omega)
 refine Rm_pick hc rfl (by omega) (by omega) (fun p a2 s2 c1 c2 c3 => ?_)
 repeat' (first|refine sA ?_|refine sN ?_|refine sB ?_|refine sX ?_ ?_<;>(try intro h)<;>(try omega)|exact sP|refine rK ?_|exact sQ|refine sD ?_|rfl|exact sE|omega)
 refine Rm_pick hc rfl (by omega) (by omega) (fun q a3 s3 d1 d2 d3 => ?_)
 repeat' (first|refine sA ?_|refine sN ?_|refine sB ?_|refine sX ?_ ?_<;>(try intro h)<;>(try omega)|exact sP|refine rK ?_|exact sQ|refine sD ?_|rfl|exact sE|omega)
 refine Rm_pick hc rfl (by omega) (by omega) (fun t a4 s4 e1 e2 e3 => ?_)
 repeat' (first|refine sA ?_|refine sN ?_|refine sB ?_|refine sX ?_ ?_<;>(try intro h)<;>(try omega)|exact sP|refine rK ?_|exact sQ|refine sD ?_|rfl|exact sE|omega)
 refine Rm_one hc rfl (by omega) (by omega) (fun se a5 s5 f1 f2 => ?_)
 repeat' (first|refine sA ?_|refine sN ?_|refine sB ?_|refine sX ?_ ?_<;>(try intro h)<;>(try omega)|exact sP|refine rK ?_|exact sQ|refine sD ?_|rfl|exact sE|omega)
 refine Rm_pick hc rfl (by omega) (by omega) (fun w a6 s6 g1 g2 g3 => ?_)
 repeat' (first|refine sA ?_|refine sN ?_|refine sB ?_|refine sX ?_ ?_<;>(try intro h)<;>(try omega)|exact sP|refine rK ?_|exact sQ|refine sD ?_|rfl|exact sE|omega)
 ·refine Rm_among 1 65536 hc rfl rfl rfl (by omega) (by omega) (by first|decide|simp) (by intro x hx; simp only [List.mem_cons,List.not_mem_nil,or_false] at hx; omega) (fun hi a7 s7 i1 i2 i3 i4 i5 => ?_)
  clear i3
  repeat' (first|refine sA ?_|refine sN ?_|refine sB ?_|refine sX ?_ ?_<;>(try intro h)<;>(try omega)|exact sP|refine rK ?_|exact sQ|refine sD ?_|rfl|exact sE|omega)
  exact ret_gen _ _ _ rfl rfl rfl ⟨⟨lo,hi,1+q,t,se⟩,a7,s7,rfl,⟨by constructor<;>simp only<;>omega,by constructor<;>simp only<;>omega,by constructor<;>simp only<;>omega,by constructor<;>simp only<;>omega⟩,by omega,by omega,rfl⟩
 ·refine Rm_among 0 3 hc rfl rfl rfl (by omega) (by omega) (by first|decide|(simp; omega)) (by decide) (fun lv a7 s7 i1 i2 i3 i4 i5 => ?_)
  clear i3
  repeat' (first|refine sA ?_|refine sN ?_|refine sB ?_|refine sX ?_ ?_<;>(try intro h)<;>(try omega)|exact sP|refine rK ?_|exact sQ|refine sD ?_|rfl|exact sE|omega)
  exact ret_gen _ _ _ rfl rfl rfl ⟨⟨lo,lo+1+p,lv,t,se⟩,a7,s7,rfl,⟨by constructor<;>simp only<;>omega,by constructor<;>simp only<;>omega,by constructor<;>simp only<;>omega,by constructor<;>simp only<;>omega⟩,by omega,by omega,rfl⟩
 ·refine Rm_among (-1) 10000 hc rfl rfl rfl (by omega) (by omega) (by first|decide|(simp; omega)) (by decide) (fun si a7 s7 i1 i2 i3 i4 i5 => ?_)
  clear i3
  repeat' (first|refine sA ?_|refine sN ?_|refine sB ?_|refine sX ?_ ?_<;>(try intro h)<;>(try omega)|exact sP|refine rK ?_|exact sQ|refine sD ?_|rfl|exact sE|omega)
  exact ret_gen _ _ _ rfl rfl rfl ⟨⟨lo,lo+1+p,1+q,si,se⟩,a7,s7,rfl,⟨by constructor<;>simp only<;>omega,by constructor<;>simp only<;>omega,by constructor<;>simp only<;>omega,by constructor<;>simp only<;>omega⟩,by omega,by omega,rfl⟩
 ·exact ret_gen _ _ _ rfl rfl rfl ⟨⟨lo,lo+1+p,1+q,t,se⟩,a6,s6,rfl,⟨by constructor<;>simp only<;>omega,by constructor<;>simp only<;>omega,by constructor<;>simp only<;>omega,by constructor<;>simp only<;>omega⟩,by omega,by omega,rfl⟩
def AsIn (n:Nat)(ys:List Al):Prop:=ys.length≤n ∧ ∀ y∈ys,AlIn y
theorem as_snoc {n:Nat}{ys:List Al}{x:Al}(h:AsIn n ys)(hx:AlIn x):AsIn (n+1) (ys++[x]):=by
 refine ⟨by have:=h.1; simp; omega,fun y hy => ?_⟩
 simp only [List.mem_append,List.mem_singleton] at hy
 rcases hy with hy|rfl
 ·exact h.2 y hy
 ·exact hx
theorem as_ins {n k:Nat}{ys:List Al}{x:Al}(h:AsIn n ys)(hx:AlIn x):AsIn (n+1) (ys.take k++x::ys.drop k):=by
 refine ⟨by have:=h.1; simp; omega,fun y hy => ?_⟩
 simp only [List.mem_append,List.mem_cons] at hy
 rcases hy with hy|rfl|hy
 ·exact h.2 y (List.mem_of_mem_take hy)
 ·exact hx
 ·exact h.2 y (List.mem_of_mem_drop hy)
theorem as_up {n m:Nat}{ys:List Al}(h:AsIn n ys)(hm:n≤m):AsIn m ys:=⟨by have:=h.1; omega,h.2⟩
theorem k_pairOf (code:List UInt8)(a s:Int)(ys:List Al)(hc:code.length≤65536)(ha:0≤a∧a≤900000000)(hy:AsIn 1000 ys):Ok Tryz.prog 124 [.ptr 0 0 0,.p (.sl 5 (ys.map Al.pv))] [curO code a s]
  fun d H => ∃ (x y a' s':Int),d = .tup [.p (.int .i64 x),.p (.int .i64 y)]∧(-100000≤x∧x≤100000)∧(-100000≤y∧y≤100000)∧a≤a'∧a'≤a+20∧H=[curO code a' s']:=by
 refine ok_D hmix c_spec_l1Cur_pairOf (by simp) ?_
 obtain ⟨hyl,hyi⟩:=hy
 rcases Nat.eq_zero_or_pos ys.length with h0|h0
 ·refine sA ?_
  repeat' (first|refine sA ?_|refine sN ?_|refine sB ?_|refine sX ?_ ?_<;>(try intro h)<;>(try omega)|exact sP|refine rK ?_|exact sQ|refine sD ?_|rfl|exact sE|omega)
  refine Rm_among 0 65536 hc rfl rfl rfl (by omega) (by omega) (by first|decide|(simp; omega)) (by decide) (fun x a4 s4 e1 e2 e3 e4 e5 => ?_)
  clear e3
  repeat' (first|refine sA ?_|refine sN ?_|refine sB ?_|refine sX ?_ ?_<;>(try intro h)<;>(try omega)|exact sP|refine rK ?_|exact sQ|refine sD ?_|rfl|exact sE|omega)
  refine Rm_among 1 301 hc rfl rfl rfl (by omega) (by omega) (by first|decide|(simp; omega)) (by decide) (fun y a5 s5 f1 f2 f3 f4 f5 => ?_)
  clear f3
  repeat' (first|refine sA ?_|refine sN ?_|refine sB ?_|refine sX ?_ ?_<;>(try intro h)<;>(try omega)|exact sP|refine rK ?_|exact sQ|refine sD ?_|rfl|exact sE|omega)
  exact ret_gen _ _ _ rfl rfl rfl ⟨x,y,a5,s5,rfl,by omega,by omega,by omega,by omega,rfl⟩
 ·refine sA ?_
  repeat' (first|refine sA ?_|refine sN ?_|refine sB ?_|refine sX ?_ ?_<;>(try intro h)<;>(try omega)|exact sP|refine rK ?_|exact sQ|refine sD ?_|rfl|exact sE|omega)
  refine Rm_one hc rfl (by omega) (by omega) (fun w a1 s1 b1 b2 => ?_)
  cases w
  ·repeat' (first|refine sA ?_|refine sN ?_|refine sB ?_|refine sX ?_ ?_<;>(try intro h)<;>(try omega)|exact sP|refine rK ?_|exact sQ|refine sD ?_|rfl|exact sE|omega)
   refine Rm_pick hc rfl (by omega) (by omega) (fun k a2 s2 c1 c2 c3 => ?_)
   have hyk:=hyi _ (getD_mem (d:=default) (show k<ys.length by omega))
   obtain ⟨l1,l2,_,_⟩:=hyk
   generalize hx:ys.getD k default=x at *
   repeat' (first|refine sA ?_|refine sN ?_|rw [hx]|refine sB ?_|refine sX ?_ ?_<;>(try intro h)<;>(try omega)|exact sP|refine rK ?_|exact sQ|refine sD ?_|rfl|exact sE|omega)
   refine Rm_one hc rfl (by omega) (by omega) (fun w2 a3 s3 d1 d2 => ?_)
   cases w2
   ·repeat' (first|refine sA ?_|refine sN ?_|refine sB ?_|refine sX ?_ ?_<;>(try intro h)<;>(try omega)|exact sP|refine rK ?_|exact sQ|refine sD ?_|rfl|exact sE|omega)
    exact ret_gen _ _ _ rfl rfl rfl ⟨x.low,x.high,a3,s3,rfl,l1,l2,by omega,by omega,rfl⟩
   ·repeat' (first|refine sA ?_|refine sN ?_|refine sB ?_|refine sX ?_ ?_<;>(try intro h)<;>(try omega)|exact sP|refine rK ?_|exact sQ|refine sD ?_|rfl|exact sE|omega)
    exact ret_gen _ _ _ rfl rfl rfl ⟨x.high,x.low,a3,s3,rfl,l2,l1,by omega,by omega,rfl⟩
  ·repeat' (first|refine sA ?_|refine sN ?_|refine sB ?_|refine sX ?_ ?_<;>(try intro h)<;>(try omega)|exact sP|refine rK ?_|exact sQ|refine sD ?_|rfl|exact sE|omega)
   refine Rm_among 0 65536 hc rfl rfl rfl (by omega) (by omega) (by first|decide|(simp; omega)) (by decide) (fun x a4 s4 e1 e2 e3 e4 e5 => ?_)
   clear e3
   repeat' (first|refine sA ?_|refine sN ?_|refine sB ?_|refine sX ?_ ?_<;>(try intro h)<;>(try omega)|exact sP|refine rK ?_|exact sQ|refine sD ?_|rfl|exact sE|omega)
   refine Rm_among 1 301 hc rfl rfl rfl (by omega) (by omega) (by first|decide|(simp; omega)) (by decide) (fun y a5 s5 f1 f2 f3 f4 f5 => ?_)
   clear f3
   repeat' (first|refine sA ?_|refine sN ?_|refine sB ?_|refine sX ?_ ?_<;>(try intro h)<;>(try omega)|exact sP|refine rK ?_|exact sQ|refine sD ?_|rfl|exact sE|omega)
   exact ret_gen _ _ _ rfl rfl rfl ⟨x,y,a5,s5,rfl,by omega,by omega,by omega,by omega,rfl⟩
end Go.Proofs.YtekmkgegjicjgaaGreat
namespace Go.Proofs.YtekmkgegjicjgaaGreat
open Go.Dv Go.Dv.EvL
set_option maxRecDepth 100000
set_option maxHeartbeats 16000000
attribute [local irreducible] Ok Rm Dm Om Sm Xm Cm Gm Hm Tm
def AlsQ (code:List UInt8)(a:Int)(d:DV)(H:Heap):Prop := ∃ (ys:List Al) (a' s':Int),AsIn 40 ys∧a≤a'∧a'≤a+2000∧d = .own 1 0 ys.length∧H=[curO code a' s',.arr 114 5 (ys.map Al.pv)]
theorem k_alerts0 (code:List UInt8)(a s:Int)(hc:code.length≤65536)(ha:0≤a∧a≤800000000):Ok Tryz.prog 130 [.ptr 0 0 0] [curO code a s] (AlsQ code a):=by
 refine ok_D hmix c_spec_l1Cur_alerts (by simp) ?_
 refine sA ?_
 repeat' (first|refine sA ?_|refine sN ?_|refine sB ?_|refine sX ?_ ?_<;>(try intro h)<;>(try omega)|exact sP|refine rK ?_|exact sQ|refine sD ?_|rfl|exact sE|omega)
 refine Rm_pick hc rfl (by omega) (by omega) (fun n a1 s1 b1 b2 b3 => ?_)
 repeat' (first|refine sA ?_|refine sN ?_|refine sB ?_|refine sX ?_ ?_<;>(try intro h)<;>(try omega)|exact sP|refine rK ?_|exact sQ|refine sD ?_|rfl|exact sE|omega)
 refine Dm_loop [0,3,4] (fun k ds H' => ∃ (ys:List Al) (a' s':Int),k≤6∧AsIn (6 - k) ys∧a1≤a'∧a'≤a1+30 * (6 - k)∧ds=[.ptr 0 0 0,.own 1 0 ys.length,.p (.int .i64 k)] ∧
  H'=[curO code a' s',.arr 114 5 (ys.map Al.pv)]) n ⟨[],a1,s1,by omega,⟨by simp,by simp⟩,by omega,by omega,rfl,rfl⟩ ?_
 rintro k ds H' ⟨ys,a',s',g1,g2,g3,g4,rfl,rfl⟩ -
 have hyl:=g2.1
 rcases Nat.eq_zero_or_pos k with rfl|hk0
 ·repeat' (first|refine sA ?_|refine sN ?_|refine sB ?_|refine sX ?_ ?_<;>(try intro h)<;>(try omega)|exact sP|refine rK ?_|exact sQ|refine sD ?_|rfl|exact sE|omega)
  refine Rm_pick hc rfl (by omega) (by omega) (fun w a2 s2 c1 c2 c3 => ?_)
  repeat' (first|refine sA ?_|refine sN ?_|refine sB ?_|refine sX ?_ ?_<;>(try intro h)<;>(try omega)|exact sP|refine rK ?_|exact sQ|refine sD ?_|rfl|exact sE|omega)
  ·refine Rm_mc rfl rfl (k_alert _ _ _ hc (by omega)) (fun r H2 hh => ?_)
   obtain ⟨x,a3,s3,rfl,hx,d1,d2,rfl⟩:=hh
   rw [al_pv]
   repeat' (first|refine sA ?_|refine sN ?_|refine sB ?_|refine sX ?_ ?_<;>(try intro h)<;>(try omega)|exact sP|refine rK ?_|exact sQ|refine sD ?_|rfl|exact sE|omega)
   refine ret_gen _ _ _ rfl rfl rfl ⟨ys++[x],a3,s3,as_up (as_snoc g2 hx) (by omega),by omega,by omega,?_,?_⟩
   ·rw [List.length_append]; rfl
   ·rw [List.map_append]; rfl
  ·refine Dm_loop [0,3,8] (fun m ds H' => ∃ (n2:Nat) (zs:List Al) (a' s':Int),n2≤12∧m=12 - n2∧AsIn (6+n2) zs∧a2≤a'∧a'≤a2+4 * n2∧ds=[.ptr 0 0 0,.own 1 0 zs.length,.p (.int .i64 n2)] ∧
    H'=[curO code a' s',.arr 114 5 (zs.map Al.pv)]) 12 ⟨0,ys,a2,s2,by omega,by omega,as_up g2 (by omega),by omega,by omega,rfl,rfl⟩ ?_
   rintro m ds H' ⟨n2,zs,a4,s4,i1,rfl,i2,i3,i4,rfl,rfl⟩ -
   have hzl:=i2.1
   repeat' (first|refine sA ?_|refine sN ?_|refine sB ?_|refine sX ?_ ?_<;>(try intro h)<;>(try omega)|exact sP|refine rK ?_|exact sQ|refine sD ?_|rfl|exact sE|omega)
   refine Rm_pick hc rfl (by omega) (by omega) (fun v a5 s5 j1 j2 j3 => ?_)
   repeat' (first|refine sA ?_|refine sN ?_|refine sB ?_|refine sX ?_ ?_<;>(try intro h)<;>(try omega)|exact sP|refine rK ?_|exact sQ|refine sD ?_|rfl|exact sE|omega)
   ·refine Xm_inv_n (12 - (n2+1)) (by omega) ⟨n2+1,zs++[⟨1000,1001+n2,1,0,false⟩],a5,s5,by omega,rfl,as_snoc i2 ⟨by constructor<;>simp only<;>omega,by constructor<;>simp only<;>omega,by constructor<;>simp only<;>omega,by constructor<;>simp only<;>omega⟩,by omega,by omega,?_,?_⟩
    ·rw [List.length_append]; rfl
    ·rw [List.map_append]; rfl
   ·exact ret_gen _ _ _ rfl rfl rfl ⟨zs,a5,s5,as_up i2 (by omega),by omega,by omega,rfl,rfl⟩
   ·exact ret_gen _ _ _ rfl rfl rfl ⟨zs,a5,s5,as_up i2 (by omega),by omega,by omega,rfl,rfl⟩
  ·exact ret_gen _ _ _ rfl rfl rfl ⟨ys,a2,s2,as_up g2 (by omega),by omega,by omega,rfl,rfl⟩
 ·repeat' (first|refine sA ?_|refine sN ?_|refine sB ?_|refine sX ?_ ?_<;>(try intro h)<;>(try omega)|exact sP|refine rK ?_|exact sQ|refine sD ?_|rfl|exact sE|omega)
  refine Rm_mc rfl rfl (k_alert _ _ _ hc (by omega)) (fun r H2 hh => ?_)
  obtain ⟨x,a3,s3,rfl,hx,d1,d2,rfl⟩:=hh
  have h1:=k_l20Find ys x.low x.high (by omega)
  have h2:=k_l20Single x
  have hp:=posA_le (prA x.low x.high 0 0) ys
  generalize hP:posA (prA x.low x.high 0 0) ys=P at *
  generalize isA (prA x.low x.high 0 0) ys=q at *
  generalize alB x=q2 at *
  rw [al_pv] at h2 ⊢
  cases q<;>cases q2
  all_goals
   repeat' (first|refine sA ?_|refine sN ?_|refine rW rfl (h1) ?_|refine rV (h1) ?_|refine rW rfl (h2) ?_|refine rV (h2) ?_|refine Dm_draw [2] (by simp) ?_|(refine Tm_fin (by simp only [hideOK,newsE,List.length_cons,List.length_nil,Nat.reduceSub,Nat.reduceAdd,List.take_succ_cons,List.take_zero,List.map_cons,List.map_nil]; simp [refsL,refs,cur_eq,bkL,bk,codeP]) ?_)|refine sB ?_|refine sX ?_ ?_<;>(try intro h)<;>(try omega)|exact sP|refine rK ?_|exact sQ|refine sD ?_|rfl|exact sE|omega)
  all_goals first
   | exact Xm_inv_n (k - 1) (by omega) ⟨ys,a3,s3,by omega,as_up g2 (by omega),by omega,by omega,rfl,rfl⟩
   | skip
  all_goals
   have ht:List.take (ys.length - P) (ys.drop P)=ys.drop P:=List.take_of_length_le (by rw [List.length_drop]; omega)
   have hln:(ys.take P++x::ys.drop P).length=(ys.take P).length+1+(List.take (ys.length - P) (ys.drop P)).length:=by
    rw [ht,List.length_append,List.length_cons]
    omega
   have ht2:List.take ((ys.take P).length+1) ((ys.take P).map Al.pv++[.agg [.int .i64 x.low,.int .i64 x.high,.int .i64 x.lvl,.int .i64 x.since,.bool x.seen]])=(ys.take P).map Al.pv++[.agg [.int .i64 x.low,.int .i64 x.high,.int .i64 x.lvl,.int .i64 x.since,.bool x.seen]]:=List.take_of_length_le (by simp)
   have hmp:(ys.take P++x::ys.drop P).map Al.pv=List.take ((ys.take P).length+1) ((ys.take P).map Al.pv++[.agg [.int .i64 x.low,.int .i64 x.high,.int .i64 x.lvl,.int .i64 x.since,.bool x.seen]])++(List.take (ys.length - P) (ys.drop P)).map Al.pv:=by
    rw [ht,ht2,List.map_append,List.map_cons,List.append_assoc]
    rfl
   refine Xm_inv_n (k - 1) (by omega) ⟨ys.take P++x::ys.drop P,a3,s3,by omega,as_up (as_ins g2 hx) (by omega),by omega,by omega,?_,?_⟩
   ·rw [hln]; rfl
   ·rw [hmp]; rfl
end Go.Proofs.YtekmkgegjicjgaaGreat

import Derived.Test.YtekmkgegjicjgaaGreatZBas
import Derived.Test.YtekmkgegjicjgaaGreatZCu
import Derived.Test.YtekmkgegjicjgaaGreatZLogs
import Derived.Test.YtekmkgegjicjgaaGreatZCDa
import Derived.Test.YtekmkgegjicjgaaGreatZCDc
import Derived.Test.YtekmkgegjicjgaaGreatZCmB
namespace Go.Proofs.YtekmkgegjicjgaaGreat
open Go.Dv Go.Dv.EvL
set_option maxRecDepth 100000
set_option maxHeartbeats 16000000
attribute [local irreducible] Ok Rm Dm Om Sm Xm Cm Gm Hm Tm
def RecIn (e:Rec):Prop:=e.cmd.length≤1000∧e.reply.length≤1000
def LgIn (l:Lg):Prop:=l.dur.length+l.pend.length≤100000∧0≤l.cnt∧l.cnt≤61
theorem rec_mk {a b:List UInt8}:DV.p (.agg [.str a,.str b]) = .p (Rec.pv ⟨a,b⟩):=rfl
theorem k_logRecord (code:List UInt8)(a s:Int)(hc:code.length≤65536)(ha:0≤a∧a≤1000000):Ok Tryz.prog 69 [.ptr 0 0 0] [curO code a s]
  fun d H => ∃ (e:Rec) (a' s':Int),d = .p e.pv∧RecIn e∧a≤a'∧a'≤a+10∧H=[curO code a' s']:=by
 refine ok_D hmix c_spec_l1Cur_logRecord (by simp) ?_
 refine sA ?_
 repeat' (first|refine sA ?_|refine sN ?_|(refine Rm_pick hc rfl (by omega) (by first|omega|(simp; omega)) (fun r a1 s1 q2 q3 q4 => ?_))|(refine Rm_one hc rfl (by omega) (by first|omega|(simp; omega)) (fun r a1 s1 q3 q4 => ?_))|(refine Rm_of 1000 hc rfl rfl rfl (by omega) (by omega) (by first|decide|omega) (by decide) (fun r a1 s1 q1 q2 q3 q4 => ?_); clear q2)|(refine Rm_among (-1000000000000) 1000000000000 hc rfl rfl rfl (by omega) (by omega) (by first|decide|(simp; omega)) (by decide) (fun r a1 s1 q1 q2 q5 q3 q4 => ?_); clear q5)|rw [bytes_zero]|refine sB ?_|refine sX ?_ ?_<;>(try intro h)<;>(try omega)|exact sP|refine rK ?_|exact sQ|refine sD ?_|rfl|exact sE|omega)
 all_goals exact ret_gen _ _ _ rfl rfl rfl ⟨⟨_,_⟩,_,_,rfl,⟨by assumption,by assumption⟩,by omega,by omega,rfl⟩
theorem lineR_len {k:Nat}{e:Rec}(hk:k≤9223372036854775807):(lineR k e).length≤30+e.cmd.length+e.reply.length:=by
 have h1:=body_len k e hk
 have h2:=(seal_len (body k e)).2
 simp only [lineR,List.length_append,List.length_cons,List.length_nil]
 omega
theorem append_sz (l:Lg)(e:Rec)(h:0≤l.cnt∧l.cnt≤60):(appendO l e).1.dur.length+(appendO l e).1.pend.length≤l.dur.length+l.pend.length+400∧0≤(appendO l e).1.cnt∧(appendO l e).1.cnt≤60:=by
 unfold appendO
 split
 ·rename_i hv
  have hr:=recB_len hv.2
  have hl:=lineR_len (k:=l.cnt.toNat) (e:=e) (by omega)
  split
  ·exact ⟨by simp only []; omega,h⟩
  ·rename_i h60
   exact ⟨by simp only [List.length_append]; omega,by simp only []; omega⟩
 ·exact ⟨by simp only []; omega,h⟩
theorem sync_sz (l:Lg)(h:0≤l.cnt∧l.cnt≤60):(syncO l).1.dur.length+(syncO l).1.pend.length≤l.dur.length+l.pend.length∧0≤(syncO l).1.cnt∧(syncO l).1.cnt≤60:=by
 unfold syncO
 split
 ·exact ⟨by simp,h⟩
 ·exact ⟨by simp [noLg],by simp [noLg]⟩
def lgO (l:Lg):OB := .box 38 [.p (.str l.dur),.p (.str l.pend),.p (.int .i64 l.cnt)]
theorem k_sSyncW (l:Lg)(hl:l.dur.length+l.pend.length≤1000000)(hn:0≤l.cnt∧l.cnt≤60):Okw Tryz.prog 213 [l.pv] fun d H => ∃ (x y:List UInt8) (z:Int) (b:Bool),d = .tup [.p (.agg [.str x,.str y,.int .i64 z]),.p (.bool b)]∧H=[] ∧
  x.length+y.length≤l.dur.length+l.pend.length∧0≤z∧z≤60:=by
 refine (k_sSync l (by omega) (by omega)).mono fun d H hh => ?_
 obtain ⟨rfl,rfl⟩:=hh
 have:=sync_sz l hn
 exact ⟨_,_,_,_,rfl,rfl,this⟩
theorem k_sAppendW (l:Lg)(e:Rec)(hl:l.dur.length+l.pend.length≤1000000)(hn:0≤l.cnt∧l.cnt≤60)(he:RecIn e):Okw Tryz.prog 56 [l.pv,e.pv] fun d H => ∃ (x y:List UInt8) (z:Int) (b:Int),d = .tup [.p (.agg [.str x,.str y,.int .i64 z]),.p (.int .i64 b)]∧H=[] ∧
  x.length+y.length≤l.dur.length+l.pend.length+400∧0≤z∧z≤60:=by
 unfold RecIn at he
 refine (k_sAppend l e (by omega) (by omega) (by omega) (by omega)).mono fun d H hh => ?_
 obtain ⟨rfl,rfl⟩:=hh
 have:=append_sz l e hn
 exact ⟨_,_,_,_,rfl,rfl,this⟩
theorem k_log (code:List UInt8)(a s:Int)(hc:code.length≤65536)(ha:0≤a∧a≤900000):Ok Tryz.prog 182 [.ptr 0 0 0] [curO code a s]
  fun d H => ∃ (x y:List UInt8) (z a' s':Int),d = .p (.agg [.str x,.str y,.int .i64 z])∧x.length+y.length≤10000∧0≤z∧z≤60∧a≤a'∧a'≤a+200∧H=[curO code a' s']:=by
 refine ok_D hmix c_spec_l1Cur_log (by simp) ?_
 refine sA ?_
 repeat' (first|refine sA ?_|refine sN ?_|(refine Rm_pick hc rfl (by omega) (by first|omega|(simp; omega)) (fun r a1 s1 q2 q3 q4 => ?_))|(refine Rm_one hc rfl (by omega) (by first|omega|(simp; omega)) (fun r a1 s1 q3 q4 => ?_))|(refine Rm_of 1000 hc rfl rfl rfl (by omega) (by omega) (by first|decide|omega) (by decide) (fun r a1 s1 q1 q2 q3 q4 => ?_); clear q2)|(refine Rm_among (-1000000000000) 1000000000000 hc rfl rfl rfl (by omega) (by omega) (by first|decide|(simp; omega)) (by decide) (fun r a1 s1 q1 q2 q5 q3 q4 => ?_); clear q5)|refine sB ?_|refine sX ?_ ?_<;>(try intro h)<;>(try omega)|exact sP|refine rK ?_|exact sQ|refine sD ?_|rfl|exact sE|omega)
 refine Dm_loop [0,2,3,4] (fun m ds H' => ∃ (x y:List UInt8) (z a' s':Int),m≤7∧x.length+y.length+400 * m≤2800∧0≤z∧z≤60∧a≤a'∧a'+20 * m≤a+150 ∧
  ds=[.ptr 0 0 0,.ptr 1 0 0,.ptr 2 0 0,.p (.int .i64 m)]∧H'=[curO code a' s',.box 38 [.p (.str []),.p (.str []),.p (.int .i64 0)],.box 38 [.p (.str x),.p (.str y),.p (.int .i64 z)]]) r
  ⟨[],[],0,a1,s1,by omega,by simp; omega,by omega,by omega,by omega,by omega,rfl,rfl⟩ ?_
 rintro m ds H' ⟨x,y,z,a',s',hm,hl,hn0,hn1,g1,g2,rfl,rfl⟩ -
 have hk:=fun (a s:Int) (h:0≤a∧a≤1000000)=>k_logRecord code a s hc h
 repeat' (first|refine sA ?_|refine sN ?_|(refine Rm_mc rfl rfl (hk _ _ (by omega)) (fun r H2 hh => ?_); obtain ⟨⟨e1,e2⟩,a2,s2,rfl,he,g3,g4,rfl⟩:=hh; simp only [rec_pv])|(refine Rm_o (k_sAppendW ⟨_,_,_⟩ ⟨_,_⟩ (by simp only []; omega) (by simp only []; omega) he) rfl (fun r H2 hh => ?_); obtain ⟨x2,y2,z2,b2,rfl,rfl,i1,i2,i3⟩:=hh; simp only [] at i1)|(refine Rm_pick hc rfl (by omega) (by first|omega|(simp; omega)) (fun r a1 s1 q2 q3 q4 => ?_))|(refine Rm_one hc rfl (by omega) (by first|omega|(simp; omega)) (fun r a1 s1 q3 q4 => ?_))|(refine Rm_of 1000 hc rfl rfl rfl (by omega) (by omega) (by first|decide|omega) (by decide) (fun r a1 s1 q1 q2 q3 q4 => ?_); clear q2)|(refine Rm_among (-1000000000000) 1000000000000 hc rfl rfl rfl (by omega) (by omega) (by first|decide|(simp; omega)) (by decide) (fun r a1 s1 q1 q2 q5 q3 q4 => ?_); clear q5)|(refine Rm_o (k_sSyncW ⟨_,_,_⟩ (by simp only []; omega) (by simp only []; omega)) rfl (fun r H2 hh => ?_); obtain ⟨x3,y3,z3,b3,rfl,rfl,j1,j2,j3⟩:=hh; simp only [] at j1)|refine sB ?_|refine sX ?_ ?_<;>(try intro h)<;>(try omega)|exact sP|refine rK ?_|exact sQ|refine sD ?_|rfl|exact sE|omega)
 all_goals first
  | exact Xm_inv_n (m - 1) (by omega) ⟨x3,y3,z3,_,_,by omega,by omega,by omega,by omega,by omega,by omega,rfl,rfl⟩
  | exact Xm_inv_n (m - 1) (by omega) ⟨x2,y2,z2,_,_,by omega,by omega,by omega,by omega,by omega,by omega,rfl,rfl⟩
  | exact ret_gen _ _ _ rfl rfl rfl ⟨_,_,_,_,_,rfl,by omega,by omega,by omega,by omega,by omega,rfl⟩
  | skip
theorem k_anyLog (code:List UInt8)(a s:Int)(hc:code.length≤65536)(ha:0≤a∧a≤800000):Ok Tryz.prog 131 [.ptr 0 0 0] [curO code a s]
  fun d H => ∃ (x y:List UInt8) (z a' s':Int),d = .p (.agg [.str x,.str y,.int .i64 z])∧x.length+y.length≤40000∧0≤z∧z≤61∧a≤a'∧a'≤a+300∧H=[curO code a' s']:=by
 refine ok_D hmix c_spec_l1Cur_anyLog (by simp) ?_
 have hk:=fun (a s:Int) (h:0≤a∧a≤900000)=>k_log code a s hc h
 have hs:=fun (a s:Int) (t:List UInt8) (h:0≤a∧a≤1099511627000∧t.length≤1000000)=>k_spoilt code a s t [35,64,10,48,49] hc ⟨h.1,h.2.1⟩ h.2.2 (by simp)
 refine sA ?_
 repeat' (first|refine sA ?_|refine sN ?_|(refine Rm_mc rfl rfl (hk _ _ (by omega)) (fun r H2 hh => ?_); obtain ⟨x,y,z,a2,s2,rfl,hl,hn0,hn1,g3,g4,rfl⟩:=hh)|(refine Rm_mc rfl rfl (hs _ _ _ (by omega)) (fun r H2 hh => ?_); obtain ⟨t,a3,s3,rfl,ht,g5,g6,rfl⟩:=hh)|(refine Rm_pick hc rfl (by omega) (by first|omega|(simp; omega)) (fun r a1 s1 q2 q3 q4 => ?_))|(refine Rm_one hc rfl (by omega) (by first|omega|(simp; omega)) (fun r a1 s1 q3 q4 => ?_))|(refine Rm_of 1000 hc rfl rfl rfl (by omega) (by omega) (by first|decide|omega) (by decide) (fun r a1 s1 q1 q2 q3 q4 => ?_); clear q2)|(refine Rm_among (-1000000000000) 1000000000000 hc rfl rfl rfl (by omega) (by omega) (by first|decide|(simp; omega)) (by decide) (fun r a1 s1 q1 q2 q5 q3 q4 => ?_); clear q5)|refine sB ?_|refine sX ?_ ?_<;>(try intro h)<;>(try omega)|exact sP|refine rK ?_|exact sQ|refine sD ?_|rfl|exact sE|omega)
 all_goals first
  | exact ret_gen _ _ _ rfl rfl rfl ⟨_,_,_,_,_,rfl,by simp; omega,by omega,by omega,by omega,by omega,rfl⟩
  | exact ret_gen _ _ _ rfl rfl rfl ⟨_,_,_,_,_,rfl,by omega,by omega,by omega,by omega,by omega,rfl⟩
  | skip
end Go.Proofs.YtekmkgegjicjgaaGreat
namespace Go.Proofs.YtekmkgegjicjgaaGreat
open Go.Dv Go.Dv.EvL
set_option maxRecDepth 100000
set_option maxHeartbeats 16000000
attribute [local irreducible] Ok Rm Dm Om Sm Xm Cm Gm Hm Tm
def CdIn (c:Cs):Prop:=(-100000≤c.mn∧c.mn≤100000)∧c.hl.length≤1000∧(∀ x∈c.hl,0≤x.addr∧x.addr≤65536)∧AsIn 1000 c.al∧c.lg.dur.length+c.lg.pend.length≤500000
theorem k_l1NumW (n:Int)(hn : -1000000≤n∧n≤1000000):Okw Tryz.prog 84 [.int .i64 n] fun d H => ∃ t:Txt,d = .p (.str t)∧H=[]∧t.length≤20:=by
 refine (k_l1Num n (by omega)).mono fun d H hh => ?_
 obtain ⟨rfl,rfl⟩:=hh
 exact ⟨_,rfl,rfl,num_le (by omega)⟩
theorem k_l5TextW (f:Nat × Nat × Nat)(h:frF f=true):Okw Tryz.prog 126 [.agg [.int .i64 f.1,.int .i64 f.2.1,.int .i64 f.2.2]] fun d H => ∃ t:Txt,d = .p (.str t)∧H=[]∧t.length≤30:=by
 refine (k_l5Text f h).mono fun d H hh => ?_
 obtain ⟨rfl,rfl⟩:=hh
 exact ⟨_,rfl,rfl,ft_len h⟩
theorem k_command (code:List UInt8)(a s:Int)(c:Cs)(hc:code.length≤65536)(ha:0≤a∧a≤700000000)(hI:CdIn c):Ok Tryz.prog 67 [.ptr 0 0 0,.p c.pv] [curO code a s]
  fun d H => ∃ (t:Txt) (a' s':Int),d = .p (.str t)∧t.length≤1200∧a≤a'∧a'≤a+400∧H=[curO code a' s']:=by
 refine ok_D hmix c_spec_l1Cur_command (by simp) ?_
 obtain ⟨hm,hl,hh,has,_⟩:=hI
 rw [cs_pv]
 refine sA ?_
 repeat' (first|refine sA ?_|refine sN ?_|refine sB ?_|refine sX ?_ ?_<;>(try intro h)<;>(try omega)|exact sP|refine rK ?_|exact sQ|refine sD ?_|rfl|exact sE|omega)
 refine Rm_among 1 300 hc rfl rfl rfl (by omega) (by omega) (by first|decide|(simp; omega)) (by decide) (fun v a1 s1 b1 b2 b3 b4 b5 => ?_)
 clear b3
 have hpair:=fun (a s:Int) (h:0≤a∧a≤900000000)=>k_pairOf code a s c.al hc h has
 have hmsg:=fun (a s:Int) (h:0≤a∧a≤900000000)=>k_message code a s hc h
 have hfrm:=fun (a s:Int) (h:0≤a∧a≤900000000)=>k_frame code a s hc (by omega)
 rcases Nat.eq_zero_or_pos c.hl.length with h0|h0
 case' inr =>
  repeat' (first|refine sA ?_|refine sN ?_|refine sB ?_|refine sX ?_ ?_<;>(try intro h)<;>(try omega)|exact sP|refine rK ?_|exact sQ|refine sD ?_|rfl|exact sE|omega)
  refine Rm_one hc rfl (by omega) (by omega) (fun w a2 s2 c1 c2 => ?_)
  cases w
  case' false =>
   repeat' (first|refine sA ?_|refine sN ?_|refine Dm_draw [1] (by simp) ?_|refine sB ?_|refine sX ?_ ?_<;>(try intro h)<;>(try omega)|exact sP|refine rK ?_|exact sQ|refine sD ?_|rfl|exact sE|omega)
   refine Rm_pick hc rfl (by omega) (by omega) (fun k a3 s3 d1 d2 d3 => ?_)
   have hk:=hh _ (getD_mem (d:=default) (show k<c.hl.length by omega))
   generalize hX:(c.hl.getD k default)=hx at *
 all_goals
  repeat' (first|refine sA ?_|refine sN ?_|(refine Tm_fin (by simp only [hideOK,newsE,List.length_cons,List.length_nil,Nat.reduceSub,Nat.reduceAdd,List.take_succ_cons,List.take_zero,List.map_cons,List.map_nil]; simp [refsL,refs,cur_eq,codeP]) ?_)|rw [hX]|refine sB ?_|refine sX ?_ ?_<;>(try intro h)<;>(try omega)|exact sP|refine rK ?_|exact sQ|refine sD ?_|rfl|exact sE|omega)
  refine Rm_mc rfl rfl (hpair _ _ (by omega)) (fun r H2 hh => ?_)
  obtain ⟨x,y,a4,s4,rfl,hx1,hy,e1,e2,rfl⟩:=hh
  have q1:=num_le (n:=x) (by omega)
  have q2:=num_le (n:=y) (by omega)
  have q3:=num_le (n:=v) (by omega)
  have k1:=k_l1Num x (by omega)
  have k2:=k_l1Num y (by omega)
  generalize num x=X at *
  generalize num y=Y at *
  repeat' (first|refine sA ?_|refine sN ?_|refine rW rfl (k1) ?_|refine rV (k1) ?_|refine rW rfl (k2) ?_|refine rV (k2) ?_|refine sB ?_|refine sX ?_ ?_<;>(try intro h)<;>(try omega)|exact sP|refine rK ?_|exact sQ|refine sD ?_|rfl|exact sE|omega)
  have hT:(32::(X++[32]++Y)).length≤50:=by simp only [List.length_cons,List.length_append,List.length_nil]; omega
  generalize 32::(X++[32]++Y)=T at *
  clear k1 k2 q1 q2 q3
  repeat' (first|refine sA ?_|refine sN ?_|(refine Rm_o (k_l1NumW _ (by omega)) rfl (fun r H2 hh => ?_); obtain ⟨u,rfl,rfl,hu⟩:=hh)|(refine Rm_mc rfl rfl (hmsg _ _ (by omega)) (fun r H2 hh => ?_); obtain ⟨t1,a3,s3,rfl,ht1,d1,d2,rfl⟩:=hh)|(refine Rm_mc rfl rfl (hfrm _ _ (by omega)) (fun r H2 hh => ?_); obtain ⟨f,a3,s3,rfl,hf,d1,d2,rfl⟩:=hh)|(refine Rm_o (k_l5TextW _ hf) rfl (fun r H2 hh => ?_); obtain ⟨u,rfl,rfl,hu⟩:=hh)|(refine Rm_pick hc rfl (by omega) (by first|omega|(simp; omega)) (fun r a1 s1 q2 q3 q4 => ?_))|(refine Rm_one hc rfl (by omega) (by first|omega|(simp; omega)) (fun r a1 s1 q3 q4 => ?_))|(refine Rm_of 1000 hc rfl rfl rfl (by omega) (by omega) (by first|decide|omega) (by decide) (fun r a1 s1 q1 q2 q3 q4 => ?_); clear q2)|(refine Rm_among (-1000000000000) 1000000000000 hc rfl rfl rfl (by omega) (by omega) (by first|decide|(simp; omega)) (by decide) (fun r a1 s1 q1 q2 q5 q3 q4 => ?_); clear q5)|refine sB ?_|refine sX ?_ ?_<;>(try intro h)<;>(try omega)|exact sP|refine rK ?_|exact sQ|refine sD ?_|rfl|exact sE|omega)
 all_goals first
  | exact ret_gen _ _ _ rfl rfl rfl ⟨_,_,_,rfl,by (first|omega|(simp only [List.length_append,List.length_cons,List.length_nil]; omega)),by omega,by omega,rfl⟩
  | skip
end Go.Proofs.YtekmkgegjicjgaaGreat

import Derived.Test.YtekmkgegjicjgaaGreatZBas
import Derived.Test.YtekmkgegjicjgaaGreatZCDraw9
namespace Go.Proofs.YtekmkgegjicjgaaGreat
open Go.Dv Go.Dv.EvL
set_option maxRecDepth 100000
set_option maxHeartbeats 16000000
attribute [local irreducible] Ok Rm Dm Om Sm Xm Cm Gm Hm Tm
def DrQ (d:DV)(H:Heap):Prop := ∃ (c:Cs) (t:Txt),d = .tup [.p c.pv,.p (.str t)]∧CdIn c∧t.length≤10000∧H=[]
theorem k_DrawRunScript (code:List UInt8)(hc:code.length≤65536):Okw Tryz.prog 27 [codeP code] DrQ:=by
 refine ok_D hmix c_spec_DrawRunScript (by simp) ?_
 have hk:=fun (a s:Int) (h:0≤a∧a≤600000)=>k_console code a s hc h
 refine sF fun dc hdc => ?_; refine sA ?_
 repeat' (first|refine sA ?_|refine sO ‹_› fun dc hdc => ?_|refine sN ?_|unfold codeP|(refine Rm_mc rfl rfl (hk _ _ (by omega)) (fun r H2 hh => ?_); obtain ⟨c,a1,s1,rfl,hcd,g1,g2,rfl⟩:=hh)|refine sB ?_|refine sX ?_ ?_<;>(try intro h)<;>(try omega)|exact sP|refine rK ?_|exact sQ|refine sD ?_|exact sE|omega)
 have hcm:=fun (a s:Int) (h:0≤a∧a≤700000000)=>k_command code a s c hc h hcd
 simp only [cs_pv] at hcm ⊢
 repeat' (first|refine sA ?_|refine sO ‹_› fun dc hdc => ?_|refine sN ?_|(refine Rm_mc rfl rfl (hcm _ _ (by omega)) (fun r H2 hh => ?_); obtain ⟨t,a2,s2,rfl,ht,j1,j2,rfl⟩:=hh)|refine sB ?_|refine sX ?_ ?_<;>(try intro h)<;>(try omega)|exact sP|refine rK ?_|exact sQ|refine sD ?_|exact sE|omega)
 refine Rm_pick hc rfl (by omega) (by omega) (fun n a3 s3 e1 e2 e3 => ?_)
 repeat' (first|refine sA ?_|refine sO ‹_› fun dc hdc => ?_|refine sN ?_|refine sB ?_|refine sX ?_ ?_<;>(try intro h)<;>(try omega)|exact sP|refine rK ?_|exact sQ|refine sD ?_|exact sE|omega)
 refine Dm_loop [2,4,5,6,7] (fun m ds H' => ∃ (t:Txt) (a' s':Int),m≤3∧t.length+1201 * m≤4900∧a1≤a'∧a'+500 * m≤a1+2500∧ds=[.ptr 0 0 0,.ptr 1 0 0,.ptr 2 0 0,.p (.str t),.p (.int .i64 m)]∧H'=[zC,curO code a' s',cO c]) n ⟨t,a3,s3,by omega,by omega,by omega,by omega,rfl,rfl⟩ ?_
 clear ht
 rintro m ds H' ⟨t,a',s',i1,i2,i3,i4,rfl,rfl⟩ -
 unfold zC cO
 repeat' (first|refine sA ?_|refine sO ‹_› fun dc hdc => ?_|refine sN ?_|(refine Rm_mc rfl rfl (hcm _ _ (by omega)) (fun r H2 hh => ?_); obtain ⟨t2,a4,s4,rfl,ht2,j3,j4,rfl⟩:=hh)|refine sB ?_|refine sX ?_ ?_<;>(try intro h)<;>(try omega)|exact sP|refine rK ?_|exact sQ|refine sD ?_|exact sE|omega)
 all_goals first
  | exact Xm_inv_n (m - 1) (by omega) ⟨_,a4,s4,by omega,(by simp only [List.length_append,List.length_cons,List.length_nil]; omega),by omega,by omega,rfl,rfl⟩
  | skip
 refine Rm_one hc rfl (by omega) (by omega) (fun w a4 s4 k1 k2 => ?_)
 cases w
 case' true =>
  repeat' (first|refine sA ?_|refine sO ‹_› fun dc hdc => ?_|refine sN ?_|refine sB ?_|refine sX ?_ ?_<;>(try intro h)<;>(try omega)|exact sP|refine rK ?_|exact sQ|refine sD ?_|exact sE|omega)
  refine Rm_pick hc rfl (by omega) (by omega) (fun n2 a5 s5 l1 l2 l3 => ?_)
  repeat' (first|refine sA ?_|refine sO ‹_› fun dc hdc => ?_|refine sN ?_|refine sB ?_|refine sX ?_ ?_<;>(try intro h)<;>(try omega)|exact sP|refine rK ?_|exact sQ|refine sD ?_|exact sE|omega)
  refine Dm_loop [2,5,6,8] (fun m ds H' => ∃ (t:Txt),m≤30∧t.length+m≤40∧ds=[.ptr 0 0 0,.ptr 1 0 0,.p (.str t),.p (.int .i64 m)]∧H'=[zC,cO c]) (29+n2) ⟨[],by omega,by simp; omega,rfl,rfl⟩ ?_
  rintro m2 ds H' ⟨t3,i1,i2,rfl,rfl⟩ -
  unfold zC cO
  repeat' (first|refine sA ?_|refine sO ‹_› fun dc hdc => ?_|refine sN ?_|refine sB ?_|refine sX ?_ ?_<;>(try intro h)<;>(try omega)|exact sP|refine rK ?_|exact sQ|refine sD ?_|exact sE|omega)
 case' false =>
  repeat' (first|refine sA ?_|refine sO ‹_› fun dc hdc => ?_|refine sN ?_|refine sB ?_|refine sX ?_ ?_<;>(try intro h)<;>(try omega)|exact sP|refine rK ?_|exact sQ|refine sD ?_|exact sE|omega)
 all_goals first
  | exact Xm_inv_n (m2 - 1) (by omega) ⟨t3++[10],by omega,(by simp only [List.length_append,List.length_cons,List.length_nil]; omega),rfl,rfl⟩
  | exact ret_gen _ _ _ rfl rfl rfl ⟨c,t3,rfl,hcd,by omega,rfl⟩
  | exact ret_gen _ _ _ rfl rfl rfl ⟨c,t,rfl,hcd,by omega,rfl⟩
  | skip
end Go.Proofs.YtekmkgegjicjgaaGreat

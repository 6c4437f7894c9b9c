import Derived.Test.YtekmkgegjicjgaaGreatZIr4
import Derived.Test.YtekmkgegjicjgaaGreatZBas
import Derived.Test.YtekmkgegjicjgaaGreatZCDraw9
namespace Go.Proofs.YtekmkgegjicjgaaGreat
open Go.Dv Go.Dv.EvL
set_option maxRecDepth 100000
set_option maxHeartbeats 16000000
attribute [local irreducible] Ok Rm Dm Om Sm Xm Cm Gm Hm Tm
def DrQ (d:DV)(H:Heap):Prop := ∃ (c:Cs) (t:Txt),d = .tup [.p c.pv,.p (.str t)]∧CdIn c∧t.length≤10000∧H=[]
def oneX:Rec:=⟨[120],[]⟩
theorem oneX_pv:oneX.pv = .agg [.str [120],.str []]:=rfl
theorem k_DrawExecuteCommand (code:List UInt8)(hc:code.length≤65536):Okw Tryz.prog 34 [codeP code] DrQ:=by
 refine ok_D hmix c_spec_DrawExecuteCommand (by simp) ?_
 have hk:=fun (a s:Int) (h:0≤a∧a≤600000)=>k_console code a s hc h
 refine sF fun dc hdc => ?_; refine sA ?_
 repeat' (first|refine sA ?_|refine sO ‹_› fun dc hdc => ?_|refine sN ?_|unfold codeP|(refine Rm_mc rfl rfl (hk _ _ (by omega)) (fun r H2 hh => ?_); obtain ⟨c,a1,s1,rfl,hcd,g1,g2,rfl⟩:=hh; simp only [cs_pv])|refine sB ?_|refine sX ?_ ?_<;>(try intro h)<;>(try omega)|exact sP|refine rK ?_|exact sQ|refine sD ?_|exact sE|omega)
 refine Rm_one hc rfl (by omega) (by omega) (fun w a2 s2 d1 d2 => ?_)
 cases w
 case' true =>
  repeat' (first|refine sA ?_|refine sO ‹_› fun dc hdc => ?_|refine sN ?_|refine sB ?_|refine sX ?_ ?_<;>(try intro h)<;>(try omega)|exact sP|refine rK ?_|exact sQ|refine sD ?_|exact sE|omega)
  refine Rm_pick hc rfl (by omega) (by omega) (fun n a3 s3 e1 e2 e3 => ?_)
  repeat' (first|refine sA ?_|refine sO ‹_› fun dc hdc => ?_|refine sN ?_|refine sB ?_|refine sX ?_ ?_<;>(try intro h)<;>(try omega)|exact sP|refine rK ?_|exact sQ|refine sD ?_|exact sE|omega)
  refine Dm_loop [2,4,5,6,7] (fun m ds H' => ∃ (x y:List UInt8) (z:Int),m≤60∧x.length+y.length+400 * m≤24000∧0≤z∧z≤60∧ds=[.ptr 0 0 0,.ptr 1 0 0,.ptr 2 0 0,.ptr 3 0 0,.p (.int .i64 m)]∧H'=[zC,curO code a3 s3,cO c,.box 38 [.p (.str x),.p (.str y),.p (.int .i64 z)]]) (59+n) ⟨[],[],0,by omega,by simp; omega,by omega,by omega,rfl,rfl⟩ ?_
  rintro m ds H' ⟨x,y,z,i1,i2,i3,i4,rfl,rfl⟩ -
  unfold zC cO
  have ha:=k_sAppendW ⟨x,y,z⟩ oneX (by simp only []; omega) ⟨i3,i4⟩ ⟨by simp [oneX],by simp [oneX]⟩
  rw [oneX_pv] at ha
  repeat' (first|refine sA ?_|refine sO ‹_› fun dc hdc => ?_|refine sN ?_|(refine Rm_o ha rfl (fun r H2 hh => ?_); obtain ⟨x2,y2,z2,b2,rfl,rfl,j1,j2,j3⟩:=hh)|refine sB ?_|refine sX ?_ ?_<;>(try intro h)<;>(try omega)|exact sP|refine rK ?_|exact sQ|refine sD ?_|exact sE|omega)
 case' false =>
  have hcd2:=hcd
  have hcm:=fun (a s:Int) (h:0≤a∧a≤700000000)=>k_command code a s c hc h hcd
  obtain ⟨X,hX⟩ : ∃ X,X=c:=⟨_,rfl⟩
  rw [← hX] at hcd2
  simp only [cs_pv] at hcm
  repeat' (first|refine sA ?_|refine sO ‹_› fun dc hdc => ?_|refine sN ?_|refine sB ?_|refine sX ?_ ?_<;>(try intro h)<;>(try omega)|exact sP|refine rK ?_|exact sQ|refine sD ?_|exact sE|omega)
 all_goals first
  | exact Xm_inv_n (m - 1) (by omega) ⟨x2,y2,z2,by omega,by simp only [] at j1; omega,by omega,by omega,rfl,rfl⟩
  | skip
 case' true.refine_2 =>
  have hcd2:=cd_log (x:=x) (y:=y) (z:=z) hcd (by omega)
  have hcm:=fun (a s:Int) (h:0≤a∧a≤700000000)=>k_command code a s _ hc h hcd2
  obtain ⟨X,hX⟩ : ∃ X,X=(⟨c.mn,c.hl,c.al,⟨x,y,z⟩⟩:Cs):=⟨_,rfl⟩
  rw [← hX] at hcd2
  simp only [cs_pv] at hcm
 all_goals
  have hs:=fun (a s:Int) (t:List UInt8) (h:0≤a∧a≤1099511627000∧t.length≤1000000)=>k_spoilt code a s t [32,48,49,65,64,35,44] hc ⟨h.1,h.2.1⟩ h.2.2 (by simp)
  repeat' (first|refine sA ?_|refine sO ‹_› fun dc hdc => ?_|refine sN ?_|(refine Rm_mc rfl rfl (hcm _ _ (by omega)) (fun r H2 hh => ?_); obtain ⟨t,a4,s4,rfl,ht,j1,j2,rfl⟩:=hh)|(refine Rm_pick hc rfl (by omega) (by first|omega|(simp; omega)) (fun r a1 s1 q2 q3 q4 => ?_))|(refine Rm_one hc rfl (by omega) (by first|omega|(simp; omega)) (fun r a1 s1 q3 q4 => ?_))|(refine Rm_of 1000 hc rfl rfl rfl (by omega) (by omega) (by first|decide|omega) (by decide) (fun r a1 s1 q1 q2 q3 q4 => ?_); clear q2)|(refine Rm_among (-1000000000000) 1000000000000 hc rfl rfl rfl (by omega) (by omega) (by first|decide|(simp; omega)) (by decide) (fun r a1 s1 q1 q2 q5 q3 q4 => ?_); clear q5)|(refine Rm_mc rfl rfl (hs _ _ _ (by omega)) (fun r H2 hh => ?_); obtain ⟨t2,a6,s6,rfl,ht2,j3,j4,rfl⟩:=hh)|refine sB ?_|refine sX ?_ ?_<;>(try intro h)<;>(try omega)|exact sP|refine rK ?_|exact sQ|refine sD ?_|exact sE|omega)
 all_goals subst hX
 all_goals first
  | (refine ret_gen _ _ _ rfl rfl rfl ⟨_,t,?_,hcd2,?_,rfl⟩; · rfl
     omega)
  | (refine ret_gen _ _ _ rfl rfl rfl ⟨_,t2,?_,hcd2,?_,rfl⟩; · rfl
     omega)
  | skip
end Go.Proofs.YtekmkgegjicjgaaGreat

import Derived.Test.YtekmkgegjicjgaaGreatZBas
import Derived.Test.YtekmkgegjicjgaaGreatZRun
import Derived.Test.YtekmkgegjicjgaaGreatZCu
namespace Go.Proofs.YtekmkgegjicjgaaGreat
open Go.Dv Go.Dv.EvL
set_option maxRecDepth 100000
set_option maxHeartbeats 16000000
attribute [local irreducible] Ok Rm Dm Om Sm Xm Cm Gm Hm Tm
theorem k_vBig (code:List UInt8)(hc:code.length≤9223372036854775807):Okv Tryz.prog 25 [codeP code] (.p (.bool (decide (65536<code.length)))):=by
 refine ok_D hmix c_laws_vBig (by simp) ?_
 unfold codeP
 refine sA ?_
 repeat' (first|refine sA ?_|refine sN ?_|refine sB ?_|refine sX ?_ ?_<;>(try intro h)<;>(try omega)|exact sP|refine rK ?_|exact sQ|refine sD ?_|rfl|exact sE|omega)
theorem k_vReceiver (n:Int)(xs:List Hd)(hb:xs.length≤1048576):Okv Tryz.prog 73 [.agg [.int .i64 n,.sl 10 (xs.map Hd.pv)],.agg [.int .i64 n,.sl 10 (xs.map Hd.pv)]] (.p (.bool true)):=by
 refine ok_D hmix c_laws_vReceiver (by simp) ?_
 refine sA ?_
 repeat' (first|refine sA ?_|refine sN ?_|refine sB ?_|refine sX ?_ ?_<;>(try intro h)<;>(try omega)|exact sP|refine rK ?_|exact sQ|refine sD ?_|rfl|exact sE|omega)
 refine Dm_loop [2,3,5] (fun m ds H' => ∃ i:Nat,i≤xs.length∧m=xs.length - i∧ds=[.ptr 0 0 0,.ptr 1 0 0,.p (.int .i64 i)]∧H'=[.box 36 [.p (.int .i64 n),.p (.sl 10 (xs.map Hd.pv))],.box 36 [.p (.int .i64 n),.p (.sl 10 (xs.map Hd.pv))]]) xs.length ⟨0,by omega,by omega,rfl,rfl⟩ ?_
 rintro m ds H' ⟨i,hi,rfl,rfl,rfl⟩ -
 repeat' (first|refine sA ?_|refine sN ?_|rw [hd_pv]|refine dr ?_|refine dr01 ?_|refine sB ?_|refine sX ?_ ?_<;>(try intro h)<;>(try omega)|exact sP|refine rK ?_|exact sQ|refine sD ?_|rfl|exact sE|omega)
 all_goals skip
 ·exact Xm_inv_n (xs.length - (i+1)) (by omega) ⟨i+1,by omega,rfl,rfl,rfl⟩
theorem k_vAlerts (xs:List Al)(hb:xs.length≤1048576):Okv Tryz.prog 74 [.sl 5 (xs.map Al.pv),.sl 5 (xs.map Al.pv)] (.p (.bool true)):=by
 refine ok_D hmix c_laws_vAlerts (by simp) ?_
 refine sA ?_
 refine Dm_loop [0,1,5] (fun m ds H' => ∃ i:Nat,i≤xs.length∧m=xs.length - i∧ds=[.p (.sl 5 (xs.map Al.pv)),.p (.sl 5 (xs.map Al.pv)),.p (.int .i64 i)]∧H'=[]) xs.length ⟨0,by omega,by omega,rfl,rfl⟩ ?_
 rintro m ds H' ⟨i,hi,rfl,rfl,rfl⟩ -
 repeat' (first|refine sA ?_|refine sN ?_|rw [al_pv]|refine dr ?_|refine dr0 ?_|refine sB ?_|refine sX ?_ ?_<;>(try intro h)<;>(try omega)|exact sP|refine rK ?_|exact sQ|refine sD ?_|rfl|exact sE|omega)
 all_goals skip
 ·exact Xm_inv_n (xs.length - (i+1)) (by omega) ⟨i+1,by omega,rfl,rfl,rfl⟩
theorem k_vConsole (c:Cs)(hf:CsFits c):Okv Tryz.prog 30 [c.pv,c.pv] (.p (.bool true)):=by
 refine ok_D hmix c_laws_vConsole (by simp) ?_
 obtain ⟨f1,f2,f3,f4⟩:=hf
 have h1:=k_vReceiver c.mn c.hl f1
 have h2:=k_vAlerts c.al f2
 rw [cs_pv] at *
 refine sA ?_
 repeat' (first|refine sA ?_|refine sN ?_|refine rW rfl (h1) ?_|refine rV (h1) ?_|refine rW rfl (h2) ?_|refine rV (h2) ?_|refine dr ?_|refine dr01 ?_|refine sB ?_|refine sX ?_ ?_<;>(try intro h)<;>(try omega)|exact sP|refine rK ?_|exact sQ|refine sD ?_|rfl|exact sE|omega)
 all_goals skip
def spO (s:Txt):List Txt × Bool:=if s.length≤4000 then (splitB 10 s,true) else ([],false)
theorem k_sSplitString0 (s:Txt)(h : ¬ s.length≤4000)(hl:s.length≤1099511627776):Okw Tryz.prog 31 [.str s,.str [10]] fun d H=>d = .tup [.own 0 0 0,.p (.bool false)]∧H=[.arr 9 1 []]:=by
 refine ok_D hmix c_spec_SplitString (by simp) ?_
 refine sA ?_
 repeat' (first|refine sA ?_|refine sN ?_|refine sB ?_|refine sX ?_ ?_<;>(try intro h)<;>(try omega)|exact sP|refine rK ?_|exact sQ|refine sD ?_|rfl|exact sE|omega)
 all_goals skip
theorem k_sSplitString (s:Txt)(hl:s.length≤1099511627776):Okv Tryz.prog 31 [.str s,.str [10]] (.tup [.p (slS (spO s).1),.p (.bool (spO s).2)]):=by
 unfold spO
 split
 ·rename_i h
  refine ok_D hmix c_spec_SplitString (by simp) ?_
  have h1:=k_l1SplitN s hl
  generalize splitB 10 s=L at *
  refine sA ?_
  repeat' (first|refine sA ?_|refine sN ?_|(refine Rm_o h1 rfl (fun r H2 hh => ?_); obtain ⟨rfl,rfl⟩:=hh)|(refine Rm_byte 10 rfl ?_; rw [show (((10:UInt8).toNat:Nat):Int)=10 from rfl])|refine sB ?_|refine sX ?_ ?_<;>(try intro h)<;>(try omega)|exact sP|refine rK ?_|exact sQ|refine sD ?_|rfl|exact sE|omega)
  all_goals skip
 ·rename_i h
  refine ok_frz (k_sSplitString0 s h hl) fun d H hh=>⟨fun ob ho=>by simp at ho,_,?_,rfl,by simp⟩
  obtain ⟨rfl,rfl⟩:=hh
  refine .inr ⟨_,[slS [],.bool false],rfl,?_,rfl⟩
  simp [hid,viewOf,viewOfs,slS]
end Go.Proofs.YtekmkgegjicjgaaGreat

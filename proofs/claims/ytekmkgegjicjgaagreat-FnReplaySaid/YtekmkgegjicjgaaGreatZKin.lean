import Derived.Test.YtekmkgegjicjgaaGreatZBas
namespace Go.Proofs.YtekmkgegjicjgaaGreat
open Go.Dv Go.Dv.EvL
set_option maxRecDepth 100000
set_option maxHeartbeats 16000000
attribute [local irreducible] Ok Rm Dm Om Sm Xm Cm Gm Hm Tm
structure Hd where
 addr:Int
 eo:Bool
 ea:Int
 eb:Int
 eAt:Int
 oo:Bool
 oa:Int
 ob:Int
 oAt:Int
 fr:Int
deriving DecidableEq
instance:Inhabited Hd:=⟨⟨0,false,0,0,0,false,0,0,0,0⟩⟩
def Hd.pv (r:Hd):PV := .agg [.int .i64 r.addr,.bool r.eo,.int .i64 r.ea,.int .i64 r.eb,.int .i64 r.eAt,.bool r.oo,.int .i64 r.oa,.int .i64 r.ob,.int .i64 r.oAt,.int .i64 r.fr]
theorem hd_pv (r:Hd):r.pv = .agg [.int .i64 r.addr,.bool r.eo,.int .i64 r.ea,.int .i64 r.eb,.int .i64 r.eAt,.bool r.oo,.int .i64 r.oa,.int .i64 r.ob,.int .i64 r.oAt,.int .i64 r.fr]:=rfl
def Hd.bds (r:Hd):Prop:=W64 r.addr∧W64 r.ea∧W64 r.eb∧W64 r.eAt∧W64 r.oa∧W64 r.ob∧W64 r.oAt∧W64 r.fr
set_option maxRecDepth 100000 in
theorem open_Heard {m:Nat}{xs:List PV}(h:PTy Tryz.prog (m+4) 178 xs) : ∃ r:Hd,mkEl (aggB Tryz.prog 178) xs=r.pv∧r.bds:=by
 have e:aggB Tryz.prog 178=true:=by kernel_rfl
 obtain ⟨_,_,rfl,h0,_,_,rfl,h1,_,_,rfl,h2,_,_,rfl,h3,_,_,rfl,h4,_,_,rfl,h5,rfl⟩:=pty_struct Tryz.underlying178 h
 obtain ⟨a0,rfl,b0⟩:=pty_int Tryz.underlying3 h0
 obtain ⟨_,_,rfl,g0,_,_,rfl,g1,_,_,rfl,g2,rfl⟩:=pty_struct Tryz.underlying176 h1
 obtain ⟨a1,rfl⟩:=pty_bool Tryz.underlying4 g0
 obtain ⟨a2,rfl,b2⟩:=pty_int Tryz.underlying3 g1
 obtain ⟨a3,rfl,b3⟩:=pty_int Tryz.underlying3 g2
 obtain ⟨a4,rfl,b4⟩:=pty_int Tryz.underlying3 h2
 obtain ⟨_,_,rfl,g3,_,_,rfl,g4,_,_,rfl,g5,rfl⟩:=pty_struct Tryz.underlying176 h3
 obtain ⟨a5,rfl⟩:=pty_bool Tryz.underlying4 g3
 obtain ⟨a6,rfl,b6⟩:=pty_int Tryz.underlying3 g4
 obtain ⟨a7,rfl,b7⟩:=pty_int Tryz.underlying3 g5
 obtain ⟨a8,rfl,b8⟩:=pty_int Tryz.underlying3 h4
 obtain ⟨a9,rfl,b9⟩:=pty_int Tryz.underlying3 h5
 rw [e]
 exact ⟨⟨a0,a1,a2,a3,a4,a5,a6,a7,a8,a9⟩,rfl,wf64 b0,wf64 b2,wf64 b3,wf64 b4,wf64 b6,wf64 b7,wf64 b8,wf64 b9⟩
set_option maxRecDepth 100000 in
theorem open_Heards {m:Nat}{xs:List PV}(h:PTy Tryz.prog (m+6) 22 xs) : ∃ rs:List Hd,mkEl (aggB Tryz.prog 22) xs = .sl 10 (rs.map Hd.pv)∧rs.length≤9223372036854775807 ∧ ∀ r∈rs,r.bds:=by
 have e:aggB Tryz.prog 22=false:=by kernel_rfl
 obtain ⟨rows,rfl,hl,hr⟩:=pty_slice Tryz.underlying22 h
 obtain ⟨rs,h1,h2⟩:=els_of (G:=fun r:Hd=>r.bds) (f:=Hd.pv) (fun ys hy=>open_Heard hy) hr
 rw [e,(by kernel_rfl:Tryz.prog.cellsOf 178=10),h1]
 exact ⟨rs,rfl,by rw [← List.length_map (f:=Hd.pv),← h1,List.length_map]; exact hl,h2⟩
theorem k_toReport (o:Bool)(a b:Int):Okv Tryz.prog 185 [.agg [.bool o,.int .i64 a,.int .i64 b]] (.p (.agg [.bool o,.int .i64 a,.int .i64 b])):=by
 refine ok_D hmix c_laws_toReport (by simp) ?_
 refine sA ?_
 repeat' (first|refine sA ?_|refine sN ?_|refine sB ?_|refine sX ?_ ?_<;>(try intro h)<;>(try omega)|exact sP|refine rK ?_|exact sQ|refine sD ?_|rfl|exact sE|omega)
theorem k_eqReport (o:Bool)(a b:Int):Okv Tryz.prog 186 [.agg [.bool o,.int .i64 a,.int .i64 b],.agg [.bool o,.int .i64 a,.int .i64 b]] (.p (.bool true)):=by
 refine ok_D hmix c_laws_eqReport (by simp) ?_
 refine sA ?_
 repeat' (first|refine sA ?_|refine sN ?_|refine sB ?_|refine sX ?_ ?_<;>(try intro h)<;>(try omega)|exact sP|refine rK ?_|exact sQ|refine sD ?_|rfl|exact sE|omega)
theorem k_toHeard (r:Hd):Okv Tryz.prog 143 [r.pv] (.p r.pv):=by
 refine ok_D hmix c_laws_toHeard (by simp) ?_
 rw [hd_pv r]
 refine sA ?_
 repeat' (first|refine sA ?_|refine sN ?_|refine rW rfl (k_toReport _ _ _) ?_|refine rV (k_toReport _ _ _) ?_|refine sB ?_|refine sX ?_ ?_<;>(try intro h)<;>(try omega)|exact sP|refine rK ?_|exact sQ|refine sD ?_|rfl|exact sE|omega)
theorem k_eqHeard (a:Hd):Okv Tryz.prog 144 [a.pv,a.pv] (.p (.bool true)):=by
 refine ok_D hmix c_laws_eqHeard (by simp) ?_
 obtain ⟨a0,a1,a2,a3,a4,a5,a6,a7,a8,a9⟩:=a
 simp only [hd_pv]
 refine sA ?_
 repeat' (first|refine sA ?_|refine sN ?_|refine rW rfl (k_eqReport _ _ _) ?_|refine rV (k_eqReport _ _ _) ?_|refine sB ?_|refine sX ?_ ?_<;>(try intro h)<;>(try omega)|exact sP|refine rK ?_|exact sQ|refine sD ?_|rfl|exact sE|omega)
theorem k_szHeardS (xs:List Hd)(n:Int)(hn:0≤n∧n≤1048576)(hl:xs.length≤9223372036854775807):Okv Tryz.prog 86 [.sl 10 (xs.map Hd.pv),.int .i64 n] (.p (.int .i64 (szO n xs.length))):=by
 refine ok_D hmix c_laws_szHeardS (by simp) ?_
 have hs:szO n xs.length=if n<xs.length then -1 else n - xs.length:=rfl
 refine sA ?_
 repeat' (first|refine sA ?_|refine sN ?_|refine sB ?_|refine sX ?_ ?_<;>(try intro h)<;>(try omega)|exact sP|refine rK ?_|exact sQ|refine sD ?_|rfl|exact sE|omega)
 all_goals grind
theorem k_toHeardS (xs:List Hd)(hb:xs.length≤1048576):Okw Tryz.prog 89 [.sl 10 (xs.map Hd.pv)] fun d H=>d = .own 0 0 xs.length∧H=[.arr 111 10 (xs.map Hd.pv)]:=by
 refine ok_D hmix c_laws_toHeardS (by simp) ?_
 refine sA ?_
 repeat' (first|refine sA ?_|refine sN ?_|refine sB ?_|refine sX ?_ ?_<;>(try intro h)<;>(try omega)|exact sP|refine rK ?_|exact sQ|refine sD ?_|rfl|exact sE|omega)
 refine Dm_loop [0,3,4] (fun m ds H' => ∃ i:Nat,i≤xs.length∧m=xs.length - i∧ds=[.p (.sl 10 (xs.map Hd.pv)),.own 0 0 xs.length,.p (.int .i64 i)]∧H'=[.arr 111 10 ((xs.take i++List.replicate (xs.length - i) (default:Hd)).map Hd.pv)]) xs.length ⟨0,by omega,by omega,rfl,by simp; rfl⟩ ?_
 rintro m ds H' ⟨i,hi,rfl,rfl,rfl⟩ -
 have h1:=fun h:i<xs.length=>fillD_step (d:=default) (z:=(default:Hd)) h
 have h2:=k_toHeard (xs.getD i default)
 have h3:(xs.take i++List.replicate (xs.length - i) (default:Hd)).length=xs.length:=by simp; omega
 repeat' (first|refine sA ?_|refine sN ?_|refine rW rfl (h2) ?_|refine rV (h2) ?_|(refine Rm_putw (by omega) (xs.getD i default) rfl (by first|rfl|exact putw_rfl) rfl ?_)|refine sB ?_|refine sX ?_ ?_<;>(try intro h)<;>(try omega)|exact sP|refine rK ?_|exact sQ|refine sD ?_|rfl|exact sE|omega)
 ·rw [h1 (by omega)]
  exact Xm_inv_n (xs.length - (i+1)) (by omega) ⟨i+1,by omega,rfl,rfl,rfl⟩
 ·obtain rfl:i=xs.length:=by omega
  refine ret_gen _ _ _ rfl rfl rfl ⟨rfl,?_⟩
  show [OB.arr _ _ ((xs.take xs.length++List.replicate (xs.length - xs.length) (default:Hd)).map Hd.pv)]=_
  simp
theorem k_eqHeardS (xs:List Hd)(hb:xs.length≤1048576):Okv Tryz.prog 91 [.sl 10 (xs.map Hd.pv),.sl 10 (xs.map Hd.pv)] (.p (.bool true)):=by
 refine ok_D hmix c_laws_eqHeardS (by simp) ?_
 refine sA ?_
 refine Dm_loop [0,1,5] (fun m ds H' => ∃ i:Nat,i≤xs.length∧m=xs.length - i∧ds=[.p (.sl 10 (xs.map Hd.pv)),.p (.sl 10 (xs.map Hd.pv)),.p (.int .i64 i)]∧H'=[]) xs.length ⟨0,by omega,by omega,rfl,rfl⟩ ?_
 rintro m ds H' ⟨i,hi,rfl,rfl,rfl⟩ -
 have h2:=k_eqHeard (xs.getD i default)
 repeat' (first|refine sA ?_|refine sN ?_|refine rW rfl (h2) ?_|refine rV (h2) ?_|refine sB ?_|refine sX ?_ ?_<;>(try intro h)<;>(try omega)|exact sP|refine rK ?_|exact sQ|refine sD ?_|rfl|exact sE|omega)
 ·exact Xm_inv_n (xs.length - (i+1)) (by omega) ⟨i+1,by omega,rfl,rfl,rfl⟩
theorem k_eqHeard0 (k1 k2:Nat):Okv Tryz.prog 91 [.sl k1 [],.sl k2 []] (.p (.bool true)):=by
 refine ok_D hmix c_laws_eqHeardS (by simp) ?_
 refine sA ?_
 refine Dm_loop [0,1,5] (fun m ds H'=>ds=[.p (.sl k1 []),.p (.sl k2 []),.p (.int .i64 0)]∧H'=[]) 0 ⟨rfl,rfl⟩ ?_
 rintro m ds H' ⟨rfl,rfl⟩ -
 repeat' (first|refine sA ?_|refine sN ?_|refine sB ?_|refine sX ?_ ?_<;>(try intro h)<;>(try omega)|exact sP|refine rK ?_|exact sQ|refine sD ?_|rfl|exact sE|omega)
structure Al where
 low:Int
 high:Int
 lvl:Int
 since:Int
 seen:Bool
deriving DecidableEq
instance:Inhabited Al:=⟨⟨0,0,0,0,false⟩⟩
def Al.pv (r:Al):PV := .agg [.int .i64 r.low,.int .i64 r.high,.int .i64 r.lvl,.int .i64 r.since,.bool r.seen]
theorem al_pv (r:Al):r.pv = .agg [.int .i64 r.low,.int .i64 r.high,.int .i64 r.lvl,.int .i64 r.since,.bool r.seen]:=rfl
def Al.bds (r:Al):Prop:=W64 r.low∧W64 r.high∧W64 r.lvl∧W64 r.since
set_option maxRecDepth 100000 in
theorem open_Al {m:Nat}{xs:List PV}(h:PTy Tryz.prog (m+2) 119 xs) : ∃ r:Al,mkEl (aggB Tryz.prog 119) xs=r.pv∧r.bds:=by
 have e:aggB Tryz.prog 119=true:=by kernel_rfl
 obtain ⟨_,_,rfl,h0,_,_,rfl,h1,_,_,rfl,h2,_,_,rfl,h3,_,_,rfl,h4,rfl⟩:=pty_struct Tryz.underlying119 h
 obtain ⟨a0,rfl,b0⟩:=pty_int Tryz.underlying3 h0
 obtain ⟨a1,rfl,b1⟩:=pty_int Tryz.underlying3 h1
 obtain ⟨a2,rfl,b2⟩:=pty_int Tryz.underlying3 h2
 obtain ⟨a3,rfl,b3⟩:=pty_int Tryz.underlying3 h3
 obtain ⟨a4,rfl⟩:=pty_bool Tryz.underlying4 h4
 rw [e]
 exact ⟨⟨a0,a1,a2,a3,a4⟩,rfl,wf64 b0,wf64 b1,wf64 b2,wf64 b3⟩
theorem k_toAlert (r:Al):Okv Tryz.prog 90 [r.pv] (.p r.pv):=by
 refine ok_D hmix c_laws_toAlert (by simp) ?_
 rw [al_pv r]
 refine sA ?_
 repeat' (first|refine sA ?_|refine sN ?_|refine sB ?_|refine sX ?_ ?_<;>(try intro h)<;>(try omega)|exact sP|refine rK ?_|exact sQ|refine sD ?_|rfl|exact sE|omega)
theorem k_eqAlert (a b:Al):Okv Tryz.prog 92 [a.pv,b.pv] (.p (.bool (decide (a=b)))):=by
 refine ok_D hmix c_laws_eqAlert (by simp) ?_
 obtain ⟨a0,a1,a2,a3,a4⟩:=a
 obtain ⟨b0,b1,b2,b3,b4⟩:=b
 simp only [al_pv]
 refine sA ?_
 repeat' (first|refine sA ?_|refine sN ?_|refine sB ?_|refine sX ?_ ?_<;>(try intro h)<;>(try omega)|exact sP|refine rK ?_|exact sQ|refine sD ?_|rfl|exact sE|omega)
 all_goals grind
def alBds (xs:List Al):Prop := ∀ r∈xs,r.bds
set_option maxRecDepth 100000 in
theorem open_Alerts {m:Nat}{xs:List PV}(h:PTy Tryz.prog (m+4) 25 xs) : ∃ rs:List Al,mkEl (aggB Tryz.prog 25) xs = .sl 5 (rs.map Al.pv)∧rs.length≤9223372036854775807∧alBds rs:=by
 have e:aggB Tryz.prog 25=false:=by kernel_rfl
 obtain ⟨rows,rfl,hl,hr⟩:=pty_slice Tryz.underlying25 h
 obtain ⟨rs,h1,h2⟩:=els_of (G:=fun r:Al=>r.bds) (f:=Al.pv) (fun ys hy=>open_Al hy) hr
 rw [e,(by kernel_rfl:Tryz.prog.cellsOf 119=5),h1]
 exact ⟨rs,rfl,by rw [← List.length_map (f:=Al.pv),← h1,List.length_map]; exact hl,h2⟩
theorem k_szAlertS (xs:List Al)(n:Int)(hn:0≤n∧n≤1048576)(hl:xs.length≤9223372036854775807):Okv Tryz.prog 41 [.sl 5 (xs.map Al.pv),.int .i64 n] (.p (.int .i64 (szO n xs.length))):=by
 refine ok_D hmix c_laws_szAlertS (by simp) ?_
 have hs:szO n xs.length=if n<xs.length then -1 else n - xs.length:=rfl
 refine sA ?_
 repeat' (first|refine sA ?_|refine sN ?_|refine sB ?_|refine sX ?_ ?_<;>(try intro h)<;>(try omega)|exact sP|refine rK ?_|exact sQ|refine sD ?_|rfl|exact sE|omega)
 all_goals grind
theorem k_toAlertS (xs:List Al)(hb:xs.length≤1048576):Okw Tryz.prog 45 [.sl 5 (xs.map Al.pv)] fun d H=>d = .own 0 0 xs.length∧H=[.arr 114 5 (xs.map Al.pv)]:=by
 refine ok_D hmix c_laws_toAlertS (by simp) ?_
 refine sA ?_
 repeat' (first|refine sA ?_|refine sN ?_|refine sB ?_|refine sX ?_ ?_<;>(try intro h)<;>(try omega)|exact sP|refine rK ?_|exact sQ|refine sD ?_|rfl|exact sE|omega)
 refine Dm_loop [0,3,4] (fun m ds H' => ∃ i:Nat,i≤xs.length∧m=xs.length - i∧ds=[.p (.sl 5 (xs.map Al.pv)),.own 0 0 xs.length,.p (.int .i64 i)]∧H'=[.arr 114 5 ((xs.take i++List.replicate (xs.length - i) (default:Al)).map Al.pv)]) xs.length ⟨0,by omega,by omega,rfl,by simp; rfl⟩ ?_
 rintro m ds H' ⟨i,hi,rfl,rfl,rfl⟩ -
 have h1:=fun h:i<xs.length=>fillD_step (d:=default) (z:=(default:Al)) h
 have h2:=k_toAlert (xs.getD i default)
 have h3:(xs.take i++List.replicate (xs.length - i) (default:Al)).length=xs.length:=by simp; omega
 repeat' (first|refine sA ?_|refine sN ?_|refine rW rfl (h2) ?_|refine rV (h2) ?_|(refine Rm_putw (by omega) (xs.getD i default) rfl (by first|rfl|exact putw_rfl) rfl ?_)|refine sB ?_|refine sX ?_ ?_<;>(try intro h)<;>(try omega)|exact sP|refine rK ?_|exact sQ|refine sD ?_|rfl|exact sE|omega)
 ·rw [h1 (by omega)]
  exact Xm_inv_n (xs.length - (i+1)) (by omega) ⟨i+1,by omega,rfl,rfl,rfl⟩
 ·obtain rfl:i=xs.length:=by omega
  refine ret_gen _ _ _ rfl rfl rfl ⟨rfl,?_⟩
  show [OB.arr _ _ ((xs.take xs.length++List.replicate (xs.length - xs.length) (default:Al)).map Al.pv)]=_
  simp
theorem k_eqAlertS (xs:List Al)(hb:xs.length≤1048576):Okv Tryz.prog 48 [.sl 5 (xs.map Al.pv),.sl 5 (xs.map Al.pv)] (.p (.bool true)):=by
 refine ok_D hmix c_laws_eqAlertS (by simp) ?_
 refine sA ?_
 refine Dm_loop [0,1,5] (fun m ds H' => ∃ i:Nat,i≤xs.length∧m=xs.length - i∧ds=[.p (.sl 5 (xs.map Al.pv)),.p (.sl 5 (xs.map Al.pv)),.p (.int .i64 i)]∧H'=[]) xs.length ⟨0,by omega,by omega,rfl,rfl⟩ ?_
 rintro m ds H' ⟨i,hi,rfl,rfl,rfl⟩ -
 have h2:=k_eqAlert (xs.getD i default) (xs.getD i default)
 rw [decide_eq_true rfl] at h2
 repeat' (first|refine sA ?_|refine sN ?_|refine rW rfl (h2) ?_|refine rV (h2) ?_|refine sB ?_|refine sX ?_ ?_<;>(try intro h)<;>(try omega)|exact sP|refine rK ?_|exact sQ|refine sD ?_|rfl|exact sE|omega)
 ·exact Xm_inv_n (xs.length - (i+1)) (by omega) ⟨i+1,by omega,rfl,rfl,rfl⟩
theorem k_eqAlert0 (k1 k2:Nat):Okv Tryz.prog 48 [.sl k1 [],.sl k2 []] (.p (.bool true)):=by
 refine ok_D hmix c_laws_eqAlertS (by simp) ?_
 refine sA ?_
 refine Dm_loop [0,1,5] (fun m ds H'=>ds=[.p (.sl k1 []),.p (.sl k2 []),.p (.int .i64 0)]∧H'=[]) 0 ⟨rfl,rfl⟩ ?_
 rintro m ds H' ⟨rfl,rfl⟩ -
 repeat' (first|refine sA ?_|refine sN ?_|refine sB ?_|refine sX ?_ ?_<;>(try intro h)<;>(try omega)|exact sP|refine rK ?_|exact sQ|refine sD ?_|rfl|exact sE|omega)
end Go.Proofs.YtekmkgegjicjgaaGreat

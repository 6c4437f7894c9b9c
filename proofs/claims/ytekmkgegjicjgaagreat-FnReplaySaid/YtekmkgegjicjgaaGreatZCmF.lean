import Derived.Test.YtekmkgegjicjgaaGreatZBas
import Derived.Test.YtekmkgegjicjgaaGreatZCmB
import Derived.Test.YtekmkgegjicjgaaGreatZWrd
namespace Go.Proofs.YtekmkgegjicjgaaGreat
open Go.Dv Go.Dv.EvL
set_option maxRecDepth 100000
set_option maxHeartbeats 16000000
attribute [local irreducible] Ok Rm Dm Om Sm Xm Cm Gm Hm Tm
theorem flat_hds : ∀ xs:List Hd,flatPs (xs.map Hd.pv)
 | []=>trivial
 | x::xs=>⟨by simp [hd_pv,flatP,flatPs],flat_hds xs⟩
theorem flat_als : ∀ xs:List Al,flatPs (xs.map Al.pv)
 | []=>trivial
 | x::xs=>⟨by simp [al_pv,flatP,flatPs],flat_als xs⟩
theorem flat_ints : ∀ xs:List Int,flatPs (xs.map (.int .i64))
 | []=>trivial
 | _x::xs=>⟨trivial,flat_ints xs⟩
theorem flat_pairs : ∀ xs:List Al,flatPs (xs.map pairPV)
 | []=>trivial
 | x::xs=>⟨by simp [pairPV,flatP,flatPs],flat_pairs xs⟩
theorem k_iFreshO (n:Int)(xs:List Hd)(hb:xs.length≤1048576):Okw Tryz.prog 113 [.agg [.int .i64 n,.sl 10 (xs.map Hd.pv)]] (faD n xs):=by
 refine nil_own 3 1 (by decide) (k_iFresh0 n xs hb) fun d H hh => ?_
 rcases hh with hh|⟨h1,rfl,rfl⟩
 ·exact .inl hh
 ·refine .inr ⟨[.bool (faO n xs).2],⟨trivial,trivial⟩,rfl,rfl,?_⟩
  unfold faD
  rw [h1]
  exact ⟨rfl,rfl⟩
theorem k_iUnseenO (xs:List Al)(hb:xs.length≤1048576):Okw Tryz.prog 117 [.sl 5 (xs.map Al.pv)] (uoD xs):=by
 refine nil_own 158 2 (by decide) (k_iUnseen0 xs hb) fun d H hh => ?_
 rcases hh with hh|⟨h1,rfl,rfl⟩
 ·exact .inl hh
 ·refine .inr ⟨[.bool (uoO xs).2],⟨trivial,trivial⟩,rfl,rfl,?_⟩
  unfold uoD
  rw [h1]
  exact ⟨rfl,rfl⟩
theorem nm1i (w1:Txt):nmO [w1]=if (readO w1).2=true then ([(readO w1).1],true) else ([],false):=by
 unfold nmO nmB
 simp only [List.all_cons,List.all_nil,Bool.and_true]
 rfl
def Cs.dR (c:Cs)(m:Int)(k:Nat):DV := .agg [.p (.int .i64 m),.own 2 0 k,.own 1 0 c.al.length,.p (.str c.lg.dur),.p (.str c.lg.pend),.p (.int .i64 c.lg.cnt)]
def Cs.dA (c:Cs)(k:Nat):DV := .agg [.p (.int .i64 c.mn),.own 0 0 c.hl.length,.own 2 0 k,.p (.str c.lg.dur),.p (.str c.lg.pend),.p (.int .i64 c.lg.cnt)]
def Cs.dB (c:Cs):DV := .agg [.p (.int .i64 0),.p (.sl 1 []),.own 1 0 c.al.length,.p (.str c.lg.dur),.p (.str c.lg.pend),.p (.int .i64 c.lg.cnt)]
def Cs.dC (c:Cs):DV := .agg [.p (.int .i64 c.mn),.own 0 0 c.hl.length,.nil,.p (.str c.lg.dur),.p (.str c.lg.pend),.p (.int .i64 c.lg.cnt)]
theorem cs_dR (c:Cs)(m:Int)(k:Nat):c.dR m k = .agg [.p (.int .i64 m),.own 2 0 k,.own 1 0 c.al.length,.p (.str c.lg.dur),.p (.str c.lg.pend),.p (.int .i64 c.lg.cnt)]:=rfl
theorem cs_dA (c:Cs)(k:Nat):c.dA k = .agg [.p (.int .i64 c.mn),.own 0 0 c.hl.length,.own 2 0 k,.p (.str c.lg.dur),.p (.str c.lg.pend),.p (.int .i64 c.lg.cnt)]:=rfl
theorem cs_dB (c:Cs):c.dB = .agg [.p (.int .i64 0),.p (.sl 1 []),.own 1 0 c.al.length,.p (.str c.lg.dur),.p (.str c.lg.pend),.p (.int .i64 c.lg.cnt)]:=rfl
theorem cs_dC (c:Cs):c.dC = .agg [.p (.int .i64 c.mn),.own 0 0 c.hl.length,.nil,.p (.str c.lg.dur),.p (.str c.lg.pend),.p (.int .i64 c.lg.cnt)]:=rfl
def rowsR (c:Cs)(ys:List Hd):Heap:=[.arr 111 10 (c.hl.map Hd.pv),.arr 114 5 (c.al.map Al.pv),.arr 111 10 (ys.map Hd.pv)]
def rowsA (c:Cs)(ys:List Al):Heap:=[.arr 111 10 (c.hl.map Hd.pv),.arr 114 5 (c.al.map Al.pv),.arr 114 5 (ys.map Al.pv)]
def RsD (c:Cs)(tl:Txt→Bool→List DV):Rs→DV→Heap→Prop
 | .same r,d,H=>d = .tup (c.dv 0 1::tl r true)∧H=c.rows
 | .rcv m ys r,d,H=>d = .tup (c.dR m ys.length::tl r true)∧H=rowsR c ys
 | .alr ys r,d,H=>d = .tup (c.dA ys.length::tl r true)∧H=rowsA c ys
 | .bad,d,H => ∃ r,(d = .tup (c.dv 0 1::tl r false)∨d = .tup (c.dB::tl r false)∨d = .tup (c.dC::tl r false))∧H=c.rows
theorem rs_same (c:Cs)(tl:Txt→Bool→List DV)(r:Txt):RsD c tl (.same r) (.tup (c.dv 0 1::tl r true)) c.rows:=by unfold RsD; exact ⟨rfl,rfl⟩
theorem rs_rcv (c:Cs)(tl:Txt→Bool→List DV)(r:Txt)(m:Int)(ys:List Hd):RsD c tl (.rcv m ys r) (.tup (c.dR m ys.length::tl r true)) (rowsR c ys):=by unfold RsD; exact ⟨rfl,rfl⟩
theorem rs_alr (c:Cs)(tl:Txt→Bool→List DV)(r:Txt)(ys:List Al):RsD c tl (.alr ys r) (.tup (c.dA ys.length::tl r true)) (rowsA c ys):=by unfold RsD; exact ⟨rfl,rfl⟩
theorem rs_bad1 (c:Cs)(tl:Txt→Bool→List DV)(r:Txt):RsD c tl .bad (.tup (c.dv 0 1::tl r false)) c.rows:=by unfold RsD; exact ⟨r,.inl rfl,rfl⟩
theorem rs_bad2 (c:Cs)(tl:Txt→Bool→List DV)(r:Txt):RsD c tl .bad (.tup (c.dB::tl r false)) c.rows:=by unfold RsD; exact ⟨r,.inr (.inl rfl),rfl⟩
theorem rs_bad3 (c:Cs)(tl:Txt→Bool→List DV)(r:Txt):RsD c tl .bad (.tup (c.dC::tl r false)) c.rows:=by unfold RsD; exact ⟨r,.inr (.inr rfl),rfl⟩
def tS:Txt→Bool→List DV:=fun _ ok=>[.p (.bool ok)]
def tT:Txt→Bool→List DV:=fun r ok=>[.p (.str r),.p (.bool ok),.p (.bool true)]
def tR:Txt→Bool→List DV:=fun r ok=>[.p (.str r),.p (.bool ok)]
theorem tS_eq (r:Txt)(b:Bool):tS r b=[.p (.bool b)]:=rfl
theorem tT_eq (r:Txt)(b:Bool):tT r b=[.p (.str r),.p (.bool b),.p (.bool true)]:=rfl
theorem tR_eq (r:Txt)(b:Bool):tR r b=[.p (.str r),.p (.bool b)]:=rfl
theorem k_own (c:Cs)(hf:CsFits c):Okw Tryz.prog 57 [c.pv] fun d H=>d=c.dv 0 1∧H=c.rows:=by
 refine ok_D hmix c_impl_Console_own (by simp) ?_
 obtain ⟨f1,f2,f3,f4⟩:=hf
 rw [cs_pv]
 refine sF fun dc hdc => ?_; refine sA ?_
 repeat' (first|refine sA ?_|refine sO ‹_› fun dc hdc => ?_|refine sN ?_|refine sB ?_|refine sX ?_ ?_<;>(try intro h)<;>(try omega)|exact sP|refine rK ?_|exact sQ|refine sD ?_|exact sE|omega)
 all_goals first
  | exact ret_k (c.dv 0 1) c.rows (by kernel_rfl) ⟨rfl,rfl⟩
  | skip
theorem k_levelP:Okv Tryz.prog 138 [] (.p (slS [[110,111,110,101],[99,97,117,116,105,111,110],[119,97,114,110,105,110,103]])):=spl_pl (ws:=[[110,111,110,101],[99,97,117,116,105,111,110],[119,97,114,110,105,110,103]]) k_levelWords
theorem nm2i (w1 w2:Txt):nmO [w1,w2]=if ((readO w1).2 && (readO w2).2)=true then ([(readO w1).1,(readO w2).1],true) else ([],false):=by
 unfold nmO nmB
 simp only [List.all_cons,List.all_nil,Bool.and_true]
 rfl
def hearX (c:Cs)(w1 w2:Txt):Rs:=if (readO w2).2=true then hearR c w1 (readO w2).1 else .bad
def setX (c:Cs)(w1 w2 w3:Txt):Rs:=if ((readO w2).2=true∧(readO w3).2=true)∧0≤lvI w1 then setR c (readO w2).1 (readO w3).1 (lvI w1) else .bad
theorem set_sh (c:Cs)(w1 w2 w3:Txt):(∃ ys,setX c w1 w2 w3 = .alr ys wOk)∨setX c w1 w2 w3 = .bad:=by
 unfold setX setR
 split
 ·split
  ·exact .inl ⟨_,rfl⟩
  ·exact .inr rfl
 ·exact .inr rfl
theorem lv_of {w:Txt}{i:Nat}(hi:i<3)(h:[[110,111,110,101],[99,97,117,116,105,111,110],[119,97,114,110,105,110,103]].getD i default=w):lvI w=i:=by
 subst h
 rcases (by omega:i=0∨i=1∨i=2) with rfl|rfl|rfl<;>decide
theorem lv_no {w:Txt}(h : ∀ j,j<3→[[110,111,110,101],[99,97,117,116,105,111,110],[119,97,114,110,105,110,103]].getD j default≠w) : ¬ 0≤lvI w:=by
 have h0:=h 0 (by omega)
 have h1:=h 1 (by omega)
 have h2:=h 2 (by omega)
 unfold lvI
 rw [if_neg (fun e=>h0 e.symm),if_neg (fun e=>h1 e.symm),if_neg (fun e=>h2 e.symm)]
 omega
theorem k_set (c:Cs)(w1 w2 w3:Txt)(hf:c.al.length≤1000)(h2:w2.length≤1048576)(h3:w3.length≤1048576):Ok Tryz.prog 170 [c.dv 0 1,.p (slS [w1,w2,w3])] c.rows (RsD c tS (setX c w1 w2 w3)):=by
 refine ok_D hmix c_impl_Console_set (by simp) ?_
 have a2:=k_arguments [w2,w3] (ws_in2 h2 h3)
 rw [nm2i] at a2
 have hX:setX c w1 w2 w3=if ((readO w2).2=true∧(readO w3).2=true)∧0≤lvI w1 then setR c (readO w2).1 (readO w3).1 (lvI w1) else .bad:=rfl
 have a3:=fun l:Nat=>k_iSet c.al (readO w2).1 (readO w3).1 l c.mn hf
 have hS:=fun l:Nat=>show setR c (readO w2).1 (readO w3).1 l=if setB c.al (readO w2).1 (readO w3).1 l c.mn=true then .alr (setL2 c.al (prA (readO w2).1 (readO w3).1 l c.mn)) wOk else .bad from rfl
 generalize (readO w2).1=n1 at *
 generalize (readO w3).1=n2 at *
 generalize setX c w1 w2 w3=X at *
 have lv1:=fun i h1 h2=>lv_of (w:=w1) (i:=i) h1 h2
 have lv2:=fun h=>lv_no (w:=w1) h
 by_cases hb:(readO w2).2=true∧(readO w3).2=true
 ·rw [hb.1,hb.2,if_pos (by decide)] at a2
  have hX:X=if 0≤lvI w1 then setR c n1 n2 (lvI w1) else .bad:=by
   rw [hX]
   simp only [hb,true_and]
   try rfl
  have hP:=k_levelP
  have hln:([[110,111,110,101],[99,97,117,116,105,111,110],[119,97,114,110,105,110,103]]:List Txt).length=3:=rfl
  generalize ([[110,111,110,101],[99,97,117,116,105,111,110],[119,97,114,110,105,110,103]]:List Txt)=LW at *
  rw [cs_dv,cs_rows]
  clear hb
  refine sF fun dc hdc => ?_; refine sA ?_
  repeat' (first|refine sA ?_|refine sO ‹_› fun dc hdc => ?_|refine sN ?_|(refine Rm_o a2 rfl (fun r H2 hh => ?_); obtain ⟨rfl,rfl⟩:=hh)|(refine Rm_o hP rfl (fun r H2 hh => ?_); obtain ⟨rfl,rfl⟩:=hh)|refine sB ?_|refine sX ?_ ?_<;>(try intro h)<;>(try omega)|exact sP|refine rK ?_|exact sQ|refine sD ?_|exact sE|omega)
  refine Dm_loop [1,2,4,6,21,22,23] (fun v ds H' => ∃ i:Nat,i≤LW.length∧v=LW.length - i∧(∀ j,j<i→LW.getD j default≠w1) ∧
   ds=[.p (slS [w1,w2,w3]),.ptr 2 0 0,.ptr 3 0 0,.p (slI .i64 [n1,n2]),.p (slS LW),.p (.int .i64 LW.length),.p (.int .i64 i)] ∧
   H'=[.arr 111 10 (c.hl.map Hd.pv),.arr 114 5 (c.al.map Al.pv),.box 40 [.p (.int .i64 c.mn),.own 0 0 c.hl.length,.own 1 0 c.al.length,.p (.str c.lg.dur),.p (.str c.lg.pend),.p (.int .i64 c.lg.cnt)],.box 40 [.p (.int .i64 0),.nil,.nil,.p (.str []),.p (.str []),.p (.int .i64 0)]]) LW.length ⟨0,by omega,by omega,fun j hj=>by omega,by kernel_rfl,by kernel_rfl⟩ ?_
  rintro v ds H' ⟨i,hi,rfl,hno,rfl,rfl⟩ -
  rcases Nat.lt_or_ge i LW.length with hlt|hge
  ·by_cases hq:LW.getD i default=w1
   ·have hL:=lv1 i (by omega) hq
    rw [hL,if_pos (by omega)] at hX
    have a3:=a3 i
    rw [hS i] at hX
    unfold AlR AlD at a3
    generalize setL2 c.al (prA n1 n2 i c.mn)=R at *
    generalize setB c.al n1 n2 i c.mn=b at *
    have hqb:(LW.getD i default != w1)=false:=bne_eq_false_iff_eq.2 hq
    clear hL lv1 lv2 hS hno hP
    subst hX
    cases b<;>simp only [Bool.false_eq_true,if_true,if_false] at a3 ⊢
    ·repeat' (first|refine sA ?_|refine sO ‹_› fun dc hdc => ?_|refine sN ?_|exact absurd hq (by assumption)|simp only [hqb]|refine dr ?_|refine dr2 ?_|(refine Rm_l a3 (by simp [viewOfs,viewOf,List.take_of_length_le]) (fun r H2 hh => ?_); obtain ⟨rfl,rfl⟩:=hh; refine ⟨by simp [flatD,flatDs,flatP],by simp [flatH],?_⟩)|refine sB ?_|refine sX ?_ ?_<;>(try intro h)<;>(try omega)|exact sP|refine rK ?_|exact sQ|refine sD ?_|exact sE|omega)
     all_goals first
      | exact ret_k (.tup (c.dC::tS [] false)) c.rows (by kernel_rfl) (rs_bad3 c tS [])
      | skip
    ·repeat' (first|refine sA ?_|refine sO ‹_› fun dc hdc => ?_|refine sN ?_|exact absurd hq (by assumption)|simp only [hqb]|refine dr ?_|refine dr2 ?_|(refine Rm_l a3 (by simp [viewOfs,viewOf,List.take_of_length_le]) (fun r H2 hh => ?_); obtain ⟨rfl,rfl⟩:=hh; refine ⟨by simp [flatD,flatDs,flatP],by simp [flatH,flatB,flat_als],?_⟩)|refine sB ?_|refine sX ?_ ?_<;>(try intro h)<;>(try omega)|exact sP|refine rK ?_|exact sQ|refine sD ?_|exact sE|omega)
     all_goals first
      | exact ret_k (.tup (c.dA R.length::tS [] true)) (rowsA c R) (by kernel_rfl) (rs_alr c tS wOk _)
      | skip
   ·have hno2 : ∀ j,j<i+1→LW.getD j default≠w1:=fun j hj=>by
     by_cases hji:j=i
     ·rw [hji]; exact hq
     ·exact hno j (by omega)
    have hqf:(LW.getD i default != w1)=true:=bne_iff_ne.2 hq
    clear lv1 lv2 hS a3 hX hno hP
    repeat' (first|refine sA ?_|refine sO ‹_› fun dc hdc => ?_|refine sN ?_|exact absurd (by assumption) hq|simp only [hqf]|refine sB ?_|refine sX ?_ ?_<;>(try intro h)<;>(try omega)|exact sP|refine rK ?_|exact sQ|refine sD ?_|exact sE|omega)
    all_goals first
     | exact Xm_inv_n (LW.length - (i+1)) (by omega) ⟨i+1,by omega,rfl,hno2,by kernel_rfl,by kernel_rfl⟩
     | skip
  ·rw [if_neg (lv2 (fun j hj=>hno j (by omega)))] at hX
   clear lv1 lv2 hS a3 hno hP
   subst hX
   repeat' (first|refine sA ?_|refine sO ‹_› fun dc hdc => ?_|refine sN ?_|refine sB ?_|refine sX ?_ ?_<;>(try intro h)<;>(try omega)|exact sP|refine rK ?_|exact sQ|refine sD ?_|exact sE|omega)
   all_goals first
    | exact ret_k (.tup (c.dv 0 1::tS [] false)) c.rows (by kernel_rfl) (rs_bad1 c tS [])
    | skip
 ·have hX:X = .bad:=by rw [hX,if_neg (fun h=>hb h.1)]
  subst hX
  have hb2:((readO w2).2 && (readO w3).2)=false:=by
   rw [Bool.eq_false_iff]
   intro h
   simp only [Bool.and_eq_true] at h
   exact hb h
  rw [hb2,if_neg (by decide)] at a2
  rw [cs_dv,cs_rows]
  refine sF fun dc hdc => ?_; refine sA ?_
  repeat' (first|refine sA ?_|refine sO ‹_› fun dc hdc => ?_|refine sN ?_|(refine Rm_o a2 rfl (fun r H2 hh => ?_); obtain ⟨rfl,rfl⟩:=hh)|refine sB ?_|refine sX ?_ ?_<;>(try intro h)<;>(try omega)|exact sP|refine rK ?_|exact sQ|refine sD ?_|exact sE|omega)
  all_goals first
   | exact ret_k (.tup (c.dv 0 1::tS [] false)) c.rows (by kernel_rfl) (rs_bad1 c tS [])
   | skip
theorem k_txt_hear (c:Cs)(w w1 w2:Txt)(hf:CsFits c)(hw_hear:w=wHear)(h1:w1.length≤1048576)(h2:w2.length≤1048576):Ok Tryz.prog 109 [c.dv 0 1,.p (slS ([w,w1,w2]))] c.rows (RsD c tT (hearX c w1 w2)):=by
 refine ok_D hmix c_impl_Console_textual (by simp) ?_
 have q:=q7_hear hw_hear
 have a1:=k_ParseInt w2 (by omega)
 rw [pi_read] at a1
 have a2:=k_iReceive c.mn c.hl w1 (readO w2).1 hf.1 (by omega)
 unfold hearX hearR
 generalize (readO w2).1=m at *
 generalize rcvL c.hl (rpfO w1).1 m=R at *
 generalize rcvB c.mn c.hl m (rpfO w1)=b2 at *
 generalize (readO w2).2=b1 at *
 cases b1
 ·simp only [Bool.false_eq_true,if_false]
  clear a2
  rw [cs_dv,cs_rows]
  refine sF fun dc hdc => ?_; refine sA ?_
  repeat' (first|refine sA ?_|refine sO ‹_› fun dc hdc => ?_|refine sN ?_|simp only [q]|refine dr ?_|refine dr2 ?_|refine rW rfl (a1) ?_|refine rV (a1) ?_|refine sB ?_|refine sX ?_ ?_<;>(try intro h)<;>(try omega)|exact sP|refine rK ?_|exact sQ|refine sD ?_|exact sE|omega)
  all_goals first
   | exact ret_k (.tup (c.dv 0 1::tT [] false)) (c.rows) (by kernel_rfl) (rs_bad1 c tT [])
   | skip
 ·cases b2<;>simp only [Bool.false_eq_true,if_true,if_false]
  all_goals
   rw [cs_dv,cs_rows]
   refine sF fun dc hdc => ?_; refine sA ?_
   repeat' (first|refine sA ?_|refine sO ‹_› fun dc hdc => ?_|refine sN ?_|simp only [q]|refine dr ?_|refine dr2 ?_|refine rW rfl (a1) ?_|refine rV (a1) ?_|(refine Rm_l a2 (by simp [viewOfs,viewOf,List.take_of_length_le]) (fun r H2 hh => ?_); obtain ⟨rfl,rfl⟩:=hh; refine ⟨by simp [flatD,flatDs,flatP,flatPs],by simp [flatH,flatB,flat_hds],?_⟩)|refine sB ?_|refine sX ?_ ?_<;>(try intro h)<;>(try omega)|exact sP|refine rK ?_|exact sQ|refine sD ?_|exact sE|omega)
  all_goals first
   | exact ret_k (.tup (c.dB::tT [111,107] false)) (c.rows) (by kernel_rfl) (rs_bad2 c tT [111,107])
   | exact ret_k (.tup (c.dR m R.length::tT wOk true)) (rowsR c R) (by kernel_rfl) (rs_rcv c tT wOk _ _)
   | skip
theorem k_txt_enc (c:Cs)(w w1 w2 w3:Txt)(hw_encode:w=wEnc)(h1:w1.length≤1048576)(h2:w2.length≤1048576)(h3:w3.length≤1048576):Ok Tryz.prog 109 [c.dv 0 1,.p (slS ([w,w1,w2,w3]))] c.rows (RsD c tT (encR (w1++32::(w2++32::w3)))):=by
 refine ok_D hmix c_impl_Console_textual (by simp) ?_
 have q:=q7_encode hw_encode
 have a0:=k_join [w1,w2,w3] [32] 1048576 (by decide) (by simp) (by omega) (fun i hi=>by
  rcases (by simp at hi; omega:i=0∨i=1∨i=2) with rfl|rfl|rfl
  ·exact h1
  ·exact h2
  ·exact h3)
 have hJ:joinTo [w1,w2,w3] [32] [w1,w2,w3].length=w1++32::(w2++32::w3):=by simp [joinTo]
 rw [hJ] at a0
 have hGl:(w1++32::(w2++32::w3)).length≤4000000:=by simp only [List.length_append,List.length_cons]; omega
 generalize w1++32::(w2++32::w3)=G at *
 have a1:=k_ParseFrameText G (by omega)
 unfold encR
 unfold frD at a1
 cases hok:(pfO G).2
 ·rw [hok] at a1
  simp only [Bool.false_eq_true,if_false]
  generalize (pfO G).1=f at *
  rw [cs_dv,cs_rows]
  refine sF fun dc hdc => ?_; refine sA ?_
  repeat' (first|refine sA ?_|refine sO ‹_› fun dc hdc => ?_|refine sN ?_|simp only [q]|refine dr ?_|refine dr2 ?_|refine rW rfl (a0) ?_|refine rV (a0) ?_|refine rW rfl (a1) ?_|refine rV (a1) ?_|refine sB ?_|refine sX ?_ ?_<;>(try intro h)<;>(try omega)|exact sP|refine rK ?_|exact sQ|refine sD ?_|exact sE|omega)
  all_goals first
   | exact ret_k (.tup (c.dv 0 1::tT [] false)) (c.rows) (by kernel_rfl) (rs_bad1 c tT [])
   | skip
 ·have hff:=pf_ok hok
  have a2:=k_EncodeFrame (pfO G).1 hff
  rw [hok] at a1
  simp only [if_true]
  generalize (pfO G).1=f at *
  generalize fhT f=FT at *
  rw [cs_dv,cs_rows]
  refine sF fun dc hdc => ?_; refine sA ?_
  repeat' (first|refine sA ?_|refine sO ‹_› fun dc hdc => ?_|refine sN ?_|simp only [q]|refine dr ?_|refine dr2 ?_|refine rW rfl (a0) ?_|refine rV (a0) ?_|refine rW rfl (a1) ?_|refine rV (a1) ?_|refine rW rfl (a2) ?_|refine rV (a2) ?_|refine sB ?_|refine sX ?_ ?_<;>(try intro h)<;>(try omega)|exact sP|refine rK ?_|exact sQ|refine sD ?_|exact sE|omega)
  all_goals first
   | exact ret_k (.tup (c.dv 0 1::tT FT true)) (c.rows) (by kernel_rfl) (rs_same c tT FT)
   | skip
theorem k_txt_dec (c:Cs)(w w1:Txt)(hw_decode:w=wDec)(h1:w1.length≤1048576):Ok Tryz.prog 109 [c.dv 0 1,.p (slS ([w,w1]))] c.rows (RsD c tT (dcR w1)):=by
 refine ok_D hmix c_impl_Console_textual (by simp) ?_
 have q:=q7_decode hw_decode
 have a1:=k_decoded w1 (by omega)
 rw [dcR_eq]
 generalize dcT w1=T at *
 generalize (rpfO w1).2.2=b at *
 cases b<;>simp only [Bool.false_eq_true,if_true,if_false] at a1 ⊢
 all_goals
  rw [cs_dv,cs_rows]
  refine sF fun dc hdc => ?_; refine sA ?_
  repeat' (first|refine sA ?_|refine sO ‹_› fun dc hdc => ?_|refine sN ?_|simp only [q]|refine dr ?_|refine dr2 ?_|refine rW rfl (a1) ?_|refine rV (a1) ?_|refine sB ?_|refine sX ?_ ?_<;>(try intro h)<;>(try omega)|exact sP|refine rK ?_|exact sQ|refine sD ?_|exact sE|omega)
 all_goals first
  | exact ret_k (.tup (c.dv 0 1::tT [] false)) (c.rows) (by kernel_rfl) (rs_bad1 c tT [])
  | exact ret_k (.tup (c.dv 0 1::tT T true)) (c.rows) (by kernel_rfl) (rs_same c tT T)
  | skip
theorem k_txt_set (c:Cs)(w w1 w2 w3:Txt)(hf:c.al.length≤1000)(hw_set:w=wSet)(h2:w2.length≤1048576)(h3:w3.length≤1048576):Ok Tryz.prog 109 [c.dv 0 1,.p (slS ([w,w1,w2,w3]))] c.rows (RsD c tT (setX c w1 w2 w3)):=by
 refine ok_D hmix c_impl_Console_textual (by simp) ?_
 have q:=q7_set hw_set
 have a1:=k_set c w1 w2 w3 hf h2 h3
 rcases set_sh c w1 w2 w3 with ⟨ys,hX⟩|hX
 ·rw [hX] at a1 ⊢
  rw [cs_dv,cs_rows] at a1
  rw [cs_dv,cs_rows]
  refine sF fun dc hdc => ?_; refine sA ?_
  repeat' (first|refine sA ?_|refine sO ‹_› fun dc hdc => ?_|refine sN ?_|simp only [q]|refine dr ?_|refine dr2 ?_|(refine Rm_i [0,1] a1 (by simp) (by simp) ⟨_,_,rfl,.inl rfl,_,_,rfl,.inr ⟨_,rfl,rfl⟩,rfl⟩ (fun r H2 hh => ?_); obtain ⟨rfl,rfl⟩:=hh; simp only [cs_dA,rowsA,tS_eq])|refine sB ?_|refine sX ?_ ?_<;>(try intro h)<;>(try omega)|exact sP|refine rK ?_|exact sQ|refine sD ?_|exact sE|omega)
  all_goals first
   | exact ret_k (.tup (c.dA ys.length::tT wOk true)) (rowsA c ys) (by kernel_rfl) (rs_alr c tT wOk _)
   | skip
 ·rw [hX] at a1 ⊢
  rw [cs_dv,cs_rows] at a1
  rw [cs_dv,cs_rows]
  refine sF fun dc hdc => ?_; refine sA ?_
  repeat' (first|refine sA ?_|refine sO ‹_› fun dc hdc => ?_|refine sN ?_|simp only [q]|refine dr ?_|refine dr2 ?_|(refine Rm_i [0,1] a1 (by simp) (by simp) ⟨_,_,rfl,.inl rfl,_,_,rfl,.inr ⟨_,rfl,rfl⟩,rfl⟩ (fun r H2 hh => ?_); obtain ⟨r0,rfl|rfl|rfl,rfl⟩:=hh; all_goals simp only [cs_dv,cs_dB,cs_dC,cs_rows,tS_eq])|refine sB ?_|refine sX ?_ ?_<;>(try intro h)<;>(try omega)|exact sP|refine rK ?_|exact sQ|refine sD ?_|exact sE|omega)
  ·exact ret_k (.tup (c.dv 0 1::tT wOk false)) (c.rows) (by kernel_rfl) (rs_bad1 c tT wOk)
  ·exact ret_k (.tup (c.dB::tT wOk false)) (c.rows) (by kernel_rfl) (rs_bad2 c tT wOk)
  ·exact ret_k (.tup (c.dC::tT wOk false)) (c.rows) (by kernel_rfl) (rs_bad3 c tT wOk)
  ·exact ret_k (.tup (c.dv 0 1::tT wOk false)) (c.rows) (by kernel_rfl) (rs_bad1 c tT wOk)
  ·exact ret_k (.tup (c.dB::tT wOk false)) (c.rows) (by kernel_rfl) (rs_bad2 c tT wOk)
  ·exact ret_k (.tup (c.dC::tT wOk false)) (c.rows) (by kernel_rfl) (rs_bad3 c tT wOk)
theorem k_txtN1 (c:Cs)(w:Txt):Ok Tryz.prog 109 [c.dv 0 1,.p (slS ([w]))] c.rows (fun d H=>d = .tup [c.dv 0 1,.p (.str []),.p (.bool false),.p (.bool false)]∧H=c.rows):=by
 refine ok_D hmix c_impl_Console_textual (by simp) ?_
 rcases g7 w with ⟨q,hw⟩|⟨q,hw⟩|⟨q,hw⟩|⟨q,hw⟩|⟨q,hw⟩
 all_goals first|clear hw
 all_goals
  rw [cs_dv,cs_rows]
  refine sF fun dc hdc => ?_; refine sA ?_
  repeat' (first|refine sA ?_|refine sO ‹_› fun dc hdc => ?_|refine sN ?_|simp only [q]|refine dr ?_|refine dr2 ?_|refine sB ?_|refine sX ?_ ?_<;>(try intro h)<;>(try omega)|exact sP|refine rK ?_|exact sQ|refine sD ?_|exact sE|omega)
 all_goals first
  | exact ret_k (.tup ([c.dv 0 1,.p (.str []),.p (.bool false),.p (.bool false)])) (c.rows) (by kernel_rfl) ⟨rfl,rfl⟩
  | skip
theorem k_txtN2 (c:Cs)(w w1:Txt)(hw_decode:w≠wDec):Ok Tryz.prog 109 [c.dv 0 1,.p (slS ([w,w1]))] c.rows (fun d H=>d = .tup [c.dv 0 1,.p (.str []),.p (.bool false),.p (.bool false)]∧H=c.rows):=by
 refine ok_D hmix c_impl_Console_textual (by simp) ?_
 rcases g7 w with ⟨q,hw⟩|⟨q,hw⟩|⟨q,hw⟩|⟨q,hw⟩|⟨q,hw⟩
 all_goals first|exact absurd hw hw_decode|clear hw
 all_goals
  rw [cs_dv,cs_rows]
  refine sF fun dc hdc => ?_; refine sA ?_
  repeat' (first|refine sA ?_|refine sO ‹_› fun dc hdc => ?_|refine sN ?_|simp only [q]|refine dr ?_|refine dr2 ?_|refine sB ?_|refine sX ?_ ?_<;>(try intro h)<;>(try omega)|exact sP|refine rK ?_|exact sQ|refine sD ?_|exact sE|omega)
 all_goals first
  | exact ret_k (.tup ([c.dv 0 1,.p (.str []),.p (.bool false),.p (.bool false)])) (c.rows) (by kernel_rfl) ⟨rfl,rfl⟩
  | skip
theorem k_txtN3 (c:Cs)(w w1 w2:Txt)(hw_hear:w≠wHear):Ok Tryz.prog 109 [c.dv 0 1,.p (slS ([w,w1,w2]))] c.rows (fun d H=>d = .tup [c.dv 0 1,.p (.str []),.p (.bool false),.p (.bool false)]∧H=c.rows):=by
 refine ok_D hmix c_impl_Console_textual (by simp) ?_
 rcases g7 w with ⟨q,hw⟩|⟨q,hw⟩|⟨q,hw⟩|⟨q,hw⟩|⟨q,hw⟩
 all_goals first|exact absurd hw hw_hear|clear hw
 all_goals
  rw [cs_dv,cs_rows]
  refine sF fun dc hdc => ?_; refine sA ?_
  repeat' (first|refine sA ?_|refine sO ‹_› fun dc hdc => ?_|refine sN ?_|simp only [q]|refine dr ?_|refine dr2 ?_|refine sB ?_|refine sX ?_ ?_<;>(try intro h)<;>(try omega)|exact sP|refine rK ?_|exact sQ|refine sD ?_|exact sE|omega)
 all_goals first
  | exact ret_k (.tup ([c.dv 0 1,.p (.str []),.p (.bool false),.p (.bool false)])) (c.rows) (by kernel_rfl) ⟨rfl,rfl⟩
  | skip
theorem k_txtN4 (c:Cs)(w w1 w2 w3:Txt)(hw_encode:w≠wEnc)(hw_set:w≠wSet):Ok Tryz.prog 109 [c.dv 0 1,.p (slS ([w,w1,w2,w3]))] c.rows (fun d H=>d = .tup [c.dv 0 1,.p (.str []),.p (.bool false),.p (.bool false)]∧H=c.rows):=by
 refine ok_D hmix c_impl_Console_textual (by simp) ?_
 rcases g7 w with ⟨q,hw⟩|⟨q,hw⟩|⟨q,hw⟩|⟨q,hw⟩|⟨q,hw⟩
 all_goals first|exact absurd hw hw_encode|exact absurd hw hw_set|clear hw
 all_goals
  rw [cs_dv,cs_rows]
  refine sF fun dc hdc => ?_; refine sA ?_
  repeat' (first|refine sA ?_|refine sO ‹_› fun dc hdc => ?_|refine sN ?_|simp only [q]|refine dr ?_|refine dr2 ?_|refine sB ?_|refine sX ?_ ?_<;>(try intro h)<;>(try omega)|exact sP|refine rK ?_|exact sQ|refine sD ?_|exact sE|omega)
 all_goals first
  | exact ret_k (.tup ([c.dv 0 1,.p (.str []),.p (.bool false),.p (.bool false)])) (c.rows) (by kernel_rfl) ⟨rfl,rfl⟩
  | skip
theorem k_txtN5 (c:Cs)(w w1 w2 w3 w4:Txt)(ws:List Txt)(hl:ws.length≤2000):Ok Tryz.prog 109 [c.dv 0 1,.p (slS (w::w1::w2::w3::w4::ws))] c.rows (fun d H=>d = .tup [c.dv 0 1,.p (.str []),.p (.bool false),.p (.bool false)]∧H=c.rows):=by
 refine ok_D hmix c_impl_Console_textual (by simp) ?_
 rcases g7 w with ⟨q,hw⟩|⟨q,hw⟩|⟨q,hw⟩|⟨q,hw⟩|⟨q,hw⟩
 all_goals first|clear hw
 all_goals
  rw [cs_dv,cs_rows]
  refine sF fun dc hdc => ?_; refine sA ?_
  repeat' (first|refine sA ?_|refine sO ‹_› fun dc hdc => ?_|refine sN ?_|simp only [q]|refine dr ?_|refine dr2 ?_|refine sB ?_|refine sX ?_ ?_<;>(try intro h)<;>(try omega)|exact sP|refine rK ?_|exact sQ|refine sD ?_|exact sE|omega)
 all_goals first
  | exact ret_k (.tup ([c.dv 0 1,.p (.str []),.p (.bool false),.p (.bool false)])) (c.rows) (by kernel_rfl) ⟨rfl,rfl⟩
  | skip
end Go.Proofs.YtekmkgegjicjgaaGreat

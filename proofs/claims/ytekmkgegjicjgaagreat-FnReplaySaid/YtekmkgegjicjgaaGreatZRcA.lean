import Derived.Test.YtekmkgegjicjgaaGreatZBas
import Derived.Test.YtekmkgegjicjgaaGreatZPln
namespace Go.Proofs.YtekmkgegjicjgaaGreat
open Go.Dv Go.Dv.EvL
set_option maxRecDepth 100000
set_option maxHeartbeats 16000000
attribute [local irreducible] Ok Rm Dm Om Sm Xm Cm Gm Hm Tm
theorem tm_n {m n:Nat}:(m:Int).tmod (n:Int)=((m % n:Nat):Int):=tmod_nat m n
theorem tm16384 {m:Nat}:(m:Int).tmod 16384=((m % 16384:Nat):Int):=tmod_nat m 16384
theorem tm128 {m:Nat}:(m:Int).tmod 128=((m % 128:Nat):Int):=tmod_nat m 128
theorem td128 {m:Nat}:(m:Int).tdiv 128=((m / 128:Nat):Int):=tdiv_nat m 128
theorem up_in (d:Nat):d % 16384 / 128<128∧d % 128<128:=by omega
theorem k_UnpackReport (d:Nat)(hd:d≤1099511627776):Okv Tryz.prog 219 [.int .i64 d] (.tup [.p (.agg [.bool (upO d).1.1,.int .i64 (upO d).1.2.1,.int .i64 (upO d).1.2.2]),.p (.bool (upO d).2)]):=by
 refine ok_D hmix c_impl_UnpackReport (by simp) ?_
 have hs:upO d=if upB d=true then ((decide (16384≤d),((d % 16384 / 128:Nat):Int),((d % 128:Nat):Int)),true) else ((false,0,0),false):=rfl
 have hb:upB d=(decide (d≤32767) && rpB (decide (16384≤d)) ((d % 16384 / 128:Nat):Int) ((d % 128:Nat):Int)):=rfl
 have h1:=k_iReport (decide (16384≤d)) ((d % 16384 / 128:Nat):Int) ((d % 128:Nat):Int)
 have e1:decide ((d:Int) ≥ 16384)=decide (16384≤d):=by rw [decide_eq_decide]; omega
 have hi:=up_in d
 generalize upO d=p at *
 by_cases hle:d≤32767
 ·cases hB:rpB (decide (16384≤d)) ((d % 16384 / 128:Nat):Int) ((d % 128:Nat):Int)
  ·rw [hb,hB,Bool.and_false,if_neg (by decide)] at hs
   rw [hB] at h1
   subst hs
   refine sA ?_
   repeat' (first|refine sA ?_|refine sN ?_|refine rW rfl (k_within _ _ _) ?_|refine rV (k_within _ _ _) ?_|rw [tm16384]|rw [tm128]|rw [td128]|rw [e1]|refine rW rfl (h1) ?_|refine rV (h1) ?_|refine sB ?_|refine sX ?_ ?_<;>(try intro h)<;>(try omega)|exact sP|refine rK ?_|exact sQ|refine sD ?_|rfl|exact sE|omega)
   all_goals skip
  ·rw [hb,hB,Bool.and_true,decide_eq_true hle,if_pos rfl] at hs
   rw [hB] at h1
   subst hs
   refine sA ?_
   repeat' (first|refine sA ?_|refine sN ?_|refine rW rfl (k_within _ _ _) ?_|refine rV (k_within _ _ _) ?_|rw [tm16384]|rw [tm128]|rw [td128]|rw [e1]|refine rW rfl (h1) ?_|refine rV (h1) ?_|refine sB ?_|refine sX ?_ ?_<;>(try intro h)<;>(try omega)|exact sP|refine rK ?_|exact sQ|refine sD ?_|rfl|exact sE|omega)
   all_goals skip
 ·rw [hb,decide_eq_false hle,Bool.false_and,if_neg (by decide)] at hs
  subst hs
  refine sA ?_
  repeat' (first|refine sA ?_|refine sN ?_|refine rW rfl (k_within _ _ _) ?_|refine rV (k_within _ _ _) ?_|refine sB ?_|refine sX ?_ ?_<;>(try intro h)<;>(try omega)|exact sP|refine rK ?_|exact sQ|refine sD ?_|rfl|exact sE|omega)
  all_goals skip
theorem k_l7Unpack (d:Nat)(hd:d≤1099511627776):Okv Tryz.prog 216 [.int .i64 d] (.tup [.p (.agg [.bool (upO d).1.1,.int .i64 (upO d).1.2.1,.int .i64 (upO d).1.2.2]),.p (.bool (upO d).2)]):=by
 refine ok_D hmix c_spec_l7Unpack (by simp) ?_
 have hs:upO d=if upB d=true then ((decide (16384≤d),((d % 16384 / 128:Nat):Int),((d % 128:Nat):Int)),true) else ((false,0,0),false):=rfl
 have hb:upB d=(decide (d≤32767) && rpB (decide (16384≤d)) ((d % 16384 / 128:Nat):Int) ((d % 128:Nat):Int)):=rfl
 have h1:=k_l7Report (decide (16384≤d)) ((d % 16384 / 128:Nat):Int) ((d % 128:Nat):Int)
 have e1:decide ((d:Int) ≥ 16384)=decide (16384≤d):=by rw [decide_eq_decide]; omega
 have hi:=up_in d
 generalize upO d=p at *
 by_cases hle:d≤32767
 ·cases hB:rpB (decide (16384≤d)) ((d % 16384 / 128:Nat):Int) ((d % 128:Nat):Int)
  ·rw [hb,hB,Bool.and_false,if_neg (by decide)] at hs
   rw [hB] at h1
   subst hs
   refine sA ?_
   repeat' (first|refine sA ?_|refine sN ?_|refine rW rfl (k_l1In _ _ _) ?_|refine rV (k_l1In _ _ _) ?_|rw [tm16384]|rw [tm128]|rw [td128]|rw [e1]|refine rW rfl (h1) ?_|refine rV (h1) ?_|refine sB ?_|refine sX ?_ ?_<;>(try intro h)<;>(try omega)|exact sP|refine rK ?_|exact sQ|refine sD ?_|rfl|exact sE|omega)
   all_goals skip
  ·rw [hb,hB,Bool.and_true,decide_eq_true hle,if_pos rfl] at hs
   rw [hB] at h1
   subst hs
   refine sA ?_
   repeat' (first|refine sA ?_|refine sN ?_|refine rW rfl (k_l1In _ _ _) ?_|refine rV (k_l1In _ _ _) ?_|rw [tm16384]|rw [tm128]|rw [td128]|rw [e1]|refine rW rfl (h1) ?_|refine rV (h1) ?_|refine sB ?_|refine sX ?_ ?_<;>(try intro h)<;>(try omega)|exact sP|refine rK ?_|exact sQ|refine sD ?_|rfl|exact sE|omega)
   all_goals skip
 ·rw [hb,decide_eq_false hle,Bool.false_and,if_neg (by decide)] at hs
  subst hs
  refine sA ?_
  repeat' (first|refine sA ?_|refine sN ?_|refine rW rfl (k_l1In _ _ _) ?_|refine rV (k_l1In _ _ _) ?_|refine sB ?_|refine sX ?_ ?_<;>(try intro h)<;>(try omega)|exact sP|refine rK ?_|exact sQ|refine sD ?_|rfl|exact sE|omega)
  all_goals skip
theorem k_both (e o:Int)(he:0≤e∧e≤99)(ho:0≤o∧o≤98):Okv Tryz.prog 225 [.int .i64 e,.int .i64 o] (.p (.int .i64 (bothN e o))):=by
 refine ok_D hmix c_impl_both (by simp) ?_
 obtain ⟨h1,h2,h3⟩:=bothK_in he.1 ho
 have h4:=fun k=>bothK_first (k:=k) he.1 ho
 have hN:bothN e o=e+100 * bothK e o:=rfl
 generalize bothK e o=K at *
 refine sA ?_
 repeat' (first|refine sA ?_|refine sN ?_|refine sB ?_|refine sX ?_ ?_<;>(try intro h)<;>(try omega)|exact sP|refine rK ?_|exact sQ|refine sD ?_|rfl|exact sE|omega)
 refine Dm_loop [1,5] (fun m ds H' => ∃ k:Nat,(k:Int)≤K∧m=(K - k).toNat∧ds=[.p (.int .i64 o),.p (.int .i64 (e+100 * (k:Int)))]∧H'=[]) K.toNat ⟨0,by omega,by omega,by rw [show e+100 * ((0:Nat):Int)=e from by omega]; rfl,rfl⟩ ?_
 rintro m ds H' ⟨k,hk,rfl,rfl,rfl⟩ -
 have h4:=h4 k hk
 by_cases hh:(e+100 * (k:Int)).tmod 99=o
 ·have h4:=h4 hh
  rw [hN,← h4]
  repeat' (first|refine sA ?_|refine sN ?_|rw [hh]|refine sB ?_|refine sX ?_ ?_<;>(try intro h)<;>(try omega)|exact sP|refine rK ?_|exact sQ|refine sD ?_|rfl|exact sE|omega)
  all_goals skip
 ·have hne:(k:Int)≠K:=fun h=>hh (by rw [h]; exact h3)
  have hx:(e+100 * (k:Int))+100=e+100 * ((k+1:Nat):Int):=by omega
  repeat' (first|refine sA ?_|refine sN ?_|refine sB ?_|refine sX ?_ ?_<;>(try intro h)<;>(try omega)|exact sP|refine rK ?_|exact sQ|refine sD ?_|rfl|exact sE|omega)
  all_goals first
   | (exfalso; exact hh (by assumption))
   | (refine Xm_inv_n (K - (k+1)).toNat (by omega) ⟨k+1,by omega,by omega,?_,rfl⟩
      rw [← hx]; rfl)
   | skip
theorem k_l7Both (e o:Int)(he:0≤e∧e≤99)(ho:0≤o∧o≤98):Okv Tryz.prog 226 [.int .i64 e,.int .i64 o] (.p (.int .i64 (bothN e o))):=by
 refine ok_D hmix c_spec_l7Both (by simp) ?_
 obtain ⟨h1,h2,h3⟩:=bothK_in he.1 ho
 have h4:=fun k=>bothK_first (k:=k) he.1 ho
 have hN:bothN e o=e+100 * bothK e o:=rfl
 generalize bothK e o=K at *
 refine sA ?_
 repeat' (first|refine sA ?_|refine sN ?_|refine sB ?_|refine sX ?_ ?_<;>(try intro h)<;>(try omega)|exact sP|refine rK ?_|exact sQ|refine sD ?_|rfl|exact sE|omega)
 refine Dm_loop [1,5] (fun m ds H' => ∃ k:Nat,(k:Int)≤K∧m=(K - k).toNat∧ds=[.p (.int .i64 o),.p (.int .i64 (e+100 * (k:Int)))]∧H'=[]) K.toNat ⟨0,by omega,by omega,by rw [show e+100 * ((0:Nat):Int)=e from by omega]; rfl,rfl⟩ ?_
 rintro m ds H' ⟨k,hk,rfl,rfl,rfl⟩ -
 have h4:=h4 k hk
 by_cases hh:(e+100 * (k:Int)).tmod 99=o
 ·have h4:=h4 hh
  rw [hN,← h4]
  repeat' (first|refine sA ?_|refine sN ?_|rw [hh]|refine sB ?_|refine sX ?_ ?_<;>(try intro h)<;>(try omega)|exact sP|refine rK ?_|exact sQ|refine sD ?_|rfl|exact sE|omega)
  all_goals skip
 ·have hne:(k:Int)≠K:=fun h=>hh (by rw [h]; exact h3)
  have hx:(e+100 * (k:Int))+100=e+100 * ((k+1:Nat):Int):=by omega
  repeat' (first|refine sA ?_|refine sN ?_|refine sB ?_|refine sX ?_ ?_<;>(try intro h)<;>(try omega)|exact sP|refine rK ?_|exact sQ|refine sD ?_|rfl|exact sE|omega)
  all_goals first
   | (exfalso; exact hh (by assumption))
   | (refine Xm_inv_n (K - (k+1)).toNat (by omega) ⟨k+1,by omega,by omega,?_,rfl⟩
      rw [← hx]; rfl)
   | skip
theorem dp_in {h:Hd}(hb:dpB h=true):h.eo=false∧h.oo=true∧(0≤h.ea∧h.ea≤99)∧(0≤h.eb∧h.eb≤99)∧(0≤h.oa∧h.oa≤98)∧(0≤h.ob∧h.ob≤98):=by
 unfold dpB rpB at hb
 simp only [Bool.and_eq_true,Bool.not_eq_true',decide_eq_true_eq] at hb
 obtain ⟨⟨⟨h1,h2⟩,h3⟩,h4⟩:=hb
 rw [h3] at h1
 rw [h4] at h2
 have e1:rpS false=100:=rfl
 have e2:rpS true=99:=rfl
 rw [e1] at h1
 rw [e2] at h2
 exact ⟨h3,h4,by omega,by omega,by omega,by omega⟩
theorem k_iPair (h:Hd):Okv Tryz.prog 210 [.agg [.bool h.eo,.int .i64 h.ea,.int .i64 h.eb],.agg [.bool h.oo,.int .i64 h.oa,.int .i64 h.ob]] (.tup [.p (.agg [.int .i64 (dpO h).1.1,.int .i64 (dpO h).1.2]),.p (.bool (dpO h).2)]):=by
 refine ok_D hmix c_impl_DecodePair (by simp) ?_
 have hs:dpO h=if dpB h=true then ((bothN h.ea h.oa,bothN h.eb h.ob),true) else ((0,0),false):=rfl
 have hb:dpB h=(rpB h.eo h.ea h.eb && rpB h.oo h.oa h.ob && !h.eo && h.oo):=rfl
 have h1:=k_iReport h.eo h.ea h.eb
 have h2:=k_iReport h.oo h.oa h.ob
 have h3:=dp_in (h:=h)
 generalize dpO h=p at *
 cases hB:dpB h
 ·rw [hB,if_neg (by decide)] at hs
  rw [hB] at hb
  subst hs
  clear h3
  generalize rpB h.eo h.ea h.eb=r1 at *
  generalize rpB h.oo h.oa h.ob=r2 at *
  generalize h.eo=q1 at *
  generalize h.oo=q2 at *
  cases r1<;>cases r2<;>cases q1<;>cases q2<;>first|(cases hb; done)|skip
  all_goals
   refine sA ?_
   repeat' (first|refine sA ?_|refine sN ?_|refine rW rfl (h1) ?_|refine rV (h1) ?_|refine rW rfl (h2) ?_|refine rV (h2) ?_|refine sB ?_|refine sX ?_ ?_<;>(try intro h)<;>(try omega)|exact sP|refine rK ?_|exact sQ|refine sD ?_|rfl|exact sE|omega)
  all_goals skip
 ·obtain ⟨g1,g2,g3,g4,g5,g6⟩:=h3 hB
  rw [hB,if_pos rfl] at hs
  rw [hB] at hb
  subst hs
  have h4:=k_both h.ea h.oa g3 g5
  have h5:=k_both h.eb h.ob g4 g6
  rw [g1] at hb h1 ⊢
  rw [g2] at hb h2 ⊢
  generalize rpB false h.ea h.eb=r1 at *
  generalize rpB true h.oa h.ob=r2 at *
  cases r1<;>cases r2<;>first|(cases hb; done)|skip
  refine sA ?_
  repeat' (first|refine sA ?_|refine sN ?_|refine rW rfl (h1) ?_|refine rV (h1) ?_|refine rW rfl (h2) ?_|refine rV (h2) ?_|refine rW rfl (h4) ?_|refine rV (h4) ?_|refine rW rfl (h5) ?_|refine rV (h5) ?_|(refine Dm_draw [0,1] ?_ ?_; · (simp; done))|refine sB ?_|refine sX ?_ ?_<;>(try intro h)<;>(try omega)|exact sP|refine rK ?_|exact sQ|refine sD ?_|rfl|exact sE|omega)
  all_goals skip
theorem k_sPair (h:Hd):Okv Tryz.prog 215 [.agg [.bool h.eo,.int .i64 h.ea,.int .i64 h.eb],.agg [.bool h.oo,.int .i64 h.oa,.int .i64 h.ob]] (.tup [.p (.agg [.int .i64 (dpO h).1.1,.int .i64 (dpO h).1.2]),.p (.bool (dpO h).2)]):=by
 refine ok_D hmix c_spec_DecodePair (by simp) ?_
 have hs:dpO h=if dpB h=true then ((bothN h.ea h.oa,bothN h.eb h.ob),true) else ((0,0),false):=rfl
 have hb:dpB h=(rpB h.eo h.ea h.eb && rpB h.oo h.oa h.ob && !h.eo && h.oo):=rfl
 have h1:=k_l7Report h.eo h.ea h.eb
 have h2:=k_l7Report h.oo h.oa h.ob
 have h3:=dp_in (h:=h)
 generalize dpO h=p at *
 cases hB:dpB h
 ·rw [hB,if_neg (by decide)] at hs
  rw [hB] at hb
  subst hs
  clear h3
  generalize rpB h.eo h.ea h.eb=r1 at *
  generalize rpB h.oo h.oa h.ob=r2 at *
  generalize h.eo=q1 at *
  generalize h.oo=q2 at *
  cases r1<;>cases r2<;>cases q1<;>cases q2<;>first|(cases hb; done)|skip
  all_goals
   refine sA ?_
   repeat' (first|refine sA ?_|refine sN ?_|refine rW rfl (h1) ?_|refine rV (h1) ?_|refine rW rfl (h2) ?_|refine rV (h2) ?_|refine sB ?_|refine sX ?_ ?_<;>(try intro h)<;>(try omega)|exact sP|refine rK ?_|exact sQ|refine sD ?_|rfl|exact sE|omega)
  all_goals skip
 ·obtain ⟨g1,g2,g3,g4,g5,g6⟩:=h3 hB
  rw [hB,if_pos rfl] at hs
  rw [hB] at hb
  subst hs
  have h4:=k_l7Both h.ea h.oa g3 g5
  have h5:=k_l7Both h.eb h.ob g4 g6
  rw [g1] at hb h1 ⊢
  rw [g2] at hb h2 ⊢
  generalize rpB false h.ea h.eb=r1 at *
  generalize rpB true h.oa h.ob=r2 at *
  cases r1<;>cases r2<;>first|(cases hb; done)|skip
  refine sA ?_
  repeat' (first|refine sA ?_|refine sN ?_|refine rW rfl (h1) ?_|refine rV (h1) ?_|refine rW rfl (h2) ?_|refine rV (h2) ?_|refine rW rfl (h4) ?_|refine rV (h4) ?_|refine rW rfl (h5) ?_|refine rV (h5) ?_|(refine Dm_draw [0,1] ?_ ?_; · (simp; done))|refine sB ?_|refine sX ?_ ?_<;>(try intro h)<;>(try omega)|exact sP|refine rK ?_|exact sQ|refine sD ?_|rfl|exact sE|omega)
  all_goals skip
end Go.Proofs.YtekmkgegjicjgaaGreat
namespace Go.Proofs.YtekmkgegjicjgaaGreat
open Go.Dv Go.Dv.EvL
set_option maxRecDepth 100000
set_option maxHeartbeats 16000000
attribute [local irreducible] Ok Rm Dm Om Sm Xm Cm Gm Hm Tm
theorem kept_in {o:Bool}{a b t n:Int}{odd:Bool}(h:keptB o a b t odd n=true):(t = -1∧o=false∧a=0∧b=0)∨(0≤t∧t≤n∧o=odd∧rpB o a b=true):=by
 unfold keptB at h
 split at h
 ·simp only [Bool.and_eq_true,Bool.not_eq_true',decide_eq_true_eq] at h
  exact .inl ⟨by assumption,h.1.1,h.1.2,h.2⟩
 ·simp only [Bool.and_eq_true,beq_iff_eq,decide_eq_true_eq] at h
  exact .inr ⟨h.1.1.1,h.1.1.2,h.1.2,h.2⟩
theorem hd_at {n:Int}{h:Hd}(hb:hdB n h=true):(1≤h.addr∧h.addr≤65535)∧(1≤h.fr∧h.fr≤9999)∧keptB h.eo h.ea h.eb h.eAt false n=true∧keptB h.oo h.oa h.ob h.oAt true n=true:=by
 have h1:=hd_in hb
 unfold hdB at hb
 simp only [Bool.and_eq_true,decide_eq_true_eq] at hb
 exact ⟨h1,hb.1.1.2,hb.1.2,hb.2⟩
theorem rec2_in {n:Int}{xs:List Hd}(h:recB2 n xs=true):(0≤n∧n≤9999)∧xs.length≤6∧recTo n xs xs.length=true ∧ ∀ i,i<xs.length→hdB n (xs.getD i default)=true:=by
 unfold recB2 minB at h
 simp only [Bool.and_eq_true,decide_eq_true_eq] at h
 exact ⟨h.1.1,h.1.2,h.2,fun i hi=>recTo_at h.2 hi⟩
def AtIn (t:Int):Prop := -1≤t∧t≤9999
theorem hd_times {n:Int}{h:Hd}(hn:n≤9999)(hb:hdB n h=true):AtIn h.eAt∧AtIn h.oAt:=by
 obtain ⟨_,_,h3,h4⟩:=hd_at hb
 unfold AtIn
 rcases kept_in h3 with h5|h5<;>rcases kept_in h4 with h6|h6<;>omega
theorem k_heardAt (n:Int)(xs:List Hd)(a:Int)(hb:xs.length≤1048576):Okv Tryz.prog 172 [.agg [.int .i64 n,.sl 10 (xs.map Hd.pv)],.int .i64 a] (.p (.int .i64 (hatO xs a))):=by
 refine ok_D hmix c_impl_heardAt (by simp) ?_
 have hO:hatO xs a=hatK xs a xs.length:=rfl
 refine sA ?_
 repeat' (first|refine sA ?_|refine sN ?_|refine sB ?_|refine sX ?_ ?_<;>(try intro h)<;>(try omega)|exact sP|refine rK ?_|exact sQ|refine sD ?_|rfl|exact sE|omega)
 refine Dm_loop [1,8,9,10] (fun m ds H' => ∃ i:Nat,i≤xs.length∧m=xs.length - i∧hatO xs a=hatK xs a (xs.length - i)∧ds=[.p (.int .i64 a),.p (.sl 10 (xs.map Hd.pv)),.p (.int .i64 xs.length),.p (.int .i64 i)]∧H'=[]) xs.length ⟨0,by omega,by omega,by rw [hO,Nat.sub_zero],rfl,rfl⟩ ?_
 rintro m ds H' ⟨i,hi,rfl,he,rfl,rfl⟩ -
 rcases Nat.lt_or_ge i xs.length with hlt|hge
 ·obtain ⟨k,hk⟩ : ∃ k,xs.length - i=k+1:=⟨xs.length - i - 1,by omega⟩
  have hr:hatK xs a (k+1)=if (xs.getD i default).addr=a then (i:Int) else hatK xs a k:=by
   rw [hatK,show xs.length - (k+1)=i from by omega]
  rw [hk] at he ⊢
  rw [hr] at he
  clear hO
  generalize hatO xs a=Z at *
  by_cases hf:(xs.getD i default).addr=a
  ·rw [if_pos hf] at he
   subst he
   repeat' (first|refine sA ?_|refine sN ?_|rw [hf]|refine sB ?_|refine sX ?_ ?_<;>(try intro h)<;>(try omega)|exact sP|refine rK ?_|exact sQ|refine sD ?_|rfl|exact sE|omega)
   all_goals skip
  ·rw [if_neg hf] at he
   repeat' (first|refine sA ?_|refine sN ?_|refine sB ?_|refine sX ?_ ?_<;>(try intro h)<;>(try omega)|exact sP|refine rK ?_|exact sQ|refine sD ?_|rfl|exact sE|omega)
   all_goals first
    | (exfalso; exact hf (by assumption))
    | (refine Xm_inv_n (xs.length - (i+1)) (by omega) ⟨i+1,by omega,rfl,?_,rfl,rfl⟩
       rw [he,show xs.length - (i+1)=k from by omega])
    | skip
 ·obtain rfl:i=xs.length:=by omega
  rw [Nat.sub_self,hatK] at he
  rw [he]
  repeat' (first|refine sA ?_|refine sN ?_|refine sB ?_|refine sX ?_ ?_<;>(try intro h)<;>(try omega)|exact sP|refine rK ?_|exact sQ|refine sD ?_|rfl|exact sE|omega)
  all_goals skip
theorem k_l9Find (n:Int)(xs:List Hd)(a:Int)(hb:xs.length≤1048576):Okv Tryz.prog 195 [.agg [.int .i64 n,.sl 10 (xs.map Hd.pv)],.int .i64 a] (.p (.int .i64 (hatO xs a))):=by
 refine ok_D hmix c_spec_l9Find (by simp) ?_
 have hO:hatO xs a=hatK xs a xs.length:=rfl
 refine sA ?_
 repeat' (first|refine sA ?_|refine sN ?_|refine sB ?_|refine sX ?_ ?_<;>(try intro h)<;>(try omega)|exact sP|refine rK ?_|exact sQ|refine sD ?_|rfl|exact sE|omega)
 refine Dm_loop [1,2,5] (fun m ds H' => ∃ i:Nat,i≤xs.length∧m=xs.length - i∧hatO xs a=hatK xs a (xs.length - i)∧ds=[.p (.int .i64 a),.ptr 0 0 0,.p (.int .i64 i)]∧H'=[.box 36 [.p (.int .i64 n),.p (.sl 10 (xs.map Hd.pv))]]) xs.length ⟨0,by omega,by omega,by rw [hO,Nat.sub_zero],rfl,rfl⟩ ?_
 rintro m ds H' ⟨i,hi,rfl,he,rfl,rfl⟩ -
 rcases Nat.lt_or_ge i xs.length with hlt|hge
 ·obtain ⟨k,hk⟩ : ∃ k,xs.length - i=k+1:=⟨xs.length - i - 1,by omega⟩
  have hr:hatK xs a (k+1)=if (xs.getD i default).addr=a then (i:Int) else hatK xs a k:=by
   rw [hatK,show xs.length - (k+1)=i from by omega]
  rw [hk] at he ⊢
  rw [hr] at he
  clear hO
  generalize hatO xs a=Z at *
  by_cases hf:(xs.getD i default).addr=a
  ·rw [if_pos hf] at he
   subst he
   repeat' (first|refine sA ?_|refine sN ?_|rw [hf]|refine sB ?_|refine sX ?_ ?_<;>(try intro h)<;>(try omega)|exact sP|refine rK ?_|exact sQ|refine sD ?_|rfl|exact sE|omega)
   all_goals skip
  ·rw [if_neg hf] at he
   repeat' (first|refine sA ?_|refine sN ?_|refine sB ?_|refine sX ?_ ?_<;>(try intro h)<;>(try omega)|exact sP|refine rK ?_|exact sQ|refine sD ?_|rfl|exact sE|omega)
   all_goals first
    | (exfalso; exact hf (by assumption))
    | (refine Xm_inv_n (xs.length - (i+1)) (by omega) ⟨i+1,by omega,rfl,?_,rfl,rfl⟩
       rw [he,show xs.length - (i+1)=k from by omega])
    | skip
 ·obtain rfl:i=xs.length:=by omega
  rw [Nat.sub_self,hatK] at he
  rw [he]
  repeat' (first|refine sA ?_|refine sN ?_|refine sB ?_|refine sX ?_ ?_<;>(try intro h)<;>(try omega)|exact sP|refine rK ?_|exact sQ|refine sD ?_|rfl|exact sE|omega)
  all_goals skip
theorem k_isFresh (t m:Int)(ht:AtIn t)(hm:0≤m∧m≤9999):Okv Tryz.prog 171 [.int .i64 t,.int .i64 m] (.p (.bool (frsh t m))):=by
 refine ok_D hmix c_impl_isFresh (by simp) ?_
 have hd:frsh t m=(decide (0≤t) && decide (m - t≤10)):=rfl
 unfold AtIn at ht
 refine sA ?_
 repeat' (first|refine sA ?_|refine sN ?_|refine sB ?_|refine sX ?_ ?_<;>(try intro h)<;>(try omega)|exact sP|refine rK ?_|exact sQ|refine sD ?_|rfl|exact sE|omega)
 all_goals grind
theorem k_positionNow (m:Int)(xs:PV)(h:Hd)(hm:0≤m∧m≤9999)(h1:AtIn h.eAt)(h2:AtIn h.oAt):Okv Tryz.prog 173 [.agg [.int .i64 m,xs],h.pv] (.tup [.p (.agg [.int .i64 (pnO m h).1.1,.int .i64 (pnO m h).1.2]),.p (.bool (pnO m h).2)]):=by
 refine ok_D hmix c_impl_positionNow (by simp) ?_
 have hs:pnO m h=if frsh h.eAt m=true∧frsh h.oAt m=true then dpO h else ((0,0),false):=rfl
 have f1:=k_isFresh h.eAt m h1 hm
 have f2:=k_isFresh h.oAt m h2 hm
 have f3:=k_iPair h
 generalize dpO h=p at *
 generalize pnO m h=z at *
 rw [hd_pv]
 generalize frsh h.eAt m=q1 at *
 generalize frsh h.oAt m=q2 at *
 cases q1<;>cases q2<;>simp only [Bool.false_eq_true,and_self,false_and,and_false,if_false,if_true] at hs<;>subst hs
 all_goals
  refine sA ?_
  repeat' (first|refine sA ?_|refine sN ?_|refine rW rfl (f1) ?_|refine rV (f1) ?_|refine rW rfl (f2) ?_|refine rV (f2) ?_|refine rW rfl (f3) ?_|refine rV (f3) ?_|refine sB ?_|refine sX ?_ ?_<;>(try intro h)<;>(try omega)|exact sP|refine rK ?_|exact sQ|refine sD ?_|rfl|exact sE|omega)
 all_goals skip
theorem k_l9Position (m:Int)(xs:PV)(h:Hd)(hm:0≤m∧m≤9999)(h1:AtIn h.eAt)(h2:AtIn h.oAt):Okv Tryz.prog 187 [.agg [.int .i64 m,xs],h.pv] (.tup [.p (.agg [.int .i64 (pnO m h).1.1,.int .i64 (pnO m h).1.2]),.p (.bool (pnO m h).2)]):=by
 refine ok_D hmix c_spec_l9Position (by simp) ?_
 have hs:pnO m h=if frsh h.eAt m=true∧frsh h.oAt m=true then dpO h else ((0,0),false):=rfl
 have d1:frsh h.eAt m=(decide (0≤h.eAt) && decide (m - h.eAt≤10)):=rfl
 have d2:frsh h.oAt m=(decide (0≤h.oAt) && decide (m - h.oAt≤10)):=rfl
 have f3:=k_sPair h
 unfold AtIn at h1 h2
 generalize dpO h=p at *
 generalize pnO m h=z at *
 rw [hd_pv]
 by_cases hq:(0≤h.eAt∧m - h.eAt≤10)∧(0≤h.oAt∧m - h.oAt≤10)
 ·rw [d1,d2,if_pos (by simp only [Bool.and_eq_true,decide_eq_true_eq]; exact hq)] at hs
  subst hs
  clear d1 d2
  refine sA ?_
  repeat' (first|refine sA ?_|refine sN ?_|refine rW rfl (f3) ?_|refine rV (f3) ?_|refine sB ?_|refine sX ?_ ?_<;>(try intro h)<;>(try omega)|exact sP|refine rK ?_|exact sQ|refine sD ?_|rfl|exact sE|omega)
  all_goals skip
 ·rw [d1,d2,if_neg (by simp only [Bool.and_eq_true,decide_eq_true_eq]; exact hq)] at hs
  subst hs
  clear d1 d2
  refine sA ?_
  repeat' (first|refine sA ?_|refine sN ?_|refine sB ?_|refine sX ?_ ?_<;>(try intro h)<;>(try omega)|exact sP|refine rK ?_|exact sQ|refine sD ?_|rfl|exact sE|omega)
  all_goals skip
def pwO (n:Int)(xs:List Hd)(a:Int):(Int × Int) × Bool:=if recB2 n xs=true∧0≤hatO xs a then pnO n (xs.getD (hatO xs a).toNat default) else ((0,0),false)
theorem hat_lt {xs:List Hd}{a:Int}(h:0≤hatO xs a):(hatO xs a).toNat<xs.length∧hatO xs a=((hatO xs a).toNat:Int):=by
 rcases hat_in xs a with ⟨h1,_⟩|⟨i,h1,h2,_⟩
 ·omega
 ·rw [h1]; exact ⟨h2,rfl⟩
theorem k_iPosNow (n:Int)(xs:List Hd)(a:Int)(hb:xs.length≤1048576):Okv Tryz.prog 112 [.agg [.int .i64 n,.sl 10 (xs.map Hd.pv)],.int .i64 a] (.tup [.p (.agg [.int .i64 (pwO n xs a).1.1,.int .i64 (pwO n xs a).1.2]),.p (.bool (pwO n xs a).2)]):=by
 refine ok_D hmix c_impl_PositionNow (by simp) ?_
 have hs:pwO n xs a=if recB2 n xs=true∧0≤hatO xs a then pnO n (xs.getD (hatO xs a).toNat default) else ((0,0),false):=rfl
 have h1:=k_heardAt n xs a hb
 have h2:=k_iReceiver n xs hb
 have h3:=fun h=>hat_lt (xs:=xs) (a:=a) h
 have h4:=fun h=>rec2_in (n:=n) (xs:=xs) h
 generalize pwO n xs a=z at *
 by_cases hc:recB2 n xs=true∧0≤hatO xs a
 ·rw [if_pos hc] at hs
  obtain ⟨g1,g2⟩:=h3 hc.2
  obtain ⟨g3,_,_,g4⟩:=h4 hc.1
  obtain ⟨g5,g6⟩:=hd_times g3.2 (g4 _ g1)
  have h5:=k_positionNow n (.sl 10 (xs.map Hd.pv)) (xs.getD (hatO xs a).toNat default) g3 g5 g6
  rw [hc.1] at h2
  rw [g2] at h1
  clear h3 h4 g4 g2 hc
  generalize (hatO xs a).toNat=i at *
  generalize pnO n (xs.getD i default)=y at *
  subst hs
  refine sA ?_
  repeat' (first|refine sA ?_|refine sN ?_|refine rW rfl (h1) ?_|refine rV (h1) ?_|refine rW rfl (h2) ?_|refine rV (h2) ?_|refine rW rfl (h5) ?_|refine rV (h5) ?_|(refine Dm_draw [0] ?_ ?_; · (simp; done))|refine sB ?_|refine sX ?_ ?_<;>(try intro h)<;>(try omega)|exact sP|refine rK ?_|exact sQ|refine sD ?_|rfl|exact sE|omega)
  all_goals skip
 ·rw [if_neg hc] at hs
  subst hs
  cases hv:recB2 n xs
  ·rw [hv] at h2
   refine sA ?_
   repeat' (first|refine sA ?_|refine sN ?_|refine rW rfl (h1) ?_|refine rV (h1) ?_|refine rW rfl (h2) ?_|refine rV (h2) ?_|refine sB ?_|refine sX ?_ ?_<;>(try intro h)<;>(try omega)|exact sP|refine rK ?_|exact sQ|refine sD ?_|rfl|exact sE|omega)
   all_goals skip
  ·have hneg:hatO xs a<0:=by
    have : ¬ 0≤hatO xs a:=fun h=>hc ⟨hv,h⟩
    omega
   rw [hv] at h2
   refine sA ?_
   repeat' (first|refine sA ?_|refine sN ?_|refine rW rfl (h1) ?_|refine rV (h1) ?_|refine rW rfl (h2) ?_|refine rV (h2) ?_|refine sB ?_|refine sX ?_ ?_<;>(try intro h)<;>(try omega)|exact sP|refine rK ?_|exact sQ|refine sD ?_|rfl|exact sE|omega)
   all_goals skip
theorem k_sPosNow (n:Int)(xs:List Hd)(a:Int)(hb:xs.length≤1048576):Okv Tryz.prog 160 [.agg [.int .i64 n,.sl 10 (xs.map Hd.pv)],.int .i64 a] (.tup [.p (.agg [.int .i64 (pwO n xs a).1.1,.int .i64 (pwO n xs a).1.2]),.p (.bool (pwO n xs a).2)]):=by
 refine ok_D hmix c_spec_PositionNow (by simp) ?_
 have hs:pwO n xs a=if recB2 n xs=true∧0≤hatO xs a then pnO n (xs.getD (hatO xs a).toNat default) else ((0,0),false):=rfl
 have h1:=k_l9Find n xs a hb
 have h2:=k_l9Good n xs hb
 have h3:=fun h=>hat_lt (xs:=xs) (a:=a) h
 have h4:=fun h=>rec2_in (n:=n) (xs:=xs) h
 generalize pwO n xs a=z at *
 by_cases hc:recB2 n xs=true∧0≤hatO xs a
 ·rw [if_pos hc] at hs
  obtain ⟨g1,g2⟩:=h3 hc.2
  obtain ⟨g3,_,_,g4⟩:=h4 hc.1
  obtain ⟨g5,g6⟩:=hd_times g3.2 (g4 _ g1)
  have h5:=k_l9Position n (.sl 10 (xs.map Hd.pv)) (xs.getD (hatO xs a).toNat default) g3 g5 g6
  rw [hc.1] at h2
  rw [g2] at h1
  clear h3 h4 g4 g2 hc
  generalize (hatO xs a).toNat=i at *
  generalize pnO n (xs.getD i default)=y at *
  subst hs
  refine sA ?_
  repeat' (first|refine sA ?_|refine sN ?_|refine rW rfl (h1) ?_|refine rV (h1) ?_|refine rW rfl (h2) ?_|refine rV (h2) ?_|refine rW rfl (h5) ?_|refine rV (h5) ?_|(refine Dm_draw [0] ?_ ?_; · (simp; done))|refine sB ?_|refine sX ?_ ?_<;>(try intro h)<;>(try omega)|exact sP|refine rK ?_|exact sQ|refine sD ?_|rfl|exact sE|omega)
  all_goals skip
 ·rw [if_neg hc] at hs
  subst hs
  cases hv:recB2 n xs
  ·rw [hv] at h2
   refine sA ?_
   repeat' (first|refine sA ?_|refine sN ?_|refine rW rfl (h1) ?_|refine rV (h1) ?_|refine rW rfl (h2) ?_|refine rV (h2) ?_|refine sB ?_|refine sX ?_ ?_<;>(try intro h)<;>(try omega)|exact sP|refine rK ?_|exact sQ|refine sD ?_|rfl|exact sE|omega)
   all_goals skip
  ·have hneg:hatO xs a<0:=by
    have : ¬ 0≤hatO xs a:=fun h=>hc ⟨hv,h⟩
    omega
   rw [hv] at h2
   refine sA ?_
   repeat' (first|refine sA ?_|refine sN ?_|refine rW rfl (h1) ?_|refine rV (h1) ?_|refine rW rfl (h2) ?_|refine rV (h2) ?_|refine sB ?_|refine sX ?_ ?_<;>(try intro h)<;>(try omega)|exact sP|refine rK ?_|exact sQ|refine sD ?_|rfl|exact sE|omega)
   all_goals skip
def hfO (n:Int)(xs:List Hd)(a:Int):Hd × Bool:=if recB2 n xs=true∧0≤hatO xs a then (xs.getD (hatO xs a).toNat default,true) else (default,false)
theorem k_iHeardFrom (n:Int)(xs:List Hd)(a:Int)(hb:xs.length≤1048576):Okv Tryz.prog 115 [.agg [.int .i64 n,.sl 10 (xs.map Hd.pv)],.int .i64 a] (.tup [.p (hfO n xs a).1.pv,.p (.bool (hfO n xs a).2)]):=by
 refine ok_D hmix c_impl_HeardFrom (by simp) ?_
 have hs:hfO n xs a=if recB2 n xs=true∧0≤hatO xs a then (xs.getD (hatO xs a).toNat default,true) else (default,false):=rfl
 have h1:=k_heardAt n xs a hb
 have h2:=k_iReceiver n xs hb
 have h3:=fun h=>hat_lt (xs:=xs) (a:=a) h
 generalize hfO n xs a=z at *
 by_cases hc:recB2 n xs=true∧0≤hatO xs a
 ·rw [if_pos hc] at hs
  obtain ⟨g1,g2⟩:=h3 hc.2
  rw [hc.1] at h2
  rw [g2] at h1
  clear h3 g2 hc
  generalize (hatO xs a).toNat=i at *
  subst hs
  simp only [hd_pv]
  refine sA ?_
  repeat' (first|refine sA ?_|refine sN ?_|refine rW rfl (h1) ?_|refine rV (h1) ?_|refine rW rfl (h2) ?_|refine rV (h2) ?_|refine sB ?_|refine sX ?_ ?_<;>(try intro h)<;>(try omega)|exact sP|refine rK ?_|exact sQ|refine sD ?_|rfl|exact sE|omega)
  all_goals skip
 ·rw [if_neg hc] at hs
  subst hs
  cases hv:recB2 n xs
  ·rw [hv] at h2
   refine sA ?_
   repeat' (first|refine sA ?_|refine sN ?_|refine rW rfl (h1) ?_|refine rV (h1) ?_|refine rW rfl (h2) ?_|refine rV (h2) ?_|refine sB ?_|refine sX ?_ ?_<;>(try intro h)<;>(try omega)|exact sP|refine rK ?_|exact sQ|refine sD ?_|rfl|exact sE|omega)
   all_goals skip
  ·have hneg:hatO xs a<0:=by
    have : ¬ 0≤hatO xs a:=fun h=>hc ⟨hv,h⟩
    omega
   rw [hv] at h2
   refine sA ?_
   repeat' (first|refine sA ?_|refine sN ?_|refine rW rfl (h1) ?_|refine rV (h1) ?_|refine rW rfl (h2) ?_|refine rV (h2) ?_|refine sB ?_|refine sX ?_ ?_<;>(try intro h)<;>(try omega)|exact sP|refine rK ?_|exact sQ|refine sD ?_|rfl|exact sE|omega)
   all_goals skip
theorem k_sHeardFrom (n:Int)(xs:List Hd)(a:Int)(hb:xs.length≤1048576):Okv Tryz.prog 161 [.agg [.int .i64 n,.sl 10 (xs.map Hd.pv)],.int .i64 a] (.tup [.p (hfO n xs a).1.pv,.p (.bool (hfO n xs a).2)]):=by
 refine ok_D hmix c_spec_HeardFrom (by simp) ?_
 have hs:hfO n xs a=if recB2 n xs=true∧0≤hatO xs a then (xs.getD (hatO xs a).toNat default,true) else (default,false):=rfl
 have h1:=k_l9Find n xs a hb
 have h2:=k_l9Good n xs hb
 have h3:=fun h=>hat_lt (xs:=xs) (a:=a) h
 generalize hfO n xs a=z at *
 by_cases hc:recB2 n xs=true∧0≤hatO xs a
 ·rw [if_pos hc] at hs
  obtain ⟨g1,g2⟩:=h3 hc.2
  rw [hc.1] at h2
  rw [g2] at h1
  clear h3 g2 hc
  generalize (hatO xs a).toNat=i at *
  subst hs
  simp only [hd_pv]
  refine sA ?_
  repeat' (first|refine sA ?_|refine sN ?_|refine rW rfl (h1) ?_|refine rV (h1) ?_|refine rW rfl (h2) ?_|refine rV (h2) ?_|refine sB ?_|refine sX ?_ ?_<;>(try intro h)<;>(try omega)|exact sP|refine rK ?_|exact sQ|refine sD ?_|rfl|exact sE|omega)
  all_goals skip
 ·rw [if_neg hc] at hs
  subst hs
  cases hv:recB2 n xs
  ·rw [hv] at h2
   refine sA ?_
   repeat' (first|refine sA ?_|refine sN ?_|refine rW rfl (h1) ?_|refine rV (h1) ?_|refine rW rfl (h2) ?_|refine rV (h2) ?_|refine sB ?_|refine sX ?_ ?_<;>(try intro h)<;>(try omega)|exact sP|refine rK ?_|exact sQ|refine sD ?_|rfl|exact sE|omega)
   all_goals skip
  ·have hneg:hatO xs a<0:=by
    have : ¬ 0≤hatO xs a:=fun h=>hc ⟨hv,h⟩
    omega
   rw [hv] at h2
   refine sA ?_
   repeat' (first|refine sA ?_|refine sN ?_|refine rW rfl (h1) ?_|refine rV (h1) ?_|refine rW rfl (h2) ?_|refine rV (h2) ?_|refine sB ?_|refine sX ?_ ?_<;>(try intro h)<;>(try omega)|exact sP|refine rK ?_|exact sQ|refine sD ?_|rfl|exact sE|omega)
   all_goals skip
end Go.Proofs.YtekmkgegjicjgaaGreat
namespace Go.Proofs.YtekmkgegjicjgaaGreat
open Go.Dv Go.Dv.EvL
set_option maxRecDepth 100000
set_option maxHeartbeats 16000000
attribute [local irreducible] Ok Rm Dm Om Sm Xm Cm Gm Hm Tm
def RcvD (m:Int)(ys:List Hd)(d:DV)(H:Heap):Prop:=d = .tup [.agg [.p (.int .i64 m),.own 0 0 ys.length],.p (.bool true)]∧H=[.arr 111 10 (ys.map Hd.pv)]
def FailD (d:DV)(H:Heap):Prop:=d = .tup [.p (.agg [.int .i64 0,.sl 1 []]),.p (.bool false)]∧H=[]
def PtD (b:Bool)(m:Int)(ys:List Hd)(d:DV)(H:Heap):Prop:=if b=true then (RcvD m ys d H∨(ys=[]∧d = .tup [.agg [.p (.int .i64 m),.nil],.p (.bool true)]∧H=[])) else d = .tup [.agg [.p (.int .i64 0),.nil],.p (.bool false)]∧H=[]
def RcvR (b:Bool)(m:Int)(ys:List Hd)(d:DV)(H:Heap):Prop:=if b=true then RcvD m ys d H else FailD d H
theorem pt_ok {f:FuncId}{xs:List PV}{b:Bool}{m:Int}{ys:List Hd}(h:Okw Tryz.prog f xs (PtD b m ys)):Okw Tryz.prog f xs (RcvR b m ys):=by
 refine ok_norm (Q:=fun d H=>if b=true then RcvD m ys d H else d = .tup [.agg [.p (.int .i64 0),.nil],.p (.bool false)]∧H=[]) (nil_agg 111 10 (by decide) h fun d H hh => ?_) fun d H hh => ?_
 ·unfold PtD at hh
  cases b
  ·exact .inl hh
  ·rw [if_pos rfl] at hh
   rcases hh with hh|⟨rfl,rfl,rfl⟩
   ·exact .inl (by rw [if_pos rfl]; exact hh)
   ·exact .inr ⟨.int .i64 m,[.bool true],trivial,⟨trivial,trivial⟩,rfl,rfl,by rw [if_pos rfl]; exact ⟨rfl,rfl⟩⟩
 ·unfold RcvR
  cases b
  ·obtain ⟨rfl,rfl⟩:=hh
   exact ⟨rfl,rfl⟩
  ·rw [if_pos rfl] at hh ⊢
   obtain ⟨rfl,rfl⟩:=hh
   exact ⟨rfl,rfl⟩
def rcvP (b:Bool)(m:Int)(ys:List Hd):DV:=if b=true then .tup [.p (.agg [.int .i64 m,.sl 10 (ys.map Hd.pv)]),.p (.bool true)] else .tup [.p (.agg [.int .i64 0,.sl 1 []]),.p (.bool false)]
theorem rcv_pl {f:FuncId}{xs:List PV}{b:Bool}{m:Int}{ys:List Hd}(h:Okw Tryz.prog f xs (RcvR b m ys)):Okv Tryz.prog f xs (rcvP b m ys):=by
 refine ok_frz h fun d H h=>⟨fun ob ho=>by simp at ho,_,?_,rfl,by simp⟩
 unfold RcvR at h
 unfold rcvP
 cases b
 ·obtain ⟨rfl,rfl⟩:=h
  exact .inr ⟨_,[.agg [.int .i64 0,.sl 1 []],.bool false],rfl,rfl,rfl⟩
 ·rw [if_pos rfl] at h ⊢
  obtain ⟨rfl,rfl⟩:=h
  refine .inr ⟨_,[.agg [.int .i64 m,.sl 10 (ys.map Hd.pv)],.bool true],rfl,?_,rfl⟩
  simp [hid,viewOf,viewOfs,List.take_of_length_le]
end Go.Proofs.YtekmkgegjicjgaaGreat
namespace Go.Proofs.YtekmkgegjicjgaaGreat
open Go.Dv Go.Dv.EvL
set_option maxRecDepth 100000
set_option maxHeartbeats 16000000
attribute [local irreducible] Ok Rm Dm Om Sm Xm Cm Gm Hm Tm
def faO (n:Int)(xs:List Hd):List Int × Bool:=if recB2 n xs=true then (faTo n xs xs.length,true) else ([],false)
def faD (n:Int)(xs:List Hd)(d:DV)(H:Heap):Prop:=d = .tup [.own 0 0 (faO n xs).1.length,.p (.bool (faO n xs).2)]∧H=[.arr 3 1 ((faO n xs).1.map (.int .i64))]
theorem faTo_len (n:Int)(xs:List Hd) : ∀ i,(faTo n xs i).length≤i
 | 0=>Nat.le_refl _
 | i+1=>by
  have:=faTo_len n xs i
  unfold faTo
  split<;>simp<;>omega
theorem fa_pl {f:FuncId}{ps:List PV}{n:Int}{xs:List Hd}(h:Okw Tryz.prog f ps (faD n xs)):Okv Tryz.prog f ps (.tup [.p (slI .i64 (faO n xs).1),.p (.bool (faO n xs).2)]):=by
 refine ok_frz h fun d H h=>⟨fun ob ho=>by simp at ho,_,?_,rfl,by simp⟩
 obtain ⟨rfl,rfl⟩:=h
 refine .inr ⟨_,[slI .i64 (faO n xs).1,.bool (faO n xs).2],rfl,?_,rfl⟩
 simp [hid,viewOf,viewOfs,List.take_of_length_le]
theorem k_iFresh0 (n:Int)(xs:List Hd)(hb:xs.length≤1048576):Okw Tryz.prog 113 [.agg [.int .i64 n,.sl 10 (xs.map Hd.pv)]] fun d H=>faD n xs d H∨((faO n xs).1=[]∧d = .tup [.nil,.p (.bool (faO n xs).2)]∧H=[]):=by
 refine ok_D hmix c_impl_FreshAddresses (by simp) ?_
 have hs:faO n xs=if recB2 n xs=true then (faTo n xs xs.length,true) else ([],false):=rfl
 have h1:=k_iReceiver n xs hb
 unfold faD
 cases hB:recB2 n xs
 ·rw [hB,if_neg (by decide)] at hs
  rw [hB] at h1
  rw [hs]
  refine sA ?_
  repeat' (first|refine sA ?_|refine sN ?_|refine rW rfl (h1) ?_|refine rV (h1) ?_|refine sB ?_|refine sX ?_ ?_<;>(try intro h)<;>(try omega)|exact sP|refine rK ?_|exact sQ|refine sD ?_|rfl|exact sE|omega)
  all_goals first
   | exact ret_gen _ _ _ rfl rfl rfl (.inr ⟨rfl,rfl,rfl⟩)
   | exact ret_gen _ _ _ rfl rfl rfl (.inr ⟨rfl,rfl⟩)
   | skip
 ·obtain ⟨g4,g5,g6,g7⟩:=rec2_in hB
  rw [hB,if_pos rfl] at hs
  rw [hB] at h1
  rw [hs]
  simp only []
  clear hs
  refine sA ?_
  repeat' (first|refine sA ?_|refine sN ?_|refine rW rfl (h1) ?_|refine rV (h1) ?_|refine sB ?_|refine sX ?_ ?_<;>(try intro h)<;>(try omega)|exact sP|refine rK ?_|exact sQ|refine sD ?_|rfl|exact sE|omega)
  refine Dm_loop [1,4,13,14,15] (fun k ds H' => ∃ i:Nat,i≤xs.length∧k=xs.length - i ∧
   ((faTo n xs i=[]∧ds=[.ptr 0 0 0,.nil,.p (.sl 10 (xs.map Hd.pv)),.p (.int .i64 xs.length),.p (.int .i64 i)]∧H'=[.box 36 [.p (.int .i64 n),.p (.sl 10 (xs.map Hd.pv))]]) ∨
    (ds=[.ptr 0 0 0,.own 1 0 (faTo n xs i).length,.p (.sl 10 (xs.map Hd.pv)),.p (.int .i64 xs.length),.p (.int .i64 i)]∧H'=[.box 36 [.p (.int .i64 n),.p (.sl 10 (xs.map Hd.pv))],.arr 3 1 ((faTo n xs i).map (.int .i64))]))) xs.length ⟨0,by omega,by omega,.inl ⟨rfl,rfl,rfl⟩⟩ ?_
  rintro k ds H' ⟨i,hi,rfl,hh⟩ -
  have hln:=faTo_len n xs i
  rcases Nat.lt_or_ge i xs.length with hlt|hge
  ·have hst:faTo n xs (i+1)=if (pnO n (xs.getD i default)).2=true then faTo n xs i++[(xs.getD i default).addr] else faTo n xs i:=rfl
   obtain ⟨a1,a2⟩:=hd_times g4.2 (g7 i hlt)
   have f1:=k_positionNow n (.sl 10 (xs.map Hd.pv)) (xs.getD i default) g4 a1 a2
   simp only [hd_pv] at f1
   generalize hY:faTo n xs (i+1)=Y' at *
   generalize faTo n xs i=Y at *
   generalize (pnO n (xs.getD i default)).2=q at *
   generalize (pnO n (xs.getD i default)).1=z at *
   rcases hh with ⟨rfl,rfl,rfl⟩|⟨rfl,rfl⟩<;>cases q<;>simp only [Bool.false_eq_true,if_true,if_false] at hst<;>subst hst
   all_goals
    repeat' (first|refine sA ?_|refine sN ?_|refine rW rfl (f1) ?_|refine rV (f1) ?_|refine sB ?_|refine sX ?_ ?_<;>(try intro h)<;>(try omega)|exact sP|refine rK ?_|exact sQ|refine sD ?_|rfl|exact sE|omega)
   all_goals first
    | exact Xm_inv_n (xs.length - (i+1)) (by omega) ⟨i+1,by omega,rfl,.inl ⟨hY,rfl,rfl⟩⟩
    | (refine Xm_inv_n (xs.length - (i+1)) (by omega) ⟨i+1,by omega,rfl,.inr ?_⟩
       rw [hY]
       try simp only [List.map_append,List.length_append]
       exact ⟨rfl,rfl⟩)
    | skip
  ·obtain rfl:i=xs.length:=by omega
   generalize faTo n xs xs.length=Y at *
   rcases hh with ⟨rfl,rfl,rfl⟩|⟨rfl,rfl⟩
   ·repeat' (first|refine sA ?_|refine sN ?_|refine sB ?_|refine sX ?_ ?_<;>(try intro h)<;>(try omega)|exact sP|refine rK ?_|exact sQ|refine sD ?_|rfl|exact sE|omega)
    all_goals first
     | exact ret_gen _ _ _ rfl rfl rfl (.inr ⟨rfl,rfl,rfl⟩)
     | exact ret_gen _ _ _ rfl rfl rfl (.inr ⟨rfl,rfl⟩)
     | skip
   ·repeat' (first|refine sA ?_|refine sN ?_|refine sB ?_|refine sX ?_ ?_<;>(try intro h)<;>(try omega)|exact sP|refine rK ?_|exact sQ|refine sD ?_|rfl|exact sE|omega)
    all_goals first
     | exact ret_gen _ _ _ rfl rfl rfl (.inl ⟨rfl,rfl⟩)
     | skip
theorem k_iFresh (n:Int)(xs:List Hd)(hb:xs.length≤1048576):Okv Tryz.prog 113 [.agg [.int .i64 n,.sl 10 (xs.map Hd.pv)]] (.tup [.p (slI .i64 (faO n xs).1),.p (.bool (faO n xs).2)]):=by
 refine fa_pl (nil_own 3 1 (by decide) (k_iFresh0 n xs hb) fun d H hh => ?_)
 rcases hh with hh|⟨h1,rfl,rfl⟩
 ·exact .inl hh
 ·refine .inr ⟨[.bool (faO n xs).2],⟨trivial,trivial⟩,rfl,rfl,?_⟩
  unfold faD
  rw [h1]
  exact ⟨rfl,rfl⟩
theorem k_sFresh (n:Int)(xs:List Hd)(hb:xs.length≤1048576):Okv Tryz.prog 145 [.agg [.int .i64 n,.sl 10 (xs.map Hd.pv)]] (.tup [.p (slI .i64 (faO n xs).1),.p (.bool (faO n xs).2)]):=by
 refine fa_pl (ok_D hmix c_spec_FreshAddresses (by simp) ?_)
 have hs:faO n xs=if recB2 n xs=true then (faTo n xs xs.length,true) else ([],false):=rfl
 have h1:=k_l9Good n xs hb
 unfold faD
 cases hB:recB2 n xs
 ·rw [hB,if_neg (by decide)] at hs
  rw [hB] at h1
  rw [hs]
  refine sA ?_
  repeat' (first|refine sA ?_|refine sN ?_|refine rW rfl (h1) ?_|refine rV (h1) ?_|refine sB ?_|refine sX ?_ ?_<;>(try intro h)<;>(try omega)|exact sP|refine rK ?_|exact sQ|refine sD ?_|rfl|exact sE|omega)
  all_goals skip
 ·obtain ⟨g4,g5,g6,g7⟩:=rec2_in hB
  rw [hB,if_pos rfl] at hs
  rw [hB] at h1
  rw [hs]
  simp only []
  clear hs
  refine sA ?_
  repeat' (first|refine sA ?_|refine sN ?_|refine rW rfl (h1) ?_|refine rV (h1) ?_|refine sB ?_|refine sX ?_ ?_<;>(try intro h)<;>(try omega)|exact sP|refine rK ?_|exact sQ|refine sD ?_|rfl|exact sE|omega)
  refine Dm_loop [1,4,5] (fun k ds H' => ∃ i:Nat,i≤xs.length∧k=xs.length - i ∧
    ds=[.ptr 0 0 0,.own 1 0 (faTo n xs i).length,.p (.int .i64 i)]∧H'=[.box 36 [.p (.int .i64 n),.p (.sl 10 (xs.map Hd.pv))],.arr 3 1 ((faTo n xs i).map (.int .i64))]) xs.length ⟨0,by omega,by omega,rfl,rfl⟩ ?_
  rintro k ds H' ⟨i,hi,rfl,rfl,rfl⟩ -
  have hln:=faTo_len n xs i
  rcases Nat.lt_or_ge i xs.length with hlt|hge
  ·have hst:faTo n xs (i+1)=if (pnO n (xs.getD i default)).2=true then faTo n xs i++[(xs.getD i default).addr] else faTo n xs i:=rfl
   obtain ⟨a1,a2⟩:=hd_times g4.2 (g7 i hlt)
   have f1:=k_l9Position n (.sl 10 (xs.map Hd.pv)) (xs.getD i default) g4 a1 a2
   generalize hY:faTo n xs (i+1)=Y' at *
   generalize faTo n xs i=Y at *
   generalize (pnO n (xs.getD i default)).2=q at *
   generalize (pnO n (xs.getD i default)).1=z at *
   cases q<;>simp only [Bool.false_eq_true,if_true,if_false] at hst<;>subst hst
   all_goals
    repeat' (first|refine sA ?_|refine sN ?_|refine rW rfl (f1) ?_|refine rV (f1) ?_|(refine Dm_draw [0] ?_ ?_; · (simp; done))|refine sB ?_|refine sX ?_ ?_<;>(try intro h)<;>(try omega)|exact sP|refine rK ?_|exact sQ|refine sD ?_|rfl|exact sE|omega)
   all_goals first
    | (refine Xm_inv_n (xs.length - (i+1)) (by omega) ⟨i+1,by omega,rfl,?_⟩
       rw [hY]
       try simp only [List.map_append,List.length_append]
       exact ⟨rfl,rfl⟩)
    | skip
  ·obtain rfl:i=xs.length:=by omega
   generalize faTo n xs xs.length=Y at *
   repeat' (first|refine sA ?_|refine sN ?_|refine sB ?_|refine sX ?_ ?_<;>(try intro h)<;>(try omega)|exact sP|refine rK ?_|exact sQ|refine sD ?_|rfl|exact sE|omega)
   all_goals first
    | exact ret_gen _ _ _ rfl rfl rfl ⟨rfl,rfl⟩
    | skip
end Go.Proofs.YtekmkgegjicjgaaGreat

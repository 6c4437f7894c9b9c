import Derived.Test.YtekmkgegjicjgaaGreatZBas
import Derived.Test.YtekmkgegjicjgaaGreatZPln
namespace Go.Proofs.YtekmkgegjicjgaaGreat
open Go.Dv Go.Dv.EvL
set_option maxRecDepth 100000
set_option maxHeartbeats 16000000
attribute [local irreducible] Ok Rm Dm Om Sm Xm Cm Gm Hm Tm
theorem bef_pr {h:Al}{a b l m:Int}:befB h (prA a b l m)=befB h (prA a b 0 0):=rfl
theorem posA_pr {a b l m:Int} : ∀ {xs:List Al},posA (prA a b l m) xs=posA (prA a b 0 0) xs
 | []=>rfl
 | h::t=>by
  unfold posA
  rw [bef_pr,posA_pr (xs:=t)]
theorem isA_pr {a b l m:Int}{xs:List Al}:isA (prA a b l m) xs=isA (prA a b 0 0) xs:=by
 unfold isA
 rw [posA_pr]
 rfl
theorem isA_in {x:Al}{xs:List Al}(h:isA x xs=true):posA x xs<xs.length:=by
 unfold isA at h
 simp only [Bool.and_eq_true,decide_eq_true_eq] at h
 exact h.1
theorem k_isPair (a b:Int):Okv Tryz.prog 119 [.int .i64 a,.int .i64 b] (.p (.bool (pairB a b))):=by
 refine ok_D hmix c_impl_isPair (by simp) ?_
 have hd:pairB a b=(addrB a && addrB b && decide (a≠b)):=rfl
 have h1:=k_isAddress a
 have h2:=k_isAddress b
 generalize addrB a=q1 at *
 generalize addrB b=q2 at *
 generalize pairB a b=z at *
 cases q1<;>cases q2
 all_goals
  refine sA ?_
  repeat' (first|refine sA ?_|refine sN ?_|refine rW rfl (h1) ?_|refine rV (h1) ?_|refine rW rfl (h2) ?_|refine rV (h2) ?_|refine sB ?_|refine sX ?_ ?_<;>(try intro h)<;>(try omega)|exact sP|refine rK ?_|exact sQ|refine sD ?_|rfl|exact sE|omega)
 all_goals grind
theorem k_l20Asked (xs:List Al)(a b:Int)(hb:xs.length≤1048576):Okv Tryz.prog 190 [.sl 5 (xs.map Al.pv),.int .i64 a,.int .i64 b] (.p (.bool (alsB xs && pairB a b))):=by
 refine ok_D hmix c_spec_l20Asked (by simp) ?_
 have hd:pairB a b=(addrB a && addrB b && decide (a≠b)):=rfl
 have h0:=k_l20Good xs hb
 have h1:=k_l5Address a
 have h2:=k_l5Address b
 generalize alsB xs=q0 at *
 generalize addrB a=q1 at *
 generalize addrB b=q2 at *
 generalize pairB a b=z at *
 cases q0<;>cases q1<;>cases q2
 all_goals
  refine sA ?_
  repeat' (first|refine sA ?_|refine sN ?_|refine rW rfl (h0) ?_|refine rV (h0) ?_|refine rW rfl (h1) ?_|refine rV (h1) ?_|refine rW rfl (h2) ?_|refine rV (h2) ?_|refine sB ?_|refine sX ?_ ?_<;>(try intro h)<;>(try omega)|exact sP|refine rK ?_|exact sQ|refine sD ?_|rfl|exact sE|omega)
 all_goals grind
theorem k_alertAt (xs:List Al)(a b:Int)(hb:xs.length≤1048576):Okv Tryz.prog 118 [.sl 5 (xs.map Al.pv),.int .i64 a,.int .i64 b] (.p (.int .i64 (aatO xs (prA a b 0 0)))):=by
 refine ok_D hmix c_impl_alertAt (by simp) ?_
 have hO:aatO xs (prA a b 0 0)=aatK xs (prA a b 0 0) xs.length:=rfl
 refine sA ?_
 repeat' (first|refine sA ?_|refine sN ?_|refine sB ?_|refine sX ?_ ?_<;>(try intro h)<;>(try omega)|exact sP|refine rK ?_|exact sQ|refine sD ?_|rfl|exact sE|omega)
 refine Dm_loop [1,2,9,10,11] (fun m ds H' => ∃ i:Nat,i≤xs.length∧m=xs.length - i∧aatO xs (prA a b 0 0)=aatK xs (prA a b 0 0) (xs.length - i)∧ds=[.p (.int .i64 a),.p (.int .i64 b),.p (.sl 5 (xs.map Al.pv)),.p (.int .i64 xs.length),.p (.int .i64 i)]∧H'=[]) xs.length ⟨0,by omega,by omega,by rw [hO,Nat.sub_zero],rfl,rfl⟩ ?_
 rintro m ds H' ⟨i,hi,rfl,he,rfl,rfl⟩ -
 rcases Nat.lt_or_ge i xs.length with hlt|hge
 ·obtain ⟨k,hk⟩ : ∃ k,xs.length - i=k+1:=⟨xs.length - i - 1,by omega⟩
  have hr:aatK xs (prA a b 0 0) (k+1)=if sameP (xs.getD i default) (prA a b 0 0)=true then (i:Int) else aatK xs (prA a b 0 0) k:=by
   rw [aatK,show xs.length - (k+1)=i from by omega]
  have hs:sameP (xs.getD i default) (prA a b 0 0)=true↔(xs.getD i default).low=min a b∧(xs.getD i default).high=max a b:=same_iff
  rw [hk] at he ⊢
  rw [hr] at he
  clear hO
  generalize aatO xs (prA a b 0 0)=Z at *
  by_cases hf:(xs.getD i default).low=min a b∧(xs.getD i default).high=max a b
  ·rw [if_pos (hs.2 hf)] at he
   subst he
   obtain ⟨hf1,hf2⟩:=hf
   clear hs
   repeat' (first|refine sA ?_|refine sN ?_|rw [hf1]|rw [hf2]|refine sB ?_|refine sX ?_ ?_<;>(try intro h)<;>(try omega)|exact sP|refine rK ?_|exact sQ|refine sD ?_|rfl|exact sE|omega)
   all_goals skip
  ·rw [if_neg (fun h=>hf (hs.1 h))] at he
   clear hs
   repeat' (first|refine sA ?_|refine sN ?_|refine sB ?_|refine sX ?_ ?_<;>(try intro h)<;>(try omega)|exact sP|refine rK ?_|exact sQ|refine sD ?_|rfl|exact sE|omega)
   all_goals first
    | (exfalso; exact hf ⟨by assumption,by assumption⟩)
    | (refine Xm_inv_n (xs.length - (i+1)) (by omega) ⟨i+1,by omega,rfl,?_,rfl,rfl⟩
       rw [he,show xs.length - (i+1)=k from by omega])
    | skip
 ·obtain rfl:i=xs.length:=by omega
  rw [Nat.sub_self,aatK] at he
  rw [he]
  repeat' (first|refine sA ?_|refine sN ?_|refine sB ?_|refine sX ?_ ?_<;>(try intro h)<;>(try omega)|exact sP|refine rK ?_|exact sQ|refine sD ?_|rfl|exact sE|omega)
  all_goals skip
theorem posA_next {x:Al}{xs:List Al}{k:Nat}(h : ∀ j,j<k→befB (xs.getD j default) x=true)(hk:befB (xs.getD k default) x=true) : ∀ j,j<k+1→befB (xs.getD j default) x=true:=fun j hj=>by
 by_cases e:j=k
 ·rw [e]; exact hk
 ·exact h j (by omega)
theorem k_l20Find (xs:List Al)(a b:Int)(hb:xs.length≤1048576):Okv Tryz.prog 163 [.sl 5 (xs.map Al.pv),.int .i64 a,.int .i64 b] (.tup [.p (.int .i64 (posA (prA a b 0 0) xs:Nat)),.p (.bool (isA (prA a b 0 0) xs))]):=by
 refine ok_D hmix c_spec_l20Find (by simp) ?_
 have hA:isA (prA a b 0 0) xs=(decide (posA (prA a b 0 0) xs<xs.length) && sameP (xs.getD (posA (prA a b 0 0) xs) default) (prA a b 0 0)):=rfl
 have hpe:=fun k=>posA_eq (x:=prA a b 0 0) (xs:=xs) (k:=k)
 generalize posA (prA a b 0 0) xs=P at *
 generalize isA (prA a b 0 0) xs=Z at *
 refine sA ?_
 repeat' (first|refine sA ?_|refine sN ?_|refine rW rfl (k_l1Least _ _) ?_|refine rV (k_l1Least _ _) ?_|refine rW rfl (k_l1Most _ _) ?_|refine rV (k_l1Most _ _) ?_|refine sB ?_|refine sX ?_ ?_<;>(try intro h)<;>(try omega)|exact sP|refine rK ?_|exact sQ|refine sD ?_|rfl|exact sE|omega)
 refine Dm_loop [0,8,9] (fun v ds H' => ∃ k:Nat,k≤xs.length∧v=xs.length - k∧(∀ j,j<k→befB (xs.getD j default) (prA a b 0 0)=true)∧ds=[.p (.sl 5 (xs.map Al.pv)),.ptr 0 0 0,.p (.int .i64 k)] ∧
  H'=[.box 114 [.p (.int .i64 (min a b)),.p (.int .i64 (max a b)),.p (.int .i64 0),.p (.int .i64 0),.p (.bool false)]]) xs.length ⟨0,by omega,by omega,fun j hj=>by omega,rfl,rfl⟩ ?_
 rintro v ds H' ⟨k,hk,rfl,hlo,rfl,rfl⟩ -
 have hpe:=hpe k hk hlo
 have hnx:=fun h=>posA_next (k:=k) hlo h
 have h4:=k_l20Before (xs.getD k default) (prA a b 0 0)
 have hs:sameP (xs.getD k default) (prA a b 0 0)=(decide ((xs.getD k default).low=min a b) && decide ((xs.getD k default).high=max a b)):=rfl
 simp only [al_pv,prA] at h4
 rcases Nat.lt_or_ge k xs.length with hlt|hge
 ·cases hB:befB (xs.getD k default) (prA a b 0 0)
  ·have hpe:=hpe (fun _=>hB)
   have hB2:befB (xs.getD k default) ⟨min a b,max a b,0,0,false⟩=false:=hB
   rw [hpe,hs,decide_eq_true hlt,Bool.true_and] at hA
   rw [hB2] at h4
   rw [hpe]
   clear hB hB2 hpe hnx hs hlo
   repeat' (first|refine sA ?_|refine sN ?_|refine rW rfl (h4) ?_|refine rV (h4) ?_|refine sB ?_|refine sX ?_ ?_<;>(try intro h)<;>(try omega)|exact sP|refine rK ?_|exact sQ|refine sD ?_|rfl|exact sE|omega)
   all_goals first
    | grind
    | skip
  ·have hB2:befB (xs.getD k default) ⟨min a b,max a b,0,0,false⟩=true:=hB
   have hnx:=hnx hB
   rw [hB2] at h4
   clear hs hB hB2 hpe hA hlo
   repeat' (first|refine sA ?_|refine sN ?_|refine rW rfl (h4) ?_|refine rV (h4) ?_|refine sB ?_|refine sX ?_ ?_<;>(try intro h)<;>(try omega)|exact sP|refine rK ?_|exact sQ|refine sD ?_|rfl|exact sE|omega)
   all_goals first
    | exact Xm_inv_n (xs.length - (k+1)) (by omega) ⟨k+1,by omega,rfl,hnx,rfl,rfl⟩
    | skip
 ·have hpe:=hpe (fun h=>by omega)
  rw [hpe,decide_eq_false (by omega),Bool.false_and] at hA
  rw [hpe,hA]
  clear hnx hs hlo
  repeat' (first|refine sA ?_|refine sN ?_|refine rW rfl (h4) ?_|refine rV (h4) ?_|refine sB ?_|refine sX ?_ ?_<;>(try intro h)<;>(try omega)|exact sP|refine rK ?_|exact sQ|refine sD ?_|rfl|exact sE|omega)
  all_goals first
   | grind
   | skip
def alO (b:Bool)(ys:List Al):List Al × Bool:=if b=true then (ys,true) else ([],false)
def AlD (o:List Al × Bool)(d:DV)(H:Heap):Prop:=d = .tup [.own 0 0 o.1.length,.p (.bool o.2)]∧H=[.arr 114 5 (o.1.map Al.pv)]
def AlR (b:Bool)(ys:List Al)(d:DV)(H:Heap):Prop:=if b=true then AlD (ys,true) d H else H=[]∧d = .tup [.nil,.p (.bool false)]
theorem al_pl {f:FuncId}{ps:List PV}{o:List Al × Bool}(h:Okw Tryz.prog f ps (AlD o)):Okv Tryz.prog f ps (.tup [.p (.sl 5 (o.1.map Al.pv)),.p (.bool o.2)]):=by
 refine ok_frz h fun d H h=>⟨fun ob ho=>by simp at ho,_,?_,rfl,by simp⟩
 obtain ⟨rfl,rfl⟩:=h
 refine .inr ⟨_,[.sl 5 (o.1.map Al.pv),.bool o.2],rfl,?_,rfl⟩
 simp [hid,viewOf,viewOfs,List.take_of_length_le]
theorem seeB_in {xs:List Al}{a b:Int}(h:seeB xs a b=true):alsB xs=true∧pairB a b=true∧isA (prA a b 0 0) xs=true:=by
 unfold seeB at h
 simp only [Bool.and_eq_true] at h
 exact ⟨h.1.1,h.1.2,h.2⟩
theorem k_sSee (xs:List Al)(a b:Int)(hb:xs.length≤1048576):Okv Tryz.prog 162 [.sl 5 (xs.map Al.pv),.int .i64 a,.int .i64 b] (.tup [.p (.sl 5 ((alO (seeB xs a b) (seeL xs a b)).1.map Al.pv)),.p (.bool (alO (seeB xs a b) (seeL xs a b)).2)]):=by
 refine al_pl (ok_D hmix c_spec_SeeAlert (by simp) ?_)
 have h1:=k_l20Find xs a b hb
 have h2:=k_l20Asked xs a b hb
 have hL:seeL xs a b=xs.set (posA (prA a b 0 0) xs) { xs.getD (posA (prA a b 0 0) xs) default with seen:=true }:=rfl
 have hd:seeB xs a b=(alsB xs && pairB a b && isA (prA a b 0 0) xs):=rfl
 have hp:=fun h=>isA_in (x:=prA a b 0 0) (xs:=xs) h
 unfold alO AlD
 generalize seeL xs a b=R at *
 generalize isA (prA a b 0 0) xs=q1 at *
 generalize (alsB xs && pairB a b)=q2 at *
 generalize seeB xs a b=q at *
 generalize posA (prA a b 0 0) xs=p at *
 cases q1<;>cases q2<;>simp only [Bool.and_true,Bool.and_false] at hd<;>subst hd
 ·simp only [Bool.false_eq_true,if_false]
  refine sA ?_
  repeat' (first|refine sA ?_|refine sN ?_|refine rW rfl (h1) ?_|refine rV (h1) ?_|refine rW rfl (h2) ?_|refine rV (h2) ?_|refine sB ?_|refine sX ?_ ?_<;>(try intro h)<;>(try omega)|exact sP|refine rK ?_|exact sQ|refine sD ?_|rfl|exact sE|omega)
  all_goals skip
 ·simp only [Bool.false_eq_true,if_false]
  refine sA ?_
  repeat' (first|refine sA ?_|refine sN ?_|refine rW rfl (h1) ?_|refine rV (h1) ?_|refine rW rfl (h2) ?_|refine rV (h2) ?_|refine sB ?_|refine sX ?_ ?_<;>(try intro h)<;>(try omega)|exact sP|refine rK ?_|exact sQ|refine sD ?_|rfl|exact sE|omega)
  all_goals skip
 ·simp only [Bool.false_eq_true,if_false]
  refine sA ?_
  repeat' (first|refine sA ?_|refine sN ?_|refine rW rfl (h1) ?_|refine rV (h1) ?_|refine rW rfl (h2) ?_|refine rV (h2) ?_|refine sB ?_|refine sX ?_ ?_<;>(try intro h)<;>(try omega)|exact sP|refine rK ?_|exact sQ|refine sD ?_|rfl|exact sE|omega)
  all_goals skip
 ·have hp:=hp rfl
  simp only [if_true]
  refine sA ?_
  repeat' (first|refine sA ?_|refine sN ?_|refine rW rfl (h1) ?_|refine rV (h1) ?_|refine rW rfl (h2) ?_|refine rV (h2) ?_|(refine Rm_putw (by omega) ⟨(xs.getD p default).low,(xs.getD p default).high,(xs.getD p default).lvl,(xs.getD p default).since,true⟩ rfl (by first|rfl|exact putw_rfl) rfl ?_)|refine sB ?_|refine sX ?_ ?_<;>(try intro h)<;>(try omega)|exact sP|refine rK ?_|exact sQ|refine sD ?_|rfl|exact sE|omega)
  all_goals first
   | (refine ret_gen _ _ _ rfl rfl rfl ?_; rw [hL]; exact ⟨by rw [List.length_set]; rfl,rfl⟩)
   | skip
theorem k_iSee (xs:List Al)(a b:Int)(hb:xs.length≤1048576):Okw Tryz.prog 116 [.sl 5 (xs.map Al.pv),.int .i64 a,.int .i64 b] (AlR (seeB xs a b) (seeL xs a b)):=by
 refine ok_D hmix c_impl_SeeAlert (by simp) ?_
 have h1:=k_alertAt xs a b hb
 have h2:=k_iAlerts xs hb
 have h3:=k_isPair a b
 have hL:seeL xs a b=xs.set (posA (prA a b 0 0) xs) { xs.getD (posA (prA a b 0 0) xs) default with seen:=true }:=rfl
 have hd:seeB xs a b=(alsB xs && pairB a b && isA (prA a b 0 0) xs):=rfl
 have hp:=fun h=>isA_in (x:=prA a b 0 0) (xs:=xs) h
 have ha:=fun h=>sorted_aat (xs:=xs) h (prA a b 0 0)
 have hto:=fun h=>(als_to (xs:=xs) h).1
 unfold AlR AlD
 generalize seeL xs a b=R at *
 generalize pairB a b=q2 at *
 generalize posA (prA a b 0 0) xs=p at *
 cases q0:alsB xs
 ·rw [q0] at hd h2
  simp only [Bool.false_and] at hd
  rw [hd]
  simp only [Bool.false_eq_true,if_false]
  refine sA ?_
  repeat' (first|refine sA ?_|refine sN ?_|refine rW rfl (h1) ?_|refine rV (h1) ?_|refine rW rfl (h2) ?_|refine rV (h2) ?_|refine rW rfl (h3) ?_|refine rV (h3) ?_|refine sB ?_|refine sX ?_ ?_<;>(try intro h)<;>(try omega)|exact sP|refine rK ?_|exact sQ|refine sD ?_|rfl|exact sE|omega)
  all_goals first
   | exact ret_gen _ _ _ rfl rfl rfl ⟨rfl,rfl⟩
   | skip
 ·have ha:=ha (hto q0)
  rw [q0] at hd h2
  clear hto
  generalize aatO xs (prA a b 0 0)=A at *
  generalize isA (prA a b 0 0) xs=q1 at *
  cases q1<;>cases q2<;>simp only [Bool.and_true,Bool.and_false] at hd<;>rw [hd]
  ·simp only [Bool.false_eq_true,if_false] at ha ⊢
   subst ha
   refine sA ?_
   repeat' (first|refine sA ?_|refine sN ?_|refine rW rfl (h1) ?_|refine rV (h1) ?_|refine rW rfl (h2) ?_|refine rV (h2) ?_|refine rW rfl (h3) ?_|refine rV (h3) ?_|refine sB ?_|refine sX ?_ ?_<;>(try intro h)<;>(try omega)|exact sP|refine rK ?_|exact sQ|refine sD ?_|rfl|exact sE|omega)
   all_goals first
    | exact ret_gen _ _ _ rfl rfl rfl ⟨rfl,rfl⟩
    | skip
  ·simp only [Bool.false_eq_true,if_false] at ha ⊢
   subst ha
   refine sA ?_
   repeat' (first|refine sA ?_|refine sN ?_|refine rW rfl (h1) ?_|refine rV (h1) ?_|refine rW rfl (h2) ?_|refine rV (h2) ?_|refine rW rfl (h3) ?_|refine rV (h3) ?_|refine sB ?_|refine sX ?_ ?_<;>(try intro h)<;>(try omega)|exact sP|refine rK ?_|exact sQ|refine sD ?_|rfl|exact sE|omega)
   all_goals first
    | exact ret_gen _ _ _ rfl rfl rfl ⟨rfl,rfl⟩
    | skip
  ·simp only [Bool.false_eq_true,if_false,if_true] at ha ⊢
   subst ha
   refine sA ?_
   repeat' (first|refine sA ?_|refine sN ?_|refine rW rfl (h1) ?_|refine rV (h1) ?_|refine rW rfl (h2) ?_|refine rV (h2) ?_|refine rW rfl (h3) ?_|refine rV (h3) ?_|refine sB ?_|refine sX ?_ ?_<;>(try intro h)<;>(try omega)|exact sP|refine rK ?_|exact sQ|refine sD ?_|rfl|exact sE|omega)
   all_goals first
    | exact ret_gen _ _ _ rfl rfl rfl ⟨rfl,rfl⟩
    | skip
  ·have hp:=hp rfl
   simp only [if_true] at ha ⊢
   subst ha
   refine sA ?_
   repeat' (first|refine sA ?_|refine sN ?_|refine rW rfl (h1) ?_|refine rV (h1) ?_|refine rW rfl (h2) ?_|refine rV (h2) ?_|refine rW rfl (h3) ?_|refine rV (h3) ?_|(refine Rm_putw (by omega) ⟨(xs.getD p default).low,(xs.getD p default).high,(xs.getD p default).lvl,(xs.getD p default).since,true⟩ rfl (by first|rfl|exact putw_rfl) rfl ?_)|refine sB ?_|refine sX ?_ ?_<;>(try intro h)<;>(try omega)|exact sP|refine rK ?_|exact sQ|refine sD ?_|rfl|exact sE|omega)
   all_goals first
    | (refine ret_gen _ _ _ rfl rfl rfl ?_; rw [hL]; exact ⟨by rw [List.length_set]; rfl,rfl⟩)
    | skip
end Go.Proofs.YtekmkgegjicjgaaGreat
namespace Go.Proofs.YtekmkgegjicjgaaGreat
open Go.Dv Go.Dv.EvL
set_option maxRecDepth 100000
set_option maxHeartbeats 16000000
attribute [local irreducible] Ok Rm Dm Om Sm Xm Cm Gm Hm Tm
theorem prA_lvl {a b l m:Int}:(prA a b l m).lvl=l:=rfl
theorem k_l20Set (xs:List Al)(a b l m:Int)(hb:xs.length≤1000):Okw Tryz.prog 191 [.sl 5 (xs.map Al.pv),.int .i64 a,.int .i64 b,.int .i64 l,.int .i64 m] fun d H=>d = .own 0 0 (setL2 xs (prA a b l m)).length∧H=[.arr 114 5 ((setL2 xs (prA a b l m)).map Al.pv)]:=by
 refine ok_D hmix c_spec_l20Set (by simp) ?_
 have h1:=k_l20Find xs a b (by omega)
 have hp:=posA_le (prA a b 0 0) xs
 have hq:=fun h=>isA_in (x:=prA a b 0 0) (xs:=xs) h
 have hS:setL2 xs (prA a b l m)=if isA (prA a b 0 0) xs=true then (if l=0 then xs.take (posA (prA a b 0 0) xs)++xs.drop (posA (prA a b 0 0) xs+1) else if (xs.getD (posA (prA a b 0 0) xs) default).lvl=l then xs else xs.set (posA (prA a b 0 0) xs) (prA a b l m))
   else (if l=0 then xs else xs.take (posA (prA a b 0 0) xs)++prA a b l m::xs.drop (posA (prA a b 0 0) xs)):=by
  unfold setL2
  rw [isA_pr,posA_pr,prA_lvl]
 generalize setL2 xs (prA a b l m)=R at *
 generalize isA (prA a b 0 0) xs=q at *
 generalize posA (prA a b 0 0) xs=p at *
 have htk:(xs.take p).length=p:=by rw [List.length_take]; omega
 have hct:cutL xs 0 p=xs.take p:=by simp [cutL]
 have hcd : ∀ j:Nat,cutL xs j xs.length=xs.drop j:=fun j=>List.take_of_length_le (by simp)
 have hx:Al.pv (prA a b l m) = .agg [.int .i64 (min a b),.int .i64 (max a b),.int .i64 l,.int .i64 m,.bool false]:=rfl
 cases q
 ·simp only [Bool.false_eq_true,if_false] at hS
  by_cases hl0:l=0
  ·rw [if_pos hl0] at hS
   subst hS
   have e:R.take p++R.drop p=R:=List.take_append_drop _ _
   have e1:List.take (R.take p).length ((R.take p).map Al.pv)++(R.drop p).map Al.pv=R.map Al.pv:=by rw [List.take_of_length_le (by simp),← List.map_append,e]
   have e2:(R.take p).length+(R.drop p).length=R.length:=by rw [← List.length_append,e]
   have e3:(R.take p).map Al.pv++(R.drop p).map Al.pv=R.map Al.pv:=by rw [← List.map_append,e]
   refine sA ?_
   repeat' (first|refine sA ?_|refine sN ?_|refine rW rfl (h1) ?_|refine rV (h1) ?_|refine rW rfl (k_l1Least _ _) ?_|refine rV (k_l1Least _ _) ?_|refine rW rfl (k_l1Most _ _) ?_|refine rV (k_l1Most _ _) ?_|rw [hct]|rw [hcd]|rw [e1]|rw [e2]|rw [e]|refine sB ?_|refine sX ?_ ?_<;>(try intro h)<;>(try omega)|exact sP|refine rK ?_|exact sQ|refine sD ?_|rfl|exact sE|omega)
   all_goals skip
  ·rw [if_neg hl0] at hS
   have e1:List.take ((xs.take p).length+1) ((xs.take p).map Al.pv++[.agg [.int .i64 (min a b),.int .i64 (max a b),.int .i64 l,.int .i64 m,.bool false]])++(xs.drop p).map Al.pv=R.map Al.pv:=by
    rw [hS,List.take_of_length_le (by simp),List.map_append,List.map_cons,List.append_assoc,hx]
    rfl
   have e2:(xs.take p).length+1+(xs.drop p).length=R.length:=by
    rw [hS,List.length_append,List.length_cons]
    omega
   refine sA ?_
   repeat' (first|refine sA ?_|refine sN ?_|refine rW rfl (h1) ?_|refine rV (h1) ?_|refine rW rfl (k_l1Least _ _) ?_|refine rV (k_l1Least _ _) ?_|refine rW rfl (k_l1Most _ _) ?_|refine rV (k_l1Most _ _) ?_|rw [hct]|rw [hcd]|rw [e1]|rw [e2]|refine sB ?_|refine sX ?_ ?_<;>(try intro h)<;>(try omega)|exact sP|refine rK ?_|exact sQ|refine sD ?_|rfl|exact sE|omega)
   all_goals skip
 ·have hq:=hq rfl
  simp only [if_true] at hS
  by_cases hl0:l=0
  ·rw [if_pos hl0] at hS
   have e1:List.take (xs.take p).length ((xs.take p).map Al.pv)++(xs.drop (p+1)).map Al.pv=R.map Al.pv:=by rw [hS,List.take_of_length_le (by simp),← List.map_append]
   have e2:(xs.take p).length+(xs.drop (p+1)).length=R.length:=by rw [hS,← List.length_append]
   have e3:(xs.take p).map Al.pv++(xs.drop (p+1)).map Al.pv=R.map Al.pv:=by rw [hS,← List.map_append]
   refine sA ?_
   repeat' (first|refine sA ?_|refine sN ?_|refine rW rfl (h1) ?_|refine rV (h1) ?_|refine rW rfl (k_l1Least _ _) ?_|refine rV (k_l1Least _ _) ?_|refine rW rfl (k_l1Most _ _) ?_|refine rV (k_l1Most _ _) ?_|rw [hct]|rw [hcd]|rw [e1]|rw [e2]|rw [e3]|rw [← hS]|refine sB ?_|refine sX ?_ ?_<;>(try intro h)<;>(try omega)|exact sP|refine rK ?_|exact sQ|refine sD ?_|rfl|exact sE|omega)
   all_goals skip
  ·rw [if_neg hl0] at hS
   have e2:(xs.take p).length+1+(xs.drop (p+1)).length=xs.length:=by rw [List.length_drop]; omega
   by_cases hl1:(xs.getD p default).lvl=l
   ·rw [if_pos hl1] at hS
    subst hS
    have e1:List.take ((R.take p).length+1) ((R.take p).map Al.pv++[.agg [.int .i64 (R.getD p default).low,.int .i64 (R.getD p default).high,.int .i64 (R.getD p default).lvl,.int .i64 (R.getD p default).since,.bool (R.getD p default).seen]])++(R.drop (p+1)).map Al.pv=R.map Al.pv:=by
     have e:R=R.take p++R.getD p default::R.drop (p+1):=by rw [← drop_cons (d:=default) hq,List.take_append_drop]
     conv=>rhs; rw [e]
     rw [List.take_of_length_le (by simp),List.map_append,List.map_cons,List.append_assoc]
     rfl
    refine sA ?_
    repeat' (first|refine sA ?_|refine sN ?_|refine rW rfl (h1) ?_|refine rV (h1) ?_|refine rW rfl (k_l1Least _ _) ?_|refine rV (k_l1Least _ _) ?_|refine rW rfl (k_l1Most _ _) ?_|refine rV (k_l1Most _ _) ?_|rw [hct]|rw [hcd]|rw [e1]|rw [e2]|refine sB ?_|refine sX ?_ ?_<;>(try intro h)<;>(try omega)|exact sP|refine rK ?_|exact sQ|refine sD ?_|rfl|exact sE|omega)
    all_goals skip
   ·rw [if_neg hl1] at hS
    have e1:List.take ((xs.take p).length+1) ((xs.take p).map Al.pv++[.agg [.int .i64 (min a b),.int .i64 (max a b),.int .i64 l,.int .i64 m,.bool false]])++(xs.drop (p+1)).map Al.pv=R.map Al.pv:=by
     rw [hS,List.set_eq_take_append_cons_drop,if_pos hq,List.take_of_length_le (by simp),List.map_append,List.map_cons,List.append_assoc,hx]
     rfl
    have e3:xs.length=R.length:=by rw [hS,List.length_set]
    refine sA ?_
    repeat' (first|refine sA ?_|refine sN ?_|refine rW rfl (h1) ?_|refine rV (h1) ?_|refine rW rfl (k_l1Least _ _) ?_|refine rV (k_l1Least _ _) ?_|refine rW rfl (k_l1Most _ _) ?_|refine rV (k_l1Most _ _) ?_|rw [hct]|rw [hcd]|rw [e1]|rw [e2]|rw [e3]|refine sB ?_|refine sX ?_ ?_<;>(try intro h)<;>(try omega)|exact sP|refine rK ?_|exact sQ|refine sD ?_|rfl|exact sE|omega)
    all_goals skip
end Go.Proofs.YtekmkgegjicjgaaGreat
namespace Go.Proofs.YtekmkgegjicjgaaGreat
open Go.Dv Go.Dv.EvL
set_option maxRecDepth 100000
set_option maxHeartbeats 16000000
attribute [local irreducible] Ok Rm Dm Om Sm Xm Cm Gm Hm Tm
theorem k_sSet (xs:List Al)(a b l m:Int)(hb:xs.length≤1000):Okv Tryz.prog 151 [.sl 5 (xs.map Al.pv),.int .i64 a,.int .i64 b,.int .i64 l,.int .i64 m] (.tup [.p (.sl 5 ((alO (setB xs a b l m) (setL2 xs (prA a b l m))).1.map Al.pv)),.p (.bool (alO (setB xs a b l m) (setL2 xs (prA a b l m))).2)]):=by
 refine al_pl (ok_D hmix c_spec_SetAlert (by simp) ?_)
 have h1:=k_l20Asked xs a b (by omega)
 have h2:=k_l9Minute m
 have h3:=k_l20Set xs a b l m hb
 have h4:=k_l20Good (setL2 xs (prA a b l m)) (by have:=setL2_len xs (prA a b l m); omega)
 have hd:setB xs a b l m=(alsB xs && pairB a b && decide (0≤l∧l≤2) && minB m && alsB (setL2 xs (prA a b l m))):=rfl
 unfold alO AlD
 generalize setL2 xs (prA a b l m)=R at *
 generalize (alsB xs && pairB a b)=q1 at *
 generalize minB m=q2 at *
 generalize alsB R=q3 at *
 by_cases hl:0≤l∧l≤2
 ·rw [decide_eq_true hl,Bool.and_true] at hd
  cases q1<;>cases q2<;>cases q3<;>simp only [Bool.and_true,Bool.and_false] at hd<;>rw [hd]
  all_goals
   simp only [Bool.false_eq_true,if_false,if_true]
   refine sA ?_
   repeat' (first|refine sA ?_|refine sN ?_|refine rW rfl (h1) ?_|refine rV (h1) ?_|refine rW rfl (h2) ?_|refine rV (h2) ?_|refine rW rfl (k_l1In _ _ _) ?_|refine rV (k_l1In _ _ _) ?_|(refine Rm_o h3 rfl (fun r H2 hh => ?_); obtain ⟨rfl,rfl⟩:=hh)|refine rW rfl (h4) ?_|refine rV (h4) ?_|refine sB ?_|refine sX ?_ ?_<;>(try intro h)<;>(try omega)|exact sP|refine rK ?_|exact sQ|refine sD ?_|rfl|exact sE|omega)
  all_goals skip
 ·rw [decide_eq_false hl,Bool.and_false,Bool.false_and,Bool.false_and] at hd
  rw [hd]
  cases q1
  all_goals
   simp only [Bool.false_eq_true,if_false]
   refine sA ?_
   repeat' (first|refine sA ?_|refine sN ?_|refine rW rfl (h1) ?_|refine rV (h1) ?_|refine rW rfl (h2) ?_|refine rV (h2) ?_|refine rW rfl (k_l1In _ _ _) ?_|refine rV (k_l1In _ _ _) ?_|refine sB ?_|refine sX ?_ ?_<;>(try intro h)<;>(try omega)|exact sP|refine rK ?_|exact sQ|refine sD ?_|rfl|exact sE|omega)
  all_goals skip
theorem k_iSet (xs:List Al)(a b l m:Int)(hb:xs.length≤1000):Okw Tryz.prog 209 [.sl 5 (xs.map Al.pv),.int .i64 a,.int .i64 b,.int .i64 l,.int .i64 m] (AlR (setB xs a b l m) (setL2 xs (prA a b l m))):=by
 refine ok_D hmix c_impl_SetAlert (by simp) ?_
 have h1:=k_iAlerts xs (by omega)
 have h2:=k_isPair a b
 have h3:=k_isMinute m
 have h5:=k_alertAt xs a b (by omega)
 have h6:=k_iAlerts (setL2 xs (prA a b l m)) (by have:=setL2_len xs (prA a b l m); omega)
 have hd:setB xs a b l m=(alsB xs && pairB a b && decide (0≤l∧l≤2) && minB m && alsB (setL2 xs (prA a b l m))):=rfl
 have hp:=posA_le (prA a b 0 0) xs
 have hq:=fun h=>isA_in (x:=prA a b 0 0) (xs:=xs) h
 have hS:setL2 xs (prA a b l m)=if isA (prA a b 0 0) xs=true then (if l=0 then xs.take (posA (prA a b 0 0) xs)++xs.drop (posA (prA a b 0 0) xs+1) else if (xs.getD (posA (prA a b 0 0) xs) default).lvl=l then xs else xs.set (posA (prA a b 0 0) xs) (prA a b l m))
   else (if l=0 then xs else xs.take (posA (prA a b 0 0) xs)++prA a b l m::xs.drop (posA (prA a b 0 0) xs)):=by
  unfold setL2
  rw [isA_pr,posA_pr,prA_lvl]
 have ha:=fun h=>sorted_aat (xs:=xs) h (prA a b 0 0)
 have hdn:=fun (i:Nat) (h1:alTo xs xs.length=true) (h2:isA (prA a b 0 0) xs=false)=>posA_down (i:=i) h1 h2
 have hx:Al.pv (prA a b l m) = .agg [.int .i64 (min a b),.int .i64 (max a b),.int .i64 l,.int .i64 m,.bool false]:=rfl
 unfold AlR AlD
 cases q0:alsB xs
 ·rw [q0] at hd h1
  simp only [Bool.false_and] at hd
  rw [hd]
  simp only [Bool.false_eq_true,if_false]
  refine sA ?_
  repeat' (first|refine sA ?_|refine sN ?_|refine rW rfl (h1) ?_|refine rV (h1) ?_|refine sB ?_|refine sX ?_ ?_<;>(try intro h)<;>(try omega)|exact sP|refine rK ?_|exact sQ|refine sD ?_|rfl|exact sE|omega)
  all_goals first
   | exact ret_gen _ _ _ rfl rfl rfl ⟨rfl,rfl⟩
   | skip
 ·have hto:=(als_to q0).1
  have ha:=ha hto
  have hdn:=fun i=>hdn i hto
  rw [q0] at hd h1
  simp only [Bool.true_and] at hd
  by_cases hG:(pairB a b && decide (0≤l∧l≤2) && minB m)=true
  ·rw [hG,Bool.true_and] at hd
   simp only [Bool.and_eq_true,decide_eq_true_eq] at hG
   obtain ⟨⟨g1,g2⟩,g3⟩:=hG
   rw [g1] at h2
   rw [g3] at h3
   generalize setL2 xs (prA a b l m)=R at *
   rw [hd]
   clear hd
   cases hq:isA (prA a b 0 0) xs
   ·rw [hq] at hS ha hdn
    simp only [Bool.false_eq_true,if_false] at hS ha
    have hdn:=fun i=>hdn i rfl
    rw [ha] at h5
    clear ha
    by_cases hl0:l=0
    ·rw [if_pos hl0] at hS
     subst hS
     rw [q0] at h6 ⊢
     simp only [if_true]
     refine sA ?_
     repeat' (first|refine sA ?_|refine sN ?_|refine rW rfl (h1) ?_|refine rV (h1) ?_|refine rW rfl (h2) ?_|refine rV (h2) ?_|refine rW rfl (h3) ?_|refine rV (h3) ?_|refine rW rfl (k_within _ _ _) ?_|refine rV (k_within _ _ _) ?_|refine rW rfl (h5) ?_|refine rV (h5) ?_|refine sB ?_|refine sX ?_ ?_<;>(try intro h)<;>(try omega)|exact sP|refine rK ?_|exact sQ|refine sD ?_|rfl|exact sE|omega)
     all_goals first
      | exact ret_gen _ _ _ rfl rfl rfl ⟨rfl,rfl⟩
      | skip
    ·rw [if_neg hl0] at hS
     have e1:List.take xs.length (xs.map Al.pv)++[.agg [.int .i64 (min a b),.int .i64 (max a b),.int .i64 l,.int .i64 m,.bool false]]=(xs.take xs.length++prA a b l m::xs.drop xs.length).map Al.pv:=by
      rw [List.take_of_length_le (by simp),List.take_length,List.drop_length,List.map_append]
      rfl
     have e0:xs.map Al.pv++[.agg [.int .i64 (min a b),.int .i64 (max a b),.int .i64 l,.int .i64 m,.bool false]]=(xs.take xs.length++prA a b l m::xs.drop xs.length).map Al.pv:=by
      rw [List.take_length,List.drop_length,List.map_append]
      rfl
     refine sA ?_
     repeat' (first|refine sA ?_|refine sN ?_|refine rW rfl (h1) ?_|refine rV (h1) ?_|refine rW rfl (h2) ?_|refine rV (h2) ?_|refine rW rfl (h3) ?_|refine rV (h3) ?_|refine rW rfl (k_within _ _ _) ?_|refine rV (k_within _ _ _) ?_|refine rW rfl (h5) ?_|refine rV (h5) ?_|rw [e1]|rw [e0]|refine sB ?_|refine sX ?_ ?_<;>(try intro h)<;>(try omega)|exact sP|refine rK ?_|exact sQ|refine sD ?_|rfl|exact sE|omega)
     clear e1 e0
     refine Dm_loop [12,14,15] (fun v ds H'=>v≤xs.length∧(∀ j,v≤j→j<xs.length→befB (prA a b 0 0) (xs.getD j default)=true)∧ds=[.own 0 0 (xs.length+1),.ptr 1 0 0,.p (.int .i64 v)] ∧
      H'=[.arr 114 5 ((xs.take v++prA a b l m::xs.drop v).map Al.pv),.box 114 [.p (.int .i64 (min a b)),.p (.int .i64 (max a b)),.p (.int .i64 l),.p (.int .i64 m),.p (.bool false)]]) xs.length ⟨by omega,fun j h1 h2=>by omega,rfl,by rw [List.take_length]; rfl⟩ ?_
     rintro v ds H' ⟨hv,hup,rfl,rfl⟩ -
     have hLl:(xs.take v++prA a b l m::xs.drop v).length=xs.length+1:=by
      rw [List.length_append,List.length_cons,List.length_take,List.length_drop]
      omega
     rcases Nat.eq_zero_or_pos v with hv0|hv0
     ·subst hv0
      have hR:R=prA a b l m::xs:=by
       rw [hS,hdn 0 (by omega) hup (fun h=>by omega)]
       rfl
      rw [show xs.take 0++prA a b l m::xs.drop 0=R from hR.symm] at hLl ⊢
      rw [← hLl]
      generalize alsB R=V at *
      cases V
      all_goals
       simp only [Bool.false_eq_true,if_false,if_true]
       repeat' (first|refine sA ?_|refine sN ?_|refine rW rfl (h6) ?_|refine rV (h6) ?_|refine sB ?_|refine sX ?_ ?_<;>(try intro h)<;>(try omega)|exact sP|refine rK ?_|exact sQ|refine sD ?_|rfl|exact sE|omega)
      all_goals first
       | exact ret_gen _ _ _ rfl rfl rfl ⟨rfl,rfl⟩
       | skip
     ·obtain ⟨k,rfl⟩ : ∃ k,v=k+1:=⟨v - 1,by omega⟩
      have hltk:(xs.take (k+1)).length=k+1:=by rw [List.length_take]; omega
      have g1:(xs.take (k+1)++prA a b l m::xs.drop (k+1)).getD k default=xs.getD k default:=by rw [getD_app_l (by omega),getD_take (by omega)]
      have g2:(xs.take (k+1)++prA a b l m::xs.drop (k+1)).getD (k+1) default=prA a b l m:=by
       rw [getD_app_r (by omega),hltk,Nat.sub_self]
       rfl
      have hsw:=swap_al (xs:=xs) (z:=prA a b l m) (i:=k) (by omega)
      obtain ⟨L,hL⟩ : ∃ L,L=xs.take (k+1)++prA a b l m::xs.drop (k+1):=⟨_,rfl⟩
      rw [← hL] at hLl g1 g2 hsw ⊢
      have hsw2:(L.set k (L.getD (k+1) default)).set (k+1) (L.getD k default)=xs.take k++prA a b l m::xs.drop k:=by
       rw [g1,g2]
       exact hsw
      have hbf:=k_alertBefore (prA a b l m) (L.getD k default)
      have hbe:befB (prA a b l m) (L.getD k default)=befB (prA a b 0 0) (xs.getD k default):=by
       rw [g1]
       rfl
      rw [hbe] at hbf
      simp only [al_pv] at hbf
      rw [show (prA a b l m).low=min a b from rfl,show (prA a b l m).high=max a b from rfl,show (prA a b l m).lvl=l from rfl,show (prA a b l m).since=m from rfl,show (prA a b l m).seen=false from rfl] at hbf
      cases hB:befB (prA a b 0 0) (xs.getD k default)
      ·have hR:R=L:=by
        rw [hS,hdn (k+1) hv hup (fun h=>by rw [Nat.add_sub_cancel]; exact hB),hL]
       rw [hB] at hbf
       rw [← hR] at hLl hbf ⊢
       rw [← hLl]
       clear hsw g1 g2 hsw2 hbe hL hS
       generalize alsB R=V at *
       cases V
       all_goals
        simp only [Bool.false_eq_true,if_false,if_true]
        repeat' (first|refine sA ?_|refine sN ?_|refine rW rfl (hbf) ?_|refine rV (hbf) ?_|refine rW rfl (h6) ?_|refine rV (h6) ?_|refine sB ?_|refine sX ?_ ?_<;>(try intro h)<;>(try omega)|exact sP|refine rK ?_|exact sQ|refine sD ?_|rfl|exact sE|omega)
       all_goals first
        | exact ret_gen _ _ _ rfl rfl rfl ⟨rfl,rfl⟩
        | skip
      ·have hup2 : ∀ j,k≤j→j<xs.length→befB (prA a b 0 0) (xs.getD j default)=true:=fun j h1 h2=>by
        by_cases e:j=k
        ·rw [e]; exact hB
        ·exact hup j (by omega) h2
       rw [hB] at hbf
       clear g1 g2 hB hdn hS h6 hsw hbe hL
       repeat' (first|refine sA ?_|refine sN ?_|refine rW rfl (hbf) ?_|refine rV (hbf) ?_|(refine Rm_putw (by omega) (L.getD (k+1) default) rfl (by first|rfl|exact putw_rfl) rfl ?_)|(refine Rm_putw (by (simp; omega)) (L.getD k default) rfl (by first|rfl|exact putw_rfl) rfl ?_)|refine sB ?_|refine sX ?_ ?_<;>(try intro h)<;>(try omega)|exact sP|refine rK ?_|exact sQ|refine sD ?_|rfl|exact sE|omega)
       all_goals first
        | (refine Xm_inv_n k (by omega) ⟨by omega,hup2,rfl,?_⟩
           rw [← hsw2]
           rfl)
        | skip
   ·have hq:=isA_in hq
    rw [show isA (prA a b 0 0) xs=true from by assumption] at hS ha
    simp only [if_true] at hS ha
    rw [ha] at h5
    clear ha hdn hto
    generalize posA (prA a b 0 0) xs=p at *
    by_cases hl0:l=0
    ·rw [if_pos hl0] at hS
     have e0:(xs.drop (p+1)).take (xs.length - (p+1))=xs.drop (p+1):=List.take_of_length_le (by rw [List.length_drop]; omega)
     have e1:(xs.take p).map Al.pv++(xs.drop (p+1)).map Al.pv=R.map Al.pv:=by rw [hS,List.map_append]
     have e2:p+(xs.drop (p+1)).length=R.length:=by rw [hS,List.length_append,List.length_take]; omega
     have e3:xs.take p++xs.drop (p+1)=R:=hS.symm
     generalize alsB R=V at *
     cases V
     all_goals
      simp only [Bool.false_eq_true,if_false,if_true]
      refine sA ?_
      repeat' (first|refine sA ?_|refine sN ?_|refine rW rfl (h1) ?_|refine rV (h1) ?_|refine rW rfl (h2) ?_|refine rV (h2) ?_|refine rW rfl (h3) ?_|refine rV (h3) ?_|refine rW rfl (k_within _ _ _) ?_|refine rV (k_within _ _ _) ?_|refine rW rfl (h5) ?_|refine rV (h5) ?_|rw [e0]|rw [e1]|rw [e2]|rw [e3]|refine rW rfl (h6) ?_|refine rV (h6) ?_|refine sB ?_|refine sX ?_ ?_<;>(try intro h)<;>(try omega)|exact sP|refine rK ?_|exact sQ|refine sD ?_|rfl|exact sE|omega)
     all_goals first
      | exact ret_gen _ _ _ rfl rfl rfl ⟨rfl,rfl⟩
      | skip
    ·rw [if_neg hl0] at hS
     by_cases hl1:(xs.getD p default).lvl=l
     ·rw [if_pos hl1] at hS
      subst hS
      rw [q0] at h6 ⊢
      simp only [if_true]
      refine sA ?_
      repeat' (first|refine sA ?_|refine sN ?_|refine rW rfl (h1) ?_|refine rV (h1) ?_|refine rW rfl (h2) ?_|refine rV (h2) ?_|refine rW rfl (h3) ?_|refine rV (h3) ?_|refine rW rfl (k_within _ _ _) ?_|refine rV (k_within _ _ _) ?_|refine rW rfl (h5) ?_|refine rV (h5) ?_|refine rW rfl (h6) ?_|refine rV (h6) ?_|refine sB ?_|refine sX ?_ ?_<;>(try intro h)<;>(try omega)|exact sP|refine rK ?_|exact sQ|refine sD ?_|rfl|exact sE|omega)
      all_goals first
       | exact ret_gen _ _ _ rfl rfl rfl ⟨rfl,rfl⟩
       | skip
     ·rw [if_neg hl1] at hS
      rw [show prA a b l m=⟨min a b,max a b,l,m,false⟩ from rfl] at hS
      rw [hS] at h6 ⊢
      generalize hV:alsB (xs.set p ⟨min a b,max a b,l,m,false⟩)=V at *
      cases V
      all_goals
       simp only [Bool.false_eq_true,if_false,if_true]
       refine sA ?_
       repeat' (first|refine sA ?_|refine sN ?_|refine rW rfl (h1) ?_|refine rV (h1) ?_|refine rW rfl (h2) ?_|refine rV (h2) ?_|refine rW rfl (h3) ?_|refine rV (h3) ?_|refine rW rfl (k_within _ _ _) ?_|refine rV (k_within _ _ _) ?_|refine rW rfl (h5) ?_|refine rV (h5) ?_|refine rW rfl (h6) ?_|refine rV (h6) ?_|(refine Rm_putw (by omega) ⟨min a b,max a b,l,m,false⟩ rfl (by first|rfl|exact putw_rfl) rfl ?_)|refine sB ?_|refine sX ?_ ?_<;>(try intro h)<;>(try omega)|exact sP|refine rK ?_|exact sQ|refine sD ?_|rfl|exact sE|omega)
      all_goals first
       | (refine ret_gen _ _ _ rfl rfl rfl ⟨by rw [List.length_set]; rfl,rfl⟩; done)
       | exact ret_gen _ _ _ rfl rfl rfl ⟨rfl,rfl⟩
       | skip
  ·have hz:setB xs a b l m=false:=by
    rw [hd]
    rw [Bool.not_eq_true] at hG
    rw [hG]
    rfl
   rw [hz]
   simp only [Bool.false_eq_true,if_false]
   clear hd hz hS ha hdn h5 h6 hq hp
   generalize pairB a b=q1 at *
   generalize minB m=q2 at *
   cases q1<;>cases q2<;>simp only [Bool.and_true,Bool.and_false,Bool.true_and,Bool.false_and,Bool.false_eq_true,not_false_eq_true,decide_eq_true_eq] at hG
   all_goals
    refine sA ?_
    repeat' (first|refine sA ?_|refine sN ?_|refine rW rfl (h1) ?_|refine rV (h1) ?_|refine rW rfl (h2) ?_|refine rV (h2) ?_|refine rW rfl (h3) ?_|refine rV (h3) ?_|refine rW rfl (k_within _ _ _) ?_|refine rV (k_within _ _ _) ?_|refine sB ?_|refine sX ?_ ?_<;>(try intro h)<;>(try omega)|exact sP|refine rK ?_|exact sQ|refine sD ?_|rfl|exact sE|omega)
   all_goals first
    | exact ret_gen _ _ _ rfl rfl rfl ⟨rfl,rfl⟩
    | skip
end Go.Proofs.YtekmkgegjicjgaaGreat

import Derived.Test.YtekmkgegjicjgaaGreatZBas
import Derived.Test.YtekmkgegjicjgaaGreatZPln
import Derived.Test.YtekmkgegjicjgaaGreatZFrmC
import Derived.Test.YtekmkgegjicjgaaGreatZRcD
import Derived.Test.YtekmkgegjicjgaaGreatZRcA
import Derived.Test.YtekmkgegjicjgaaGreatZAlB
import Derived.Test.YtekmkgegjicjgaaGreatZAlA
import Derived.Test.YtekmkgegjicjgaaGreatZConT
namespace Go.Proofs.YtekmkgegjicjgaaGreat
open Go.Dv Go.Dv.EvL
set_option maxRecDepth 100000
set_option maxHeartbeats 16000000
attribute [local irreducible] Ok Rm Dm Om Sm Xm Cm Gm Hm Tm
def nmB (ws:List Txt):Bool:=ws.all fun w=>(readO w).2
def nmO (ws:List Txt):List Int × Bool:=if nmB ws=true then (ws.map fun w=>(readO w).1,true) else ([],false)
def nmD (ws:List Txt)(d:DV)(H:Heap):Prop:=d = .tup [.own 0 0 (nmO ws).1.length,.p (.bool (nmO ws).2)]∧H=[.arr 3 1 ((nmO ws).1.map (.int .i64))]
theorem nm_pl {f:FuncId}{ps:List PV}{ws:List Txt}(h:Okw Tryz.prog f ps (nmD ws)):Okv Tryz.prog f ps (.tup [.p (slI .i64 (nmO ws).1),.p (.bool (nmO ws).2)]):=by
 refine ok_frz h fun d H h=>⟨fun ob ho=>by simp at ho,_,?_,rfl,by simp⟩
 obtain ⟨rfl,rfl⟩:=h
 refine .inr ⟨_,[slI .i64 (nmO ws).1,.bool (nmO ws).2],rfl,?_,rfl⟩
 simp [hid,viewOf,viewOfs,List.take_of_length_le]
def WsIn (ws:List Txt):Prop:=ws.length≤10000 ∧ ∀ w∈ws,w.length≤1048576
theorem nm_take {ws:List Txt}{i:Nat}(h:i<ws.length)(hp:nmB (ws.take i)=true):nmB (ws.take (i+1))=(readO (ws.getD i default)).2:=by
 unfold nmB at *
 rw [take_snoc (d:=default) h,List.all_append,hp]
 simp
theorem nm_no {ws:List Txt}{i:Nat}(h:i<ws.length)(hp:(readO (ws.getD i default)).2=false):nmB ws=false:=by
 unfold nmB
 rw [Bool.eq_false_iff]
 intro h2
 rw [List.all_eq_true] at h2
 have:=h2 _ (getD_mem (d:=default) h)
 rw [hp] at this
 cases this
def nmL (ws:List Txt)(i:Nat):List Int:=(ws.take i).map fun w=>(readO w).1
theorem nmL_len {ws:List Txt}{i:Nat}(h:i≤ws.length):(nmL ws i).length=i:=by
 unfold nmL
 rw [List.length_map,List.length_take]
 omega
theorem nmL_next {ws:List Txt}{i:Nat}(h:i<ws.length):nmL ws (i+1)=nmL ws i++[(readO (ws.getD i default)).1]:=by
 unfold nmL
 rw [take_snoc (d:=default) h,List.map_append]
 rfl
theorem k_arguments0 (ws:List Txt)(hw:WsIn ws):Okw Tryz.prog 110 [slS ws] fun d H=>nmD ws d H∨((nmO ws).1=[]∧d = .tup [.nil,.p (.bool (nmO ws).2)]∧H=[]):=by
 refine ok_D hmix c_impl_arguments (by simp) ?_
 obtain ⟨hl,hwl⟩:=hw
 have hs:nmO ws=if nmB ws=true then (ws.map fun w=>(readO w).1,true) else ([],false):=rfl
 unfold nmD
 refine sF fun dc hdc => ?_; refine sA ?_
 repeat' (first|refine sA ?_|refine sO ‹_› fun dc hdc => ?_|refine sN ?_|refine sB ?_|refine sX ?_ ?_<;>(try intro h)<;>(try omega)|exact sP|refine rK ?_|exact sQ|refine sD ?_|exact sE|omega)
 refine Dm_loop [4,9,10,11] (fun v ds H' => ∃ i:Nat,i≤ws.length∧v=ws.length - i∧nmB (ws.take i)=true ∧
  ((i=0∧ds=[.nil,.p (slS ws),.p (.int .i64 ws.length),.p (.int .i64 i)]∧H'=[]) ∨
   (ds=[.own 0 0 i,.p (slS ws),.p (.int .i64 ws.length),.p (.int .i64 i)]∧H'=[.arr 3 1 ((nmL ws i).map (.int .i64))]))) ws.length ⟨0,by omega,by omega,rfl,.inl ⟨rfl,by kernel_rfl,by kernel_rfl⟩⟩ ?_
 rintro v ds H' ⟨i,hi,rfl,hp,hh⟩ -
 rcases Nat.lt_or_ge i ws.length with hlt|hge
 ·have h1:=k_ParseInt (ws.getD i default) (by have:=hwl _ (getD_mem (d:=default) hlt); omega)
  rw [pi_read] at h1
  have hnx:=nm_take hlt hp
  have hno:=nm_no (i:=i) hlt
  have hN:=nmL_next hlt
  have hNl:=nmL_len hi
  generalize hX:(readO (ws.getD i default)).1=x at *
  cases hb:(readO (ws.getD i default)).2
  ·rw [hb] at h1
   rw [hno hb,if_neg (by decide)] at hs
   rw [hs]
   rcases hh with ⟨rfl,rfl,rfl⟩|⟨rfl,rfl⟩
   all_goals
    repeat' (first|refine sA ?_|refine sO ‹_› fun dc hdc => ?_|refine sN ?_|refine rW rfl (h1) ?_|refine rV (h1) ?_|refine sB ?_|refine sX ?_ ?_<;>(try intro h)<;>(try omega)|exact sP|refine rK ?_|exact sQ|refine sD ?_|exact sE|omega)
   all_goals first
    | exact ret_k (.tup [.nil,.p (.bool false)]) [] (by kernel_rfl) (.inr ⟨rfl,rfl,rfl⟩)
    | exact ret_k (.tup [.nil,.p (.bool false)]) [] (by kernel_rfl) (.inr ⟨rfl,rfl⟩)
    | skip
  ·rw [hb] at h1 hnx
   have hNm:(nmL ws i).map (PV.int .i64)++[.int .i64 x]=(nmL ws (i+1)).map (PV.int .i64):=by rw [hN,List.map_append]; rfl
   rcases hh with ⟨rfl,rfl,rfl⟩|⟨rfl,rfl⟩
   ·have hN1:[PV.int .i64 x]=(nmL ws (0+1)).map (PV.int .i64):=hNm
    repeat' (first|refine sA ?_|refine sO ‹_› fun dc hdc => ?_|refine sN ?_|refine rW rfl (h1) ?_|refine rV (h1) ?_|rw [hN1]|refine sB ?_|refine sX ?_ ?_<;>(try intro h)<;>(try omega)|exact sP|refine rK ?_|exact sQ|refine sD ?_|exact sE|omega)
    all_goals first
     | exact Xm_inv_n (ws.length - (0+1)) (by omega) ⟨0+1,by omega,rfl,hnx,.inr ⟨by kernel_rfl,by kernel_rfl⟩⟩
     | skip
   ·have hNt:List.take i (nmL ws i)=nmL ws i:=List.take_of_length_le (by omega)
    have hNm2:nmL ws i++[x]=nmL ws (i+1):=hN.symm
    repeat' (first|refine sA ?_|refine sO ‹_› fun dc hdc => ?_|refine sN ?_|refine rW rfl (h1) ?_|refine rV (h1) ?_|rw [hNt]|rw [hNm2]|rw [hNm]|refine sB ?_|refine sX ?_ ?_<;>(try intro h)<;>(try omega)|exact sP|refine rK ?_|exact sQ|refine sD ?_|exact sE|omega)
    all_goals first
     | exact Xm_inv_n (ws.length - (i+1)) (by omega) ⟨i+1,by omega,rfl,hnx,.inr ⟨by kernel_rfl,by kernel_rfl⟩⟩
     | skip
 ·obtain rfl:i=ws.length:=by omega
  rw [List.take_length] at hp
  rw [hp,if_pos rfl] at hs
  have hL:nmL ws ws.length=ws.map fun w=>(readO w).1:=by unfold nmL; rw [List.take_length]
  rw [hL] at hh
  rw [hs]
  simp only [List.length_map]
  rcases hh with ⟨h0,rfl,rfl⟩|⟨rfl,rfl⟩
  ·have hnil:ws=[]:=List.eq_nil_of_length_eq_zero h0
   subst hnil
   repeat' (first|refine sA ?_|refine sO ‹_› fun dc hdc => ?_|refine sN ?_|refine sB ?_|refine sX ?_ ?_<;>(try intro h)<;>(try omega)|exact sP|refine rK ?_|exact sQ|refine sD ?_|exact sE|omega)
   all_goals first
    | exact ret_k (.tup [.nil,.p (.bool true)]) [] (by kernel_rfl) (.inr ⟨rfl,rfl,rfl⟩)
    | exact ret_k (.tup [.nil,.p (.bool true)]) [] (by kernel_rfl) (.inr ⟨rfl,rfl⟩)
    | skip
  ·repeat' (first|refine sA ?_|refine sO ‹_› fun dc hdc => ?_|refine sN ?_|refine sB ?_|refine sX ?_ ?_<;>(try intro h)<;>(try omega)|exact sP|refine rK ?_|exact sQ|refine sD ?_|exact sE|omega)
   all_goals first
    | exact ret_k (.tup [.own 0 0 ws.length,.p (.bool true)]) [.arr 3 1 ((ws.map fun w=>(readO w).1).map (.int .i64))] (by kernel_rfl) (.inl ⟨rfl,rfl⟩)
    | skip
theorem k_arguments (ws:List Txt)(hw:WsIn ws):Okv Tryz.prog 110 [slS ws] (.tup [.p (slI .i64 (nmO ws).1),.p (.bool (nmO ws).2)]):=by
 refine nm_pl (nil_own 3 1 (by decide) (k_arguments0 ws hw) fun d H hh => ?_)
 rcases hh with hh|⟨h1,rfl,rfl⟩
 ·exact .inl hh
 ·refine .inr ⟨[.bool (nmO ws).2],⟨trivial,trivial⟩,rfl,rfl,?_⟩
  unfold nmD
  rw [h1]
  exact ⟨rfl,rfl⟩
theorem k_sParseInt (s:Txt)(hl:s.length≤1099511627776):Okv Tryz.prog 148 [.str s] (.tup [.p (.int .i64 (readO s).1),.p (.bool (readO s).2)]):=by
 refine ok_D hmix c_spec_ParseInt (by simp) ?_
 have h1:=k_l1Read s hl
 refine sA ?_
 repeat' (first|refine sA ?_|refine sN ?_|refine rW rfl (h1) ?_|refine rV (h1) ?_|refine sB ?_|refine sX ?_ ?_<;>(try intro h)<;>(try omega)|exact sP|refine rK ?_|exact sQ|refine sD ?_|rfl|exact sE|omega)
 all_goals skip
theorem k_l28Numbers (ws:List Txt)(hw:WsIn ws):Okv Tryz.prog 103 [slS ws] (.tup [.p (slI .i64 (nmO ws).1),.p (.bool (nmO ws).2)]):=by
 refine nm_pl (ok_D hmix c_spec_l28Numbers (by simp) ?_)
 obtain ⟨hl,hwl⟩:=hw
 have hs:nmO ws=if nmB ws=true then (ws.map fun w=>(readO w).1,true) else ([],false):=rfl
 unfold nmD
 refine sF fun dc hdc => ?_; refine sA ?_
 repeat' (first|refine sA ?_|refine sO ‹_› fun dc hdc => ?_|refine sN ?_|refine sB ?_|refine sX ?_ ?_<;>(try intro h)<;>(try omega)|exact sP|refine rK ?_|exact sQ|refine sD ?_|exact sE|omega)
 refine Dm_loop [0,4,5] (fun v ds H' => ∃ i:Nat,i≤ws.length∧v=ws.length - i∧nmB (ws.take i)=true ∧
   ds=[.p (slS ws),.own 0 0 i,.p (.int .i64 i)]∧H'=[.arr 3 1 ((nmL ws i).map (.int .i64))]) ws.length ⟨0,by omega,by omega,rfl,by kernel_rfl,by kernel_rfl⟩ ?_
 rintro v ds H' ⟨i,hi,rfl,hp,rfl,rfl⟩ -
 rcases Nat.lt_or_ge i ws.length with hlt|hge
 ·have h1:=k_sParseInt (ws.getD i default) (by have:=hwl _ (getD_mem (d:=default) hlt); omega)
  have hnx:=nm_take hlt hp
  have hno:=nm_no (i:=i) hlt
  have hN:=nmL_next hlt
  have hNl:=nmL_len hi
  generalize hX:(readO (ws.getD i default)).1=x at *
  cases hb:(readO (ws.getD i default)).2
  ·rw [hb] at h1
   rw [hno hb,if_neg (by decide)] at hs
   rw [hs]
   repeat' (first|refine sA ?_|refine sO ‹_› fun dc hdc => ?_|refine sN ?_|refine rW rfl (h1) ?_|refine rV (h1) ?_|refine sB ?_|refine sX ?_ ?_<;>(try intro h)<;>(try omega)|exact sP|refine rK ?_|exact sQ|refine sD ?_|exact sE|omega)
   all_goals first
    | exact ret_k (.tup [.own 0 0 0,.p (.bool false)]) [.arr 3 1 []] (by kernel_rfl) ⟨rfl,rfl⟩
    | skip
  ·rw [hb] at h1 hnx
   have hNm:(nmL ws i).map (PV.int .i64)++[.int .i64 x]=(nmL ws (i+1)).map (PV.int .i64):=by rw [hN,List.map_append]; rfl
   have hNt:List.take i (nmL ws i)=nmL ws i:=List.take_of_length_le (by omega)
   have hNm2:nmL ws i++[x]=nmL ws (i+1):=hN.symm
   repeat' (first|refine sA ?_|refine sO ‹_› fun dc hdc => ?_|refine sN ?_|refine rW rfl (h1) ?_|refine rV (h1) ?_|rw [hNt]|rw [hNm2]|rw [hNm]|refine sB ?_|refine sX ?_ ?_<;>(try intro h)<;>(try omega)|exact sP|refine rK ?_|exact sQ|refine sD ?_|exact sE|omega)
   all_goals first
    | exact Xm_inv_n (ws.length - (i+1)) (by omega) ⟨i+1,by omega,rfl,hnx,by kernel_rfl,by kernel_rfl⟩
    | skip
 ·obtain rfl:i=ws.length:=by omega
  rw [List.take_length] at hp
  rw [hp,if_pos rfl] at hs
  have hL:nmL ws ws.length=ws.map fun w=>(readO w).1:=by unfold nmL; rw [List.take_length]
  rw [hL]
  rw [hs]
  simp only [List.length_map]
  repeat' (first|refine sA ?_|refine sO ‹_› fun dc hdc => ?_|refine sN ?_|refine sB ?_|refine sX ?_ ?_<;>(try intro h)<;>(try omega)|exact sP|refine rK ?_|exact sQ|refine sD ?_|exact sE|omega)
  all_goals first
   | exact ret_k (.tup [.own 0 0 ws.length,.p (.bool true)]) [.arr 3 1 ((ws.map fun w=>(readO w).1).map (.int .i64))] (by kernel_rfl) ⟨rfl,rfl⟩
   | skip
theorem ls_le {ws:List Txt}{k:Nat}(hl:ws.length≤10000)(hx : ∀ i,i<ws.length→(ws.getD i []).length≤k):(lsT ws).length≤10000 * (100+k)+4:=by
 unfold lsT
 split
 ·simp [wNone]
 ·have h1:=join_len (b:=[32]) (by simp) hx (Nat.le_refl _)
  have h2:ws.length * (100+k)≤10000 * (100+k):=Nat.mul_le_mul_right _ hl
  omega
theorem k_listed (ws:List Txt)(k:Nat)(hl:ws.length≤10000)(hk:k≤1048576)(hx : ∀ i,i<ws.length→(ws.getD i []).length≤k):Okv Tryz.prog 114 [slS ws] (.p (.str (lsT ws))):=by
 refine ok_D hmix c_impl_listed (by simp) ?_
 have h1:=k_join ws [32] k (by simp) hl hk hx
 have hs:lsT ws=if ws.length=0 then wNone else joinTo ws [32] ws.length:=rfl
 by_cases h0:ws.length=0
 ·rw [if_pos h0] at hs
  rw [hs]
  unfold wNone
  refine sF fun dc hdc => ?_; refine sA ?_
  repeat' (first|refine sA ?_|refine sO ‹_› fun dc hdc => ?_|refine sN ?_|refine sB ?_|refine sX ?_ ?_<;>(try intro h)<;>(try omega)|exact sP|refine rK ?_|exact sQ|refine sD ?_|exact sE|omega)
  all_goals skip
 ·rw [if_neg h0] at hs
  rw [hs]
  refine sF fun dc hdc => ?_; refine sA ?_
  repeat' (first|refine sA ?_|refine sO ‹_› fun dc hdc => ?_|refine sN ?_|refine rW rfl (h1) ?_|refine rV (h1) ?_|refine sB ?_|refine sX ?_ ?_<;>(try intro h)<;>(try omega)|exact sP|refine rK ?_|exact sQ|refine sD ?_|exact sE|omega)
  all_goals skip
theorem k_l28Join (ws:List Txt)(k:Nat)(hl:ws.length≤10000)(hk:k≤1048576)(hx : ∀ i,i<ws.length→(ws.getD i []).length≤k):Okv Tryz.prog 147 [slS ws] (.p (.str (lsT ws))):=by
 refine ok_D hmix c_spec_l28Join (by simp) ?_
 have hs:lsT ws=if ws.length=0 then wNone else joinTo ws [32] ws.length:=rfl
 have h1:=fun (i:Nat) (h:i≤ws.length)=>join_len (b:=[32]) (by simp) hx h
 by_cases h0:ws.length=0
 ·rw [if_pos h0] at hs
  rw [hs]
  unfold wNone
  refine sF fun dc hdc => ?_; refine sA ?_
  repeat' (first|refine sA ?_|refine sO ‹_› fun dc hdc => ?_|refine sN ?_|refine sB ?_|refine sX ?_ ?_<;>(try intro h)<;>(try omega)|exact sP|refine rK ?_|exact sQ|refine sD ?_|exact sE|omega)
  all_goals skip
 ·rw [if_neg h0] at hs
  rw [hs]
  have hj1:joinTo ws [32] 1=ws.getD 0 default:=rfl
  refine sF fun dc hdc => ?_; refine sA ?_
  repeat' (first|refine sA ?_|refine sO ‹_› fun dc hdc => ?_|refine sN ?_|refine sB ?_|refine sX ?_ ?_<;>(try intro h)<;>(try omega)|exact sP|refine rK ?_|exact sQ|refine sD ?_|exact sE|omega)
  refine Dm_loop [0,3,4] (fun v ds H' => ∃ i:Nat,1≤i∧i≤ws.length∧v=ws.length - i∧ds=[.p (slS ws),.p (.str (joinTo ws [32] i)),.p (.int .i64 i)]∧H'=[]) (ws.length - 1) ⟨1,by omega,by omega,by omega,by rw [hj1]; kernel_rfl,by kernel_rfl⟩ ?_
  rintro v ds H' ⟨i,hi0,hi,rfl,rfl,rfl⟩ -
  have h2:=h1 i hi
  have h3:i * (100+k)≤10000 * (100+1048576):=Nat.mul_le_mul (by omega) (by omega)
  have h4:=hx i
  rcases Nat.lt_or_ge i ws.length with hlt|hge
  ·have hst:joinTo ws [32] (i+1)=joinTo ws [32] i++[32]++ws.getD i default:=by
    rw [joinTo,if_pos (by omega)]
    rfl
   have h4:(ws.getD i default).length≤k:=h4 hlt
   generalize hY:joinTo ws [32] i=Y at *
   repeat' (first|refine sA ?_|refine sO ‹_› fun dc hdc => ?_|refine sN ?_|simp only [List.length_append,List.length_cons,List.length_nil]|refine sB ?_|refine sX ?_ ?_<;>(try intro h)<;>(try omega)|exact sP|refine rK ?_|exact sQ|refine sD ?_|exact sE|omega)
   all_goals first
    | exact Xm_inv_n (ws.length - (i+1)) (by omega) ⟨i+1,by omega,by omega,rfl,by rw [hst]; kernel_rfl,by kernel_rfl⟩
    | skip
  ·obtain rfl:i=ws.length:=by omega
   generalize joinTo ws [32] ws.length=Y at *
   repeat' (first|refine sA ?_|refine sO ‹_› fun dc hdc => ?_|refine sN ?_|refine sB ?_|refine sX ?_ ?_<;>(try intro h)<;>(try omega)|exact sP|refine rK ?_|exact sQ|refine sD ?_|exact sE|omega)
   all_goals skip
end Go.Proofs.YtekmkgegjicjgaaGreat
namespace Go.Proofs.YtekmkgegjicjgaaGreat
open Go.Dv Go.Dv.EvL
set_option maxRecDepth 100000
set_option maxHeartbeats 16000000
attribute [local irreducible] Ok Rm Dm Om Sm Xm Cm Gm Hm Tm
theorem repK_in (s:List UInt8) : ∀ k,-1≤(repK s k).2.1∧(repK s k).2.1≤s.length
 | 0=>by simp only [repK]; omega
 | k+1=>by
  unfold repK
  split
  ·simp only
   omega
  ·exact repK_in s k
theorem rpf_bit (s:List UInt8) : -1≤(rpfO s).2.1∧(rpfO s).2.1≤56:=by
 unfold rpfO
 split
 ·rename_i h
  simp only
  unfold repB
  split
  ·simp only
   omega
  ·have:=repK_in (hxO s).1 (hxO s).1.length
   omega
 ·simp only
  omega
theorem c_hxTo_len (s:List UInt8) : ∀ k,(hxTo s k).length≤k
 | 0=>by simp [hxTo]
 | k+1=>by
  have:=c_hxTo_len s k
  unfold hxTo
  simp only [List.length_append,List.length_cons,List.length_nil]
  omega
theorem ft_len {f:Nat × Nat × Nat}(h:frF f=true):(ftT f).length≤30:=by
 have h1:=KW_le f.1 (by have:=(frF_in h).1; omega)
 have h2:=c_hxTo_len (bitsN f.2.1 16) 4
 have h3:=c_hxTo_len (bitsN f.2.2 24) 6
 unfold ftT
 simp only [List.length_append,List.length_cons,List.length_nil]
 omega
def dcT (s:Txt):Txt:=if 0≤(rpfO s).2.1 then ftT (rpfO s).1++([32,98,105,116,32]++num (rpfO s).2.1) else ftT (rpfO s).1
theorem dcR_eq (s:Txt):dcR s=if (rpfO s).2.2=true then .same (dcT s) else .bad:=rfl
theorem k_l28Decode (s:Txt)(hs:s.length≤1099511627776):Okv Tryz.prog 100 [.str s] (.p (.str (dcR s).rep)):=by
 refine ok_D hmix c_spec_l28Decode (by simp) ?_
 have h0:=k_l5Repair s hs
 have hi:=rpf_bit s
 rw [dcR_eq]
 unfold dcT
 unfold frD at h0
 cases hok:(rpfO s).2.2
 ·rw [hok] at h0
  rw [if_neg (by decide)]
  have hrep:Rs.rep .bad=[63]:=rfl
  rw [hrep]
  generalize (rpfO s).2.1=bi at *
  generalize (rpfO s).1=f at *
  refine sF fun dc hdc => ?_; refine sA ?_
  repeat' (first|refine sA ?_|refine sO ‹_› fun dc hdc => ?_|refine sN ?_|refine rW rfl (h0) ?_|refine rV (h0) ?_|refine sB ?_|refine sX ?_ ?_<;>(try intro h)<;>(try omega)|exact sP|refine rK ?_|exact sQ|refine sD ?_|exact sE|omega)
  all_goals skip
 ·have hf:=rpf_ok hok
  have h1:=k_l5Text (rpfO s).1 hf
  have h2:=k_l1Num (rpfO s).2.1 (by omega)
  have hl1:=ft_len hf
  have hl2:=num_le (n:=(rpfO s).2.1) (by omega)
  rw [hok] at h0
  rw [if_pos rfl]
  generalize (rpfO s).2.1=bi at *
  generalize (rpfO s).1=f at *
  generalize ftT f=T at *
  generalize num bi=B at *
  by_cases hb:0≤bi
  ·rw [if_pos hb]
   have hrep:Rs.rep (.same (T++([32,98,105,116,32]++B)))=T++[32,98,105,116,32]++B:=by rw [List.append_assoc]; rfl
   rw [hrep]
   refine sF fun dc hdc => ?_; refine sA ?_
   repeat' (first|refine sA ?_|refine sO ‹_› fun dc hdc => ?_|refine sN ?_|refine rW rfl (h0) ?_|refine rV (h0) ?_|refine rW rfl (h1) ?_|refine rV (h1) ?_|refine rW rfl (h2) ?_|refine rV (h2) ?_|simp only [List.length_append,List.length_cons,List.length_nil]|refine sB ?_|refine sX ?_ ?_<;>(try intro h)<;>(try omega)|exact sP|refine rK ?_|exact sQ|refine sD ?_|exact sE|omega)
   all_goals skip
  ·rw [if_neg hb]
   have hrep:Rs.rep (.same T)=T:=rfl
   rw [hrep]
   refine sF fun dc hdc => ?_; refine sA ?_
   repeat' (first|refine sA ?_|refine sO ‹_› fun dc hdc => ?_|refine sN ?_|refine rW rfl (h0) ?_|refine rV (h0) ?_|refine rW rfl (h1) ?_|refine rV (h1) ?_|refine rW rfl (h2) ?_|refine rV (h2) ?_|refine sB ?_|refine sX ?_ ?_<;>(try intro h)<;>(try omega)|exact sP|refine rK ?_|exact sQ|refine sD ?_|exact sE|omega)
   all_goals skip
theorem k_decoded (s:Txt)(hs:s.length≤1099511627776):Okv Tryz.prog 169 [.str s] (.tup [.p (.str (if (rpfO s).2.2=true then dcT s else [])),.p (.bool (rpfO s).2.2)]):=by
 refine ok_D hmix c_impl_decoded (by simp) ?_
 have h0:=k_RepairFrame s hs
 have hi:=rpf_bit s
 unfold dcT
 unfold frD at h0
 cases hok:(rpfO s).2.2
 ·rw [hok] at h0
  rw [if_neg (by decide)]
  generalize (rpfO s).2.1=bi at *
  generalize (rpfO s).1=f at *
  refine sF fun dc hdc => ?_; refine sA ?_
  repeat' (first|refine sA ?_|refine sO ‹_› fun dc hdc => ?_|refine sN ?_|refine rW rfl (h0) ?_|refine rV (h0) ?_|refine sB ?_|refine sX ?_ ?_<;>(try intro h)<;>(try omega)|exact sP|refine rK ?_|exact sQ|refine sD ?_|exact sE|omega)
  all_goals skip
 ·have hf:=rpf_ok hok
  have h1:=k_frameText (rpfO s).1 hf
  have h2:=k_text (rpfO s).2.1 (by omega)
  have hl1:=ft_len hf
  have hl2:=num_le (n:=(rpfO s).2.1) (by omega)
  rw [hok] at h0
  rw [if_pos rfl]
  generalize (rpfO s).2.1=bi at *
  generalize (rpfO s).1=f at *
  generalize ftT f=T at *
  generalize num bi=B at *
  by_cases hb:0≤bi
  ·rw [if_pos hb]
   refine sF fun dc hdc => ?_; refine sA ?_
   repeat' (first|refine sA ?_|refine sO ‹_› fun dc hdc => ?_|refine sN ?_|refine rW rfl (h0) ?_|refine rV (h0) ?_|refine rW rfl (h1) ?_|refine rV (h1) ?_|refine rW rfl (h2) ?_|refine rV (h2) ?_|simp only [List.length_append,List.length_cons,List.length_nil]|refine sB ?_|refine sX ?_ ?_<;>(try intro h)<;>(try omega)|exact sP|refine rK ?_|exact sQ|refine sD ?_|exact sE|omega)
   all_goals skip
  ·rw [if_neg hb]
   refine sF fun dc hdc => ?_; refine sA ?_
   repeat' (first|refine sA ?_|refine sO ‹_› fun dc hdc => ?_|refine sN ?_|refine rW rfl (h0) ?_|refine rV (h0) ?_|refine rW rfl (h1) ?_|refine rV (h1) ?_|refine rW rfl (h2) ?_|refine rV (h2) ?_|refine sB ?_|refine sX ?_ ?_<;>(try intro h)<;>(try omega)|exact sP|refine rK ?_|exact sQ|refine sD ?_|exact sE|omega)
   all_goals skip
theorem cs_pl {f:FuncId}{ps:List PV}{c:Cs}(h:Okw Tryz.prog f ps fun d H=>d=c.dv 0 1∧H=c.rows):Okv Tryz.prog f ps (.p c.pv):=by
 refine ok_frz h fun d H h=>⟨fun ob ho=>by simp at ho,_,?_,rfl,by simp⟩
 obtain ⟨rfl,rfl⟩:=h
 refine .inl ⟨c.pv,?_,rfl⟩
 simp [hid,cs_dv,cs_rows,cs_pv,viewOf,viewOfs,List.take_of_length_le]
theorem cs_pl2 {f:FuncId}{ps:List PV}{c:Cs}{r:Txt}(h:Okw Tryz.prog f ps fun d H=>d = .tup [c.dv 0 1,.p (.str r)]∧H=c.rows):Okv Tryz.prog f ps (.tup [.p c.pv,.p (.str r)]):=by
 refine ok_frz h fun d H h=>⟨fun ob ho=>by simp at ho,_,?_,rfl,by simp⟩
 obtain ⟨rfl,rfl⟩:=h
 refine .inr ⟨_,[c.pv,.str r],rfl,?_,rfl⟩
 simp [hid,cs_dv,cs_rows,cs_pv,viewOf,viewOfs,List.take_of_length_le]
theorem spl_pl {f:FuncId}{ps:List PV}{ws:List Txt}(h:Okw Tryz.prog f ps fun d H=>d = .own 0 0 ws.length∧H=[.arr 9 1 (ws.map .str)]):Okv Tryz.prog f ps (.p (slS ws)):=by
 refine ok_frz h fun d H h=>⟨fun ob ho=>by simp at ho,_,?_,rfl,by simp⟩
 obtain ⟨rfl,rfl⟩:=h
 refine .inl ⟨slS ws,?_,rfl⟩
 simp [hid,viewOf,List.take_of_length_le]
theorem k_splitP (s:Txt)(hl:s.length≤1099511627776):Okv Tryz.prog 46 [.str s,.int .u8 32] (.p (slS (splitB 32 s))):=spl_pl (k_split s 32 hl)
theorem k_l1SplitP (s:Txt)(hl:s.length≤1099511627776):Okv Tryz.prog 42 [.str s,.int .u8 32] (.p (slS (splitB 32 s))):=spl_pl (k_l1Split s 32 hl)
theorem k_l28Own0 (c:Cs)(hf:CsFits c):Okw Tryz.prog 53 [c.pv] fun d H=>d=c.dv 0 1∧H=c.rows:=by
 refine ok_D hmix c_spec_l28Own (by simp) ?_
 obtain ⟨f1,f2,f3,f4⟩:=hf
 have h1:=k_l9Own c.mn c.mn c.hl f1
 rw [cs_pv]
 refine sF fun dc hdc => ?_; refine sA ?_
 repeat' (first|refine sA ?_|refine sO ‹_› fun dc hdc => ?_|refine sN ?_|(refine Rm_o h1 rfl (fun r H2 hh => ?_); obtain ⟨rfl,rfl⟩:=hh)|refine Dm_draw [0] (by simp) ?_|refine sB ?_|refine sX ?_ ?_<;>(try intro h)<;>(try omega)|exact sP|refine rK ?_|exact sQ|refine sD ?_|exact sE|omega)
 all_goals first
  | exact ret_k (c.dv 0 1) c.rows (by kernel_rfl) ⟨rfl,rfl⟩
  | skip
theorem k_l28Own (c:Cs)(hf:CsFits c):Okv Tryz.prog 53 [c.pv] (.p c.pv):=cs_pl (k_l28Own0 c hf)
theorem ws_in2 {a b:Txt}(h1:a.length≤1048576)(h2:b.length≤1048576):WsIn [a,b]:=by
 refine ⟨by simp,fun w h => ?_⟩
 simp only [List.mem_cons,List.not_mem_nil,or_false] at h
 rcases h with rfl|rfl
 ·exact h1
 ·exact h2
theorem take_tk {L:List Txt}{i:Nat}:List.take i (L.take i)=L.take i:=List.take_of_length_le (by rw [List.length_take]; omega)
theorem take_gr {L:List Txt}{i:Nat}{x:Txt}(h:i<L.length)(hx:L.getD i default=x):L.take i++[x]=L.take (i+1):=by
 rw [take_snoc (d:=default) h,hx]
theorem c_words_len {b:UInt8} : ∀ {s w:List UInt8},w∈splitB b s→w.length≤s.length
 | [],w,h=>by
  simp [splitB] at h
  subst h
  simp
 | c::s,w,h=>by
  have ih:=fun w h=>c_words_len (b:=b) (s:=s) (w:=w) h
  unfold splitB at h
  split at h
  ·rcases List.mem_cons.1 h with rfl|h
   ·simp
   ·have:=ih _ h
    simp only [List.length_cons]
    omega
  ·cases hX:splitB b s with
   | nil=>exact absurd hX (split_ne b s)
   | cons x X =>
    rw [hX] at h ih
    rcases List.mem_cons.1 (show w∈([c]++x)::X from h) with rfl|h
    ·have:=ih x List.mem_cons_self
     simp only [List.length_append,List.length_cons,List.length_nil]
     omega
    ·have:=ih w (List.mem_cons_of_mem _ h)
     simp only [List.length_cons]
     omega
theorem one_word {s w:Txt}(h:splitB 32 s=[w]):s=w:=by
 have:=join_split 32 s
 rw [h] at this
 exact this.symm
theorem first_word {s w:Txt}{ws:List Txt}(h:splitB 32 s=w::ws)(hw:ws≠[])(hn:(32:UInt8) ∉ w):s=w++32::joinB 32 ws∧splitB 32 (joinB 32 ws)=ws:=by
 have h1:=join_split 32 s
 rw [h,join_cons hw] at h1
 have h2:=split_app (b:=32) (p:=w) (t:=joinB 32 ws) hn
 rw [h1,h] at h2
 exact ⟨h1.symm,(List.cons.inj h2).2.symm⟩
theorem c_pf_no {s:Txt}(h:(splitB 32 s).length≠3):pfO s=((0,0,0),false):=by
 unfold pfO
 rw [if_neg]
 intro h2
 unfold pfB at h2
 simp only [Bool.and_eq_true,decide_eq_true_eq] at h2
 rw [h2.1.1.1.1.1] at h
 exact h rfl
theorem pf_ok {s:Txt}(h:(pfO s).2=true):frF (pfO s).1=true:=by
 unfold pfO at h ⊢
 split at h
 ·rename_i hb
  rw [if_pos hb]
  unfold pfB at hb
  simp only [Bool.and_eq_true] at hb
  exact hb.2
 ·cases h
theorem lv_ix (w:Txt):((ixK [[],wNone,wCau,wWarn] w 3:Nat):Int)=lvI w+1:=by
 by_cases h1:w=wNone
 ·rw [h1]; decide
 ·by_cases h2:w=wCau
  ·rw [h2]; decide
  ·by_cases h3:w=wWarn
   ·rw [h3]; decide
   ·unfold lvI
    rw [if_neg h1,if_neg h2,if_neg h3]
    simp [ixK,Ne.symm h1,Ne.symm h2,Ne.symm h3]
theorem c_dp_in (h:Hd):(0≤(dpO h).1.1∧(dpO h).1.1≤9999)∧(0≤(dpO h).1.2∧(dpO h).1.2≤9999):=by
 unfold dpO
 split
 ·rename_i hb
  unfold dpB at hb
  simp only [Bool.and_eq_true,Bool.not_eq_true'] at hb
  obtain ⟨⟨⟨h1,h2⟩,h3⟩,h4⟩:=hb
  rw [h3] at h1
  rw [h4] at h2
  unfold rpB rpS at h1 h2
  simp only [Bool.and_eq_true,decide_eq_true_eq,if_true,Bool.false_eq_true,if_false] at h1 h2
  have a1:=bothK_in (e:=h.ea) (o:=h.oa) (by omega) (by omega)
  have a2:=bothK_in (e:=h.eb) (o:=h.ob) (by omega) (by omega)
  unfold bothN
  simp only
  omega
 ·simp
theorem pn_in (m:Int)(h:Hd):(0≤(pnO m h).1.1∧(pnO m h).1.1≤9999)∧(0≤(pnO m h).1.2∧(pnO m h).1.2≤9999):=by
 unfold pnO
 split
 ·exact c_dp_in h
 ·simp
theorem pw_in (n:Int)(xs:List Hd)(a:Int):(0≤(pwO n xs a).1.1∧(pwO n xs a).1.1≤9999)∧(0≤(pwO n xs a).1.2∧(pwO n xs a).1.2≤9999):=by
 unfold pwO
 split
 ·exact pn_in _ _
 ·simp
theorem where_eq (c:Cs)(n:Int):whereR c n=if (pwO c.mn c.hl n).2=true then .same (num (pwO c.mn c.hl n).1.1++[44]++num (pwO c.mn c.hl n).1.2) else .bad:=by
 unfold whereR pwO
 by_cases h:recB2 c.mn c.hl=true∧0≤hatO c.hl n
 ·rw [if_pos h]
  by_cases h2:(pnO c.mn (c.hl.getD (hatO c.hl n).toNat default)).2=true
  ·rw [if_pos ⟨h.1,h.2,h2⟩,if_pos h2]
  ·rw [if_neg (fun h3=>h2 h3.2.2),if_neg h2]
 ·rw [if_neg h,if_neg (fun h3=>h ⟨h3.1,h3.2.1⟩),if_neg (by simp)]
theorem frames_eq (c:Cs)(n:Int):framesR c n=if (hfO c.mn c.hl n).2=true then .same (num (hfO c.mn c.hl n).1.fr) else .bad:=by
 unfold framesR hfO
 split
 ·rfl
 ·rfl
theorem hf_in (n:Int)(xs:List Hd)(a:Int):0≤(hfO n xs a).1.fr∧(hfO n xs a).1.fr≤9999:=by
 unfold hfO
 split
 ·rename_i h
  have h1:=(rec2_in h.1).2.2.2 _ (hat_lt h.2).1
  have h2:=(hd_at h1).2.1
  simp only
  omega
 ·decide
theorem fa_in {n:Int}{xs:List Hd}(hx : ∀ i,i<xs.length→1≤(xs.getD i default).addr∧(xs.getD i default).addr≤65535) : ∀ {i:Nat},i≤xs.length → ∀ a∈faTo n xs i,1≤a∧a≤65535
 | 0,_,a,h=>by simp [faTo] at h
 | i+1,hi,a,h=>by
  unfold faTo at h
  split at h
  ·rcases List.mem_append.1 h with h|h
   ·exact fa_in hx (by omega) a h
   ·rw [List.mem_singleton.1 h]
    exact hx i (by omega)
  ·exact fa_in hx (by omega) a h
theorem uo_in {xs:List Al}(hx : ∀ i,i<xs.length→alB (xs.getD i default)=true) : ∀ {i:Nat},i≤xs.length → ∀ a∈uoTo xs i,alB a=true
 | 0,_,a,h=>by simp [uoTo] at h
 | i+1,hi,a,h=>by
  unfold uoTo at h
  split at h
  ·exact uo_in hx (by omega) a h
  ·unfold insU at h
   rcases List.mem_append.1 h with h|h
   ·exact uo_in hx (by omega) a (List.mem_of_mem_take h)
   ·rcases List.mem_cons.1 h with rfl|h
    ·exact hx i (by omega)
    ·exact uo_in hx (by omega) a (List.mem_of_mem_drop h)
end Go.Proofs.YtekmkgegjicjgaaGreat

import Derived.Test.YtekmkgegjicjgaaGreatZBas
import Derived.Test.YtekmkgegjicjgaaGreatZCmA
import Derived.Test.YtekmkgegjicjgaaGreatZLogs
namespace Go.Proofs.YtekmkgegjicjgaaGreat
open Go.Dv Go.Dv.EvL
set_option maxRecDepth 100000
set_option maxHeartbeats 16000000
attribute [local irreducible] Ok Rm Dm Om Sm Xm Cm Gm Hm Tm
def hearW (c:Cs)(w1 w2:Txt):Rs:=if (readO w2).2=true then hearR c w1 (readO w2).1 else .bad
def setW (c:Cs)(w1 w2 w3:Txt):Rs:=if ((readO w2).2=true∧(readO w3).2=true)∧0≤lvI w1 then setR c (readO w2).1 (readO w3).1 (lvI w1) else .bad
def twoW (c:Cs)(w:Txt)(a b:Int):Rs:=if w=wSee then seeR c a b else showR c a b
def oneW (c:Cs)(w:Txt)(n:Int):Rs:=if w=wWhere then whereR c n else if w=wFrames then framesR c n else .bad
theorem k_l28Hear (c:Cs)(w w1 w2:Txt)(hf:CsFits c)(h1:w1.length≤1048576)(h2:w2.length≤1048576):Okv Tryz.prog 98 [c.pv,slS [w,w1,w2]] (.tup [.p ((hearW c w1 w2).cs c).pv,.p (.str (hearW c w1 w2).rep)]):=by
 refine ok_D hmix c_spec_l28Hear (by simp) ?_
 have a1:=k_sParseInt w2 (by omega)
 have a2:=k_sReceive c.mn c.hl w1 (readO w2).1 hf.1 (by omega)
 unfold hearW hearR
 unfold rcvP at a2
 obtain ⟨mn,hl,al,lg⟩:=c
 simp only [] at a2 ⊢
 generalize (readO w2).1=m at *
 generalize rcvL hl (rpfO w1).1 m=R at *
 generalize rcvB mn hl m (rpfO w1)=b2 at *
 generalize (readO w2).2=b1 at *
 cases b1<;>cases b2<;>simp only [Rs.cs,Rs.rep,wOk,cs_pv,if_true,if_false,Bool.false_eq_true] at a2 ⊢
 all_goals
  refine sF fun dc hdc => ?_; refine sA ?_
  repeat' (first|refine sA ?_|refine sO ‹_› fun dc hdc => ?_|refine sN ?_|refine rW rfl (a1) ?_|refine rV (a1) ?_|(refine Rm_o a2 rfl (fun r H2 hh => ?_); obtain ⟨rfl,rfl⟩:=hh)|refine dr ?_|refine dr0 ?_|refine sB ?_|refine sX ?_ ?_<;>(try intro h)<;>(try omega)|exact sP|refine rK ?_|exact sQ|refine sD ?_|exact sE|omega)
 all_goals skip
theorem k_l28Set (c:Cs)(w w1 w2 w3:Txt)(hf:c.al.length≤1000)(h2:w2.length≤1048576)(h3:w3.length≤1048576):Okv Tryz.prog 99 [c.pv,slS [w,w1,w2,w3]] (.tup [.p ((setW c w1 w2 w3).cs c).pv,.p (.str (setW c w1 w2 w3).rep)]):=by
 refine ok_D hmix c_spec_l28Set (by simp) ?_
 have a1:=k_l5Index [[],wNone,wCau,wWarn] w1 (by decide)
 have a2:=k_l28Numbers [w2,w3] (ws_in2 h2 h3)
 have hn:nmO [w2,w3]=if ((readO w2).2 && (readO w3).2)=true then ([(readO w2).1,(readO w3).1],true) else ([],false):=by
  unfold nmO nmB
  simp only [List.all_cons,List.all_nil,Bool.and_true]
  rfl
 rw [show ([[],wNone,wCau,wWarn]:List Txt).length - 1=3 from rfl] at a1
 have hL:lvI w1=((ixK [[],wNone,wCau,wWarn] w1 3:Nat):Int) - 1:=by rw [lv_ix]; omega
 have hK3:lvI w1≤2:=by
  unfold lvI
  repeat' split
  all_goals omega
 unfold setW setR
 rw [hL] at hK3 ⊢
 clear hL
 generalize ixK [[],wNone,wCau,wWarn] w1 3=K at *
 have a3:=k_sSet c.al (readO w2).1 (readO w3).1 ((K:Int) - 1) c.mn hf
 obtain ⟨mn,hl,al,lg⟩:=c
 simp only [wNone,wCau,wWarn] at a1 a3 ⊢
 generalize (readO w2).1=n1 at *
 generalize (readO w3).1=n2 at *
 generalize setL2 al (prA n1 n2 ((K:Int) - 1) mn)=R at *
 generalize setB al n1 n2 ((K:Int) - 1) mn=b at *
 generalize (readO w2).2=b1 at *
 generalize (readO w3).2=b2 at *
 rcases Nat.eq_zero_or_pos K with rfl|hK
 ·rw [if_neg (by omega)]
  simp only [Rs.cs,Rs.rep,cs_pv]
  generalize nmO [w2,w3]=Z at *
  clear hn a3
  refine sF fun dc hdc => ?_; refine sA ?_
  repeat' (first|refine sA ?_|refine sO ‹_› fun dc hdc => ?_|refine sN ?_|refine rW rfl (a1) ?_|refine rV (a1) ?_|(refine Rm_o a2 rfl (fun r H2 hh => ?_); obtain ⟨rfl,rfl⟩:=hh)|refine dr ?_|refine dr0 ?_|refine sB ?_|refine sX ?_ ?_<;>(try intro h)<;>(try omega)|exact sP|refine rK ?_|exact sQ|refine sD ?_|exact sE|omega)
  all_goals skip
 ·have hk:(K:Int) - 1=((K - 1:Nat):Int):=by omega
  rw [hk] at a3
  cases b1<;>cases b2<;>cases b<;>simp only [Bool.and_true,Bool.and_false,Bool.false_eq_true,if_false,if_true,false_and,and_false,true_and,alO] at hn a3 ⊢ <;> (try rw [if_pos (show (0:Int)≤(K:Int) - 1 by omega)])<;>simp only [Rs.cs,Rs.rep,wOk,cs_pv]<;>rw [hn] at a2
  all_goals
   refine sF fun dc hdc => ?_; refine sA ?_
   repeat' (first|refine sA ?_|refine sO ‹_› fun dc hdc => ?_|refine sN ?_|refine rW rfl (a1) ?_|refine rV (a1) ?_|(refine Rm_o a2 rfl (fun r H2 hh => ?_); obtain ⟨rfl,rfl⟩:=hh)|(refine Rm_o a3 rfl (fun r H2 hh => ?_); obtain ⟨rfl,rfl⟩:=hh)|refine dr ?_|refine dr0 ?_|refine sB ?_|refine sX ?_ ?_<;>(try intro h)<;>(try omega)|exact sP|refine rK ?_|exact sQ|refine sD ?_|exact sE|omega)
  all_goals skip
theorem k_l28Two (c:Cs)(w:Txt)(a b:Int)(hf:CsFits c)(hv : ∀ i,i<c.al.length→alB (c.al.getD i default)=true)(hw:w=wSee∨w=wShow):Okv Tryz.prog 106 [c.pv,.str w,.int .i64 a,.int .i64 b] (.tup [.p ((twoW c w a b).cs c).pv,.p (.str (twoW c w a b).rep)]):=by
 refine ok_D hmix c_spec_l28Two (by simp) ?_
 have a1:=k_sSee c.al a b hf.2.1
 have a2:=k_l20Find c.al a b hf.2.1
 have a3:=fun h=>k_l20Line (c.al.getD (posA (prA a b 0 0) c.al) default) h
 have hin:=fun h=>(seeB_in (xs:=c.al) (a:=a) (b:=b) h).2.2
 have hlt:=fun h=>isA_in (x:=prA a b 0 0) (xs:=c.al) h
 obtain ⟨mn,hl,al,lg⟩:=c
 unfold twoW seeR showR
 simp only [] at *
 cases hB:seeB al a b
 ·rw [hB] at a1
  simp only [alO,Bool.false_eq_true,if_false,ite_self,Rs.cs,Rs.rep,cs_pv,List.map_nil] at a1 ⊢
  refine sF fun dc hdc => ?_; refine sA ?_
  repeat' (first|refine sA ?_|refine sO ‹_› fun dc hdc => ?_|refine sN ?_|(refine Rm_o a1 rfl (fun r H2 hh => ?_); obtain ⟨rfl,rfl⟩:=hh)|refine dr ?_|refine dr0 ?_|refine sB ?_|refine sX ?_ ?_<;>(try intro h)<;>(try omega)|exact sP|refine rK ?_|exact sQ|refine sD ?_|exact sE|omega)
  all_goals skip
 ·have hin:=hin hB
  have hlt:=hlt hin
  have a3:=a3 (hv _ hlt)
  rw [hB] at a1
  rw [hin] at a2
  generalize posA (prA a b 0 0) al=P at *
  generalize hT:lineT (al.getD P default)=T at *
  rcases hw with hw|hw
  ·rw [if_pos hw]
   have q1:(w == [115,104,111,119])=false:=by rw [hw]; decide
   simp only [alO,if_true,Rs.cs,Rs.rep,wOk,cs_pv] at a1 ⊢
   refine sF fun dc hdc => ?_; refine sA ?_
   repeat' (first|refine sA ?_|refine sO ‹_› fun dc hdc => ?_|refine sN ?_|(refine Rm_o a1 rfl (fun r H2 hh => ?_); obtain ⟨rfl,rfl⟩:=hh)|simp only [q1]|refine rW rfl (a2) ?_|refine rV (a2) ?_|refine rW rfl (a3) ?_|refine rV (a3) ?_|refine dr ?_|refine dr0 ?_|refine sB ?_|refine sX ?_ ?_<;>(try intro h)<;>(try omega)|exact sP|refine rK ?_|exact sQ|refine sD ?_|exact sE|omega)
   all_goals skip
  ·rw [if_neg (by rw [hw]; decide)]
   have q1:(w == [115,104,111,119])=true:=by rw [hw]; decide
   simp only [alO,if_true,Rs.cs,Rs.rep,cs_pv] at a1 ⊢
   refine sF fun dc hdc => ?_; refine sA ?_
   repeat' (first|refine sA ?_|refine sO ‹_› fun dc hdc => ?_|refine sN ?_|(refine Rm_o a1 rfl (fun r H2 hh => ?_); obtain ⟨rfl,rfl⟩:=hh)|simp only [q1]|refine rW rfl (a2) ?_|refine rV (a2) ?_|refine rW rfl (a3) ?_|refine rV (a3) ?_|refine dr ?_|refine dr0 ?_|refine sB ?_|refine sX ?_ ?_<;>(try intro h)<;>(try omega)|exact sP|refine rK ?_|exact sQ|refine sD ?_|exact sE|omega)
   all_goals skip
theorem k_l28Pass (c:Cs)(m:Int)(hf:CsFits c):Okv Tryz.prog 104 [c.pv,.int .i64 m] (.tup [.p ((passR c m).cs c).pv,.p (.str (passR c m).rep)]):=by
 refine ok_D hmix c_spec_l28Pass (by simp) ?_
 have a1:=k_sPass c.mn c.hl m hf.1
 have hln:=ptTo_len m c.hl c.hl.length
 have hf1:=hf.1
 unfold passR
 unfold rcvP at a1
 obtain ⟨mn,hl,al,lg⟩:=c
 simp only [] at *
 generalize ptTo m hl hl.length=R at *
 have a2:=k_l1Num (R.length:Int) (by omega)
 generalize hT:num (R.length:Int)=T at *
 generalize ptB mn hl m=b at *
 cases b<;>simp only [Rs.cs,Rs.rep,cs_pv,if_true,if_false,Bool.false_eq_true] at a1 ⊢
 all_goals
  refine sF fun dc hdc => ?_; refine sA ?_
  repeat' (first|refine sA ?_|refine sO ‹_› fun dc hdc => ?_|refine sN ?_|(refine Rm_o a1 rfl (fun r H2 hh => ?_); obtain ⟨rfl,rfl⟩:=hh)|refine rW rfl (a2) ?_|refine rV (a2) ?_|simp only [List.length_map]|refine dr ?_|refine dr0 ?_|refine sB ?_|refine sX ?_ ?_<;>(try intro h)<;>(try omega)|exact sP|refine rK ?_|exact sQ|refine sD ?_|exact sE|omega)
 all_goals skip
theorem k_l28One (c:Cs)(w:Txt)(n:Int)(hf:CsFits c):Okv Tryz.prog 105 [c.pv,.str w,.int .i64 n] (.p (.str (oneW c w n).rep)):=by
 refine ok_D hmix c_spec_l28One (by simp) ?_
 have a1:=k_sPosNow c.mn c.hl n hf.1
 have a2:=k_sHeardFrom c.mn c.hl n hf.1
 obtain ⟨b1,b2⟩:=pw_in c.mn c.hl n
 have b3:=hf_in c.mn c.hl n
 have t1:=k_l1Num (pwO c.mn c.hl n).1.1 (by omega)
 have t2:=k_l1Num (pwO c.mn c.hl n).1.2 (by omega)
 have t3:=k_l1Num (hfO c.mn c.hl n).1.fr (by omega)
 have l1:=num_le (n:=(pwO c.mn c.hl n).1.1) (by omega)
 have l2:=num_le (n:=(pwO c.mn c.hl n).1.2) (by omega)
 unfold oneW
 rw [where_eq,frames_eq,cs_pv]
 obtain ⟨mn,hl,al,lg⟩:=c
 simp only [] at *
 generalize hX:(pwO mn hl n).1.1=X at *
 generalize hY:(pwO mn hl n).1.2=Y at *
 generalize (pwO mn hl n).2=ok1 at *
 rw [hd_pv] at a2
 generalize (hfO mn hl n).2=ok2 at *
 generalize (hfO mn hl n).1=h at *
 generalize num X=TX at *
 generalize num Y=TY at *
 generalize num h.fr=TF at *
 by_cases e1:w=wWhere
 ·rw [if_pos e1]
  have q1:(w == [119,104,101,114,101])=true:=beq_iff_eq.2 e1
  cases ok1<;>simp only [Rs.rep,if_true,if_false,Bool.false_eq_true]
  all_goals
   refine sF fun dc hdc => ?_; refine sA ?_
   repeat' (first|refine sA ?_|refine sO ‹_› fun dc hdc => ?_|refine sN ?_|simp only [q1]|refine rW rfl (a1) ?_|refine rV (a1) ?_|refine rW rfl (t1) ?_|refine rV (t1) ?_|refine rW rfl (t2) ?_|refine rV (t2) ?_|simp only [List.length_append,List.length_cons,List.length_nil]|refine dr ?_|refine dr0 ?_|refine sB ?_|refine sX ?_ ?_<;>(try intro h)<;>(try omega)|exact sP|refine rK ?_|exact sQ|refine sD ?_|exact sE|omega)
  all_goals skip
 ·rw [if_neg e1]
  unfold wWhere at e1
  by_cases e2:w=wFrames
  ·rw [if_pos e2]
   have q1:(w == [119,104,101,114,101])=false:=beq_eq_false_iff_ne.2 e1
   have q2:(w == [102,114,97,109,101,115])=true:=beq_iff_eq.2 e2
   cases ok2<;>simp only [Rs.rep,if_true,if_false,Bool.false_eq_true]
   all_goals
    refine sF fun dc hdc => ?_; refine sA ?_
    repeat' (first|refine sA ?_|refine sO ‹_› fun dc hdc => ?_|refine sN ?_|simp only [q1,q2]|refine rW rfl (a2) ?_|refine rV (a2) ?_|refine rW rfl (t3) ?_|refine rV (t3) ?_|refine dr ?_|refine dr0 ?_|refine sB ?_|refine sX ?_ ?_<;>(try intro h)<;>(try omega)|exact sP|refine rK ?_|exact sQ|refine sD ?_|exact sE|omega)
   all_goals skip
  ·rw [if_neg e2]
   unfold wFrames at e2
   simp only [Rs.rep]
   have q1:(w == [119,104,101,114,101])=false:=beq_eq_false_iff_ne.2 e1
   have q2:(w == [102,114,97,109,101,115])=false:=beq_eq_false_iff_ne.2 e2
   refine sF fun dc hdc => ?_; refine sA ?_
   repeat' (first|refine sA ?_|refine sO ‹_› fun dc hdc => ?_|refine sN ?_|simp only [q1,q2]|refine dr ?_|refine dr0 ?_|refine sB ?_|refine sX ?_ ?_<;>(try intro h)<;>(try omega)|exact sP|refine rK ?_|exact sQ|refine sD ?_|exact sE|omega)
   all_goals skip
end Go.Proofs.YtekmkgegjicjgaaGreat
namespace Go.Proofs.YtekmkgegjicjgaaGreat
open Go.Dv Go.Dv.EvL
set_option maxRecDepth 100000
set_option maxHeartbeats 16000000
attribute [local irreducible] Ok Rm Dm Om Sm Xm Cm Gm Hm Tm
theorem row_grow {L:List Txt}{i:Nat}{x:Txt}(h:i<L.length)(hx:L.getD i default=x):(L.take i).map PV.str++[.str x]=(L.take (i+1)).map PV.str:=by
 rw [take_snoc (d:=default) h,List.map_append,hx]
 rfl
theorem row_all {L:List Txt}{i:Nat}:List.take i ((L.take i).map PV.str)=(L.take i).map PV.str:=List.take_of_length_le (by rw [List.length_map,List.length_take]; omega)
theorem map_at {α : Type}[Inhabited α]{F:List α}{g : α → Txt}{i:Nat}(h:i<F.length):(F.map g).getD i default=g (F.getD i default):=by
 rw [List.getD_eq_getElem?_getD,List.getElem?_map,List.getElem?_eq_getElem h,List.getD_eq_getElem?_getD,List.getElem?_eq_getElem h]
 rfl
theorem fa_le {F:List Int}(h : ∀ a∈F,1≤a∧a≤65535) : ∀ i,i<(F.map num).length→((F.map num).getD i []).length≤20:=fun i hi=>by
 rw [List.length_map] at hi
 have h1:=h _ (getD_mem (d:=default) hi)
 have h2:=map_at (g:=num) hi
 have h3:(F.map num).getD i []=num (F.getD i default):=h2
 rw [h3]
 exact num_le (by omega)
theorem pair_le {F:List Al}(h : ∀ a∈F,alB a=true) : ∀ i,i<(F.map pairT).length→((F.map pairT).getD i []).length≤41:=fun i hi=>by
 rw [List.length_map] at hi
 have h1:=al_in (h _ (getD_mem (d:=default) hi))
 have h2:=map_at (g:=pairT) hi
 have h3:(F.map pairT).getD i []=pairT (F.getD i default):=h2
 rw [h3]
 have a1:=num_le (n:=(F.getD i default).low) (by omega)
 have a2:=num_le (n:=(F.getD i default).high) (by omega)
 unfold pairT
 simp only [List.length_append,List.length_cons,List.length_nil]
 omega
theorem k_l28Word (c:Cs)(w:Txt)(hf:CsFits c)(hv:csB c=true):Okv Tryz.prog 97 [c.pv,.str w] (.p (.str (run1 c w).rep)):=by
 refine ok_D hmix c_spec_l28Word (by simp) ?_
 have ci:=cs_in hv
 have hva:recB2 c.mn c.hl=true∧alsB c.al=true:=by
  have:=hv
  unfold csB at this
  simp only [Bool.and_eq_true] at this
  exact this.1
 by_cases e1:w=wFresh
 ·have hr:(run1 c w).rep=lsT ((faTo c.mn c.hl c.hl.length).map num):=by unfold run1 freshR; rw [if_pos e1]; rfl
  rw [hr]
  have a1:=k_sFresh c.mn c.hl hf.1
  unfold faO at a1
  rw [if_pos hva.1] at a1
  have fin:=fa_in (n:=c.mn) ci.2.2.1 (Nat.le_refl _)
  have fln:=faTo_len c.mn c.hl c.hl.length
  have hl6:=ci.2.1
  generalize faTo c.mn c.hl c.hl.length=F at *
  simp only [] at a1
  have hle:=fa_le fin
  have a2:=k_l28Join (F.map num) 20 (by rw [List.length_map]; omega) (by omega) hle
  have hgr:=fun i h1 h2=>row_grow (L:=F.map num) (i:=i) (x:=num (F.getD i default)) h1 h2
  have hat:=fun i h=>map_at (F:=F) (g:=num) (i:=i) h
  have hall:=fun i=>row_all (L:=F.map num) (i:=i)
  have hLn:(F.map num).length=F.length:=List.length_map ..
  generalize F.map num=L at *
  clear hr hva hv ci
  have q1:(w == [102,114,101,115,104])=true:=by rw [e1]; decide
  clear e1
  rw [cs_pv] at *
  refine sF fun dc hdc => ?_; refine sA ?_
  repeat' (first|refine sA ?_|refine sO ‹_› fun dc hdc => ?_|refine sN ?_|(refine Rm_o a1 rfl (fun r H2 hh => ?_); obtain ⟨rfl,rfl⟩:=hh)|simp only [q1]|refine sB ?_|refine sX ?_ ?_<;>(try intro h)<;>(try omega)|exact sP|refine rK ?_|exact sQ|refine sD ?_|exact sE|omega)
  refine Dm_loop [5,6,8] (fun v ds H' => ∃ i:Nat,i≤F.length∧v=F.length - i∧ds=[.own 0 0 i,.p (slI .i64 F),.p (.int .i64 i)]∧H'=[.arr 9 1 ((L.take i).map .str)]) F.length ⟨0,by omega,by omega,by kernel_rfl,by kernel_rfl⟩ ?_
  rintro v ds H' ⟨i,hi,rfl,rfl,rfl⟩ -
  have hall:=hall i
  rcases Nat.lt_or_ge i F.length with hlt|hge
  ·have hgr2:=take_gr (L:=L) (by omega) (hat i hlt)
   have hgr:=hgr i (by omega) (hat i hlt)
   have f1:=fin _ (getD_mem (d:=default) hlt)
   have t1:=k_l1Num (F.getD i default) (by omega)
   generalize num (F.getD i default)=T at *
   repeat' (first|refine sA ?_|refine sO ‹_› fun dc hdc => ?_|refine sN ?_|refine rW rfl (t1) ?_|refine rV (t1) ?_|rw [hall]|rw [hgr]|rw [take_tk]|rw [hgr2]|refine sB ?_|refine sX ?_ ?_<;>(try intro h)<;>(try omega)|exact sP|refine rK ?_|exact sQ|refine sD ?_|exact sE|omega)
   all_goals first
    | exact Xm_inv_n (F.length - (i+1)) (by omega) ⟨i+1,by omega,rfl,by kernel_rfl,by kernel_rfl⟩
    | skip
  ·obtain rfl:i=F.length:=by omega
   have hLt:L.take F.length=L:=List.take_of_length_le (by omega)
   rw [hLt,← hLn]
   repeat' (first|refine sA ?_|refine sO ‹_› fun dc hdc => ?_|refine sN ?_|refine rW rfl (a2) ?_|refine rV (a2) ?_|refine sB ?_|refine sX ?_ ?_<;>(try intro h)<;>(try omega)|exact sP|refine rK ?_|exact sQ|refine sD ?_|exact sE|omega)
   all_goals skip
 ·by_cases e2:w=wAlerts
  ·have hr:(run1 c w).rep=lsT ((uoTo c.al c.al.length).map pairT):=by unfold run1 alertsR; rw [if_neg e1,if_pos e2]; rfl
   rw [hr]
   have a1:=k_sUnseen c.al hf.2.1
   unfold uoO at a1
   rw [if_pos hva.2] at a1
   have fin:=uo_in (xs:=c.al) ci.2.2.2.2.1 (Nat.le_refl _)
   have fln:=uoTo_len c.al c.al.length
   have hl6:=ci.2.2.2.1
   generalize uoTo c.al c.al.length=F at *
   simp only [] at a1
   have hle:=pair_le fin
   have a2:=k_l28Join (F.map pairT) 41 (by rw [List.length_map]; omega) (by omega) hle
   have hgr:=fun i h1 h2=>row_grow (L:=F.map pairT) (i:=i) (x:=pairT (F.getD i default)) h1 h2
   have hat:=fun i h=>map_at (F:=F) (g:=pairT) (i:=i) h
   have hall:=fun i=>row_all (L:=F.map pairT) (i:=i)
   have hLn:(F.map pairT).length=F.length:=List.length_map ..
   generalize F.map pairT=L at *
   clear hr hva hv ci
   have q1:(w == [102,114,101,115,104])=false:=by rw [e2]; decide
   have q2:(w == [97,108,101,114,116,115])=true:=by rw [e2]; decide
   clear e1 e2
   rw [cs_pv] at *
   refine sF fun dc hdc => ?_; refine sA ?_
   repeat' (first|refine sA ?_|refine sO ‹_› fun dc hdc => ?_|refine sN ?_|(refine Rm_o a1 rfl (fun r H2 hh => ?_); obtain ⟨rfl,rfl⟩:=hh)|simp only [q1,q2]|refine sB ?_|refine sX ?_ ?_<;>(try intro h)<;>(try omega)|exact sP|refine rK ?_|exact sQ|refine sD ?_|exact sE|omega)
   refine Dm_loop [5,9,11] (fun v ds H' => ∃ i:Nat,i≤F.length∧v=F.length - i∧ds=[.own 0 0 i,.p (.sl 2 (F.map pairPV)),.p (.int .i64 i)]∧H'=[.arr 9 1 ((L.take i).map .str)]) F.length ⟨0,by omega,by omega,by kernel_rfl,by kernel_rfl⟩ ?_
   rintro v ds H' ⟨i,hi,rfl,rfl,rfl⟩ -
   have hall:=hall i
   rcases Nat.lt_or_ge i F.length with hlt|hge
   ·have hgr2:=take_gr (L:=L) (by omega) (hat i hlt)
    have hgr:=hgr i (by omega) (hat i hlt)
    have f1:=al_in (fin _ (getD_mem (d:=default) hlt))
    have t1:=k_l1Num (F.getD i default).low (by omega)
    have t2:=k_l1Num (F.getD i default).high (by omega)
    have u1:=num_le (n:=(F.getD i default).low) (by omega)
    have u2:=num_le (n:=(F.getD i default).high) (by omega)
    unfold pairT at hgr hgr2
    generalize num (F.getD i default).low=T at *
    generalize num (F.getD i default).high=T2 at *
    repeat' (first|refine sA ?_|refine sO ‹_› fun dc hdc => ?_|refine sN ?_|refine rW rfl (t1) ?_|refine rV (t1) ?_|refine rW rfl (t2) ?_|refine rV (t2) ?_|rw [hall]|rw [hgr]|rw [take_tk]|rw [hgr2]|simp only [List.length_append,List.length_cons,List.length_nil]|refine sB ?_|refine sX ?_ ?_<;>(try intro h)<;>(try omega)|exact sP|refine rK ?_|exact sQ|refine sD ?_|exact sE|omega)
    all_goals first
     | exact Xm_inv_n (F.length - (i+1)) (by omega) ⟨i+1,by omega,rfl,by kernel_rfl,by kernel_rfl⟩
     | skip
   ·obtain rfl:i=F.length:=by omega
    have hLt:L.take F.length=L:=List.take_of_length_le (by omega)
    rw [hLt,← hLn]
    repeat' (first|refine sA ?_|refine sO ‹_› fun dc hdc => ?_|refine sN ?_|refine rW rfl (a2) ?_|refine rV (a2) ?_|refine sB ?_|refine sX ?_ ?_<;>(try intro h)<;>(try omega)|exact sP|refine rK ?_|exact sQ|refine sD ?_|exact sE|omega)
    all_goals skip
  ·have hr:(run1 c w).rep=[63]:=by unfold run1; rw [if_neg e1,if_neg e2]; rfl
   rw [hr]
   have q1:(w == [102,114,101,115,104])=false:=beq_eq_false_iff_ne.2 e1
   have q2:(w == [97,108,101,114,116,115])=false:=beq_eq_false_iff_ne.2 e2
   rw [cs_pv]
   refine sF fun dc hdc => ?_; refine sA ?_
   repeat' (first|refine sA ?_|refine sO ‹_› fun dc hdc => ?_|refine sN ?_|simp only [q1,q2]|refine sB ?_|refine sX ?_ ?_<;>(try intro h)<;>(try omega)|exact sP|refine rK ?_|exact sQ|refine sD ?_|exact sE|omega)
   all_goals skip
end Go.Proofs.YtekmkgegjicjgaaGreat
namespace Go.Proofs.YtekmkgegjicjgaaGreat
open Go.Dv Go.Dv.EvL
set_option maxRecDepth 100000
set_option maxHeartbeats 16000000
attribute [local irreducible] Ok Rm Dm Om Sm Xm Cm Gm Hm Tm
def wNo:Txt:=[110,111]
def wBad:Txt:=[98,97,100]
def wFull:Txt:=[102,117,108,108]
def wLong:Txt:=[108,111,110,103]
def repO (r:Txt):Txt:=if 200<r.length then wLong else r
def stepC (c:Cs)(s:Txt):Cs:={ (runR c (splitB 32 s)).cs c with lg:=(appendO c.lg ⟨s,repO (runR c (splitB 32 s)).rep⟩).1 }
def exO (c:Cs)(s:Txt):Cs × Txt:=if csB c=true then (if recB ⟨s,[]⟩=true then (if c.lg.cnt=60 then (c,wFull) else (stepC c s,repO (runR c (splitB 32 s)).rep)) else (c,wBad)) else (c,wNo)
def Rs.okR (c:Cs):Rs→Prop
 | .rcv _ ys _=>ys.length≤c.hl.length+1
 | .alr ys _=>ys.length≤c.al.length+1
 | _=>True
theorem hear_ok (c:Cs)(s:Txt)(m:Int):(hearR c s m).okR c:=by
 unfold hearR
 split
 ·exact rcvL_len _ _ _
 ·trivial
theorem pass_ok (c:Cs)(m:Int):(passR c m).okR c:=by
 unfold passR
 split
 ·have:=ptTo_len m c.hl c.hl.length
  exact Nat.le_succ_of_le this
 ·trivial
theorem where_ok (c:Cs)(n:Int):(whereR c n).okR c:=by
 unfold whereR
 split<;>trivial
theorem frames_ok (c:Cs)(n:Int):(framesR c n).okR c:=by
 unfold framesR
 split<;>trivial
theorem see_ok (c:Cs)(a b:Int):(seeR c a b).okR c:=by
 unfold seeR
 split
 ·show (seeL c.al a b).length≤_
  unfold seeL
  rw [List.length_set]
  omega
 ·trivial
theorem show_ok (c:Cs)(a b:Int):(showR c a b).okR c:=by
 unfold showR
 split<;>trivial
theorem set_ok (c:Cs)(a b l:Int):(setR c a b l).okR c:=by
 unfold setR
 split
 ·exact setL2_len _ _
 ·trivial
theorem run_ok (c:Cs)(ws:List Txt):(runR c ws).okR c:=by
 unfold runR
 split
 ·unfold run1
  split
  ·trivial
  ·split<;>trivial
 ·unfold run2
  split
  ·unfold dcR
   split<;>trivial
  ·split
   ·split
    ·exact pass_ok _ _
    ·split
     ·exact where_ok _ _
     ·split
      ·exact frames_ok _ _
      ·trivial
   ·trivial
 ·unfold run3
  split
  ·split
   ·exact hear_ok _ _ _
   ·trivial
  ·split
   ·split
    ·exact see_ok _ _ _
    ·split
     ·exact show_ok _ _ _
     ·trivial
   ·trivial
 ·unfold run4
  split
  ·unfold encR
   split<;>trivial
  ·split
   ·split
    ·exact set_ok _ _ _ _
    ·trivial
   ·trivial
 ·trivial
theorem rs_len {c:Cs}{r:Rs}(h:r.okR c):(r.cs c).hl.length≤c.hl.length+1∧(r.cs c).al.length≤c.al.length+1∧(r.cs c).lg=c.lg:=by
 cases r with
 | same r=>exact ⟨by show c.hl.length≤_; omega,by show c.al.length≤_; omega,rfl⟩
 | rcv m ys r=>exact ⟨h,by show c.al.length≤_; omega,rfl⟩
 | alr ys r=>exact ⟨by show c.hl.length≤_; omega,h,rfl⟩
 | bad=>exact ⟨by show c.hl.length≤_; omega,by show c.al.length≤_; omega,rfl⟩
theorem log_len {l:Lg}(h:logB l=true):l.dur.length+l.pend.length≤23340:=by
 have h1:=openS_bound (l.dur++l.pend)
 unfold logB at h
 simp only [Bool.and_eq_true,decide_eq_true_eq] at h
 omega
theorem cs_small {c:Cs}(h:csB c=true):c.hl.length≤6∧c.al.length≤10∧c.lg.dur.length+c.lg.pend.length≤23340∧0≤c.lg.cnt∧c.lg.cnt≤60:=by
 obtain ⟨_,h1,_,h2,_,h3⟩:=cs_in h
 have h4:=log_len h3
 have h5:=logB_cnt h3
 exact ⟨h1,h2,h4,h5.1,h5.2⟩
theorem run_fits {c:Cs}(h:csB c=true)(ws:List Txt):CsFits ((runR c ws).cs c):=by
 obtain ⟨h1,h2,h3,_⟩:=cs_small h
 obtain ⟨g1,g2,g3⟩:=rs_len (run_ok c ws)
 unfold CsFits
 rw [g3]
 omega
theorem line_len {k:Nat}(hk:k≤1000)(e:Rec)(h:recB e=true):(lineR k e).length≤389:=by
 have h3:=recB_len h
 have h4:=body_len k e (by omega)
 have h5:=(seal_len (body k e)).2
 unfold lineR
 simp only [List.length_append,List.length_cons,List.length_nil]
 omega
theorem app_len {l:Lg}(h:logB l=true)(e:Rec):(appendO l e).1.dur.length+(appendO l e).1.pend.length≤l.dur.length+l.pend.length+389:=by
 have hc:=logB_cnt h
 unfold appendO
 split
 ·rename_i h2
  split
  ·simp only
   omega
  ·have:=line_len (k:=l.cnt.toNat) (by omega) e h2.2
   simp only [List.length_append]
   omega
 ·simp only
  omega
theorem ex_fits {c:Cs}(hf:CsFits c)(s:Txt):CsFits (exO c s).1:=by
 unfold exO
 split
 ·rename_i h
  split
  ·split
   ·exact hf
   ·obtain ⟨h1,h2,h3,_⟩:=cs_small h
    obtain ⟨g1,g2,g3⟩:=rs_len (run_ok c (splitB 32 s))
    have h4:=app_len (cs_in h).2.2.2.2.2 ⟨s,repO (runR c (splitB 32 s)).rep⟩
    unfold CsFits stepC
    simp only
    omega
  ·exact hf
 ·exact hf
theorem rep_len (r:Txt):(repO r).length≤200:=by
 unfold repO
 split
 ·decide
 ·omega
end Go.Proofs.YtekmkgegjicjgaaGreat

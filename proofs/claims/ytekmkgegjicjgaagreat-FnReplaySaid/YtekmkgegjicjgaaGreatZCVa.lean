import Derived.Test.YtekmkgegjicjgaaGreatZBas
import Derived.Test.YtekmkgegjicjgaaGreatZCmB
import Derived.Test.YtekmkgegjicjgaaGreatZLogX
import Derived.Test.YtekmkgegjicjgaaGreatZRcB
namespace Go.Proofs.YtekmkgegjicjgaaGreat
open Go.Dv Go.Dv.EvL
set_option maxRecDepth 100000
set_option maxHeartbeats 16000000
attribute [local irreducible] Ok Rm Dm Om Sm Xm Cm Gm Hm Tm
def newM (n:Int):Int:=if minB n=true then n else 0
def newC (n:Int):Cs:=⟨n,[],[],noLg⟩
theorem new_fits (n:Int):CsFits (newC n):=by
 unfold CsFits newC noLg
 simp
def cnTo (c:Cs)(rs:List Rec):Nat→Cs
 | 0=>c
 | i+1=>(exO (cnTo c rs i) (rs.getD i default).cmd).1
theorem cn_fits {c:Cs}(h:CsFits c)(rs:List Rec) : ∀ i,CsFits (cnTo c rs i)
 | 0=>h
 | i+1=>ex_fits (cn_fits h rs i) _
def rlK (c:Cs)(rs:List Rec):Nat→Nat
 | 0=>rs.length
 | k+1=>if (exO (cnTo c rs (rs.length - (k+1))) (rs.getD (rs.length - (k+1)) default).cmd).2=(rs.getD (rs.length - (k+1)) default).reply then rlK c rs k else rs.length - (k+1)
def rlO (m:Int)(l:Lg):Nat × Bool:=if minB m=true∧logB l=true then (rlK (newC m) (recsO l) (recsO l).length,true) else (0,false)
theorem open_recs : ∀ (m k:Nat) (s:List UInt8),∀ r∈(openR m k s).1,recB r=true
 | 0,k,s,r,h=>by simp [openR] at h
 | m+1,k,s,r,h=>by
  rw [openR] at h
  split at h
  ·rename_i hc
   rcases List.mem_cons.1 h with rfl|h
   ·obtain ⟨e,he,_,h2⟩:=read_key hc.2
    rw [h2]
    exact he
   ·exact open_recs m _ _ r h
  ·simp at h
theorem recsO_cmd' {l:Lg}(h:logB l=true) : ∀ r∈recsO l,r.cmd.length≤1048576:=by
 intro r hr
 unfold recsO at hr
 rw [if_pos h] at hr
 have:=recB_len (open_recs _ _ _ r hr)
 omega
end Go.Proofs.YtekmkgegjicjgaaGreat
namespace Go.Proofs.YtekmkgegjicjgaaGreat
open Go.Dv Go.Dv.EvL
set_option maxRecDepth 100000
set_option maxHeartbeats 16000000
attribute [local irreducible] Ok Rm Dm Om Sm Xm Cm Gm Hm Tm
theorem recTo_cut {n:Int}{ys zs:List Hd} : ∀ {k:Nat},k≤ys.length→recTo n (ys++zs) k=recTo n ys k
 | 0,_=>rfl
 | k+1,h=>by
  rw [recTo,recTo,recTo_cut (by omega),getD_app_l (by omega)]
  by_cases h0:k=0
  ·simp [h0]
  ·rw [getD_app_l (by omega)]
theorem kept_up {o odd:Bool}{a b t n m:Int}(h:keptB o a b t odd n=true)(hm:n≤m):keptB o a b t odd m=true:=by
 unfold keptB at h ⊢
 split
 ·rename_i h2
  rw [if_pos h2] at h
  exact h
 ·rename_i h2
  rw [if_neg h2] at h
  simp only [Bool.and_eq_true,decide_eq_true_eq] at h ⊢
  exact ⟨⟨⟨h.1.1.1,by omega⟩,h.1.2⟩,h.2⟩
theorem kept_0 (odd:Bool)(m:Int):keptB false 0 0 (-1) odd m=true:=by
 unfold keptB
 rw [if_pos rfl]
 rfl
theorem hd_pt {n m:Int}{h:Hd}(hb:hdB n h=true)(hn:n≤m):hdB m (ptH m h)=true:=by
 unfold hdB at hb ⊢
 simp only [Bool.and_eq_true,decide_eq_true_eq] at hb ⊢
 obtain ⟨⟨⟨h1,h2⟩,h3⟩,h4⟩:=hb
 refine ⟨⟨⟨h1,h2⟩,?_⟩,?_⟩
 ·show keptB (if frsh h.eAt m=true then h.eo else false) (if frsh h.eAt m=true then h.ea else 0) (if frsh h.eAt m=true then h.eb else 0) (if frsh h.eAt m=true then h.eAt else -1) false m=true
  split
  ·exact kept_up h3 hn
  ·exact kept_0 _ _
 ·show keptB (if frsh h.oAt m=true then h.oo else false) (if frsh h.oAt m=true then h.oa else 0) (if frsh h.oAt m=true then h.ob else 0) (if frsh h.oAt m=true then h.oAt else -1) true m=true
  split
  ·exact kept_up h4 hn
  ·exact kept_0 _ _
theorem pt_valid {n m:Int}{xs:List Hd}(hn:n≤m) : ∀ {k:Nat},k≤xs.length→recTo n xs k=true→recTo m (ptTo m xs k) (ptTo m xs k).length=true∧(0<(ptTo m xs k).length→0<k∧((ptTo m xs k).getD ((ptTo m xs k).length - 1) default).addr≤(xs.getD (k - 1) default).addr)
 | 0,_,_=>⟨rfl,fun h=>by simp [ptTo] at h⟩
 | k+1,hk,h=>by
  have h0:=h
  simp only [recTo,Bool.and_eq_true,Bool.or_eq_true,decide_eq_true_eq] at h
  obtain ⟨h1,h2,h3⟩:=h
  obtain ⟨i1,i2⟩:=pt_valid hn (k:=k) (by omega) h1
  unfold ptTo
  split
  ·generalize ptTo m xs k=Y at *
   have e:(Y++[ptH m (xs.getD k default)]).getD Y.length default=ptH m (xs.getD k default):=by
    rw [getD_app_r (Nat.le_refl _),Nat.sub_self]
    rfl
   refine ⟨?_,fun _=>⟨by omega,?_⟩⟩
   ·rw [List.length_append,List.length_singleton,recTo,recTo_cut (Nat.le_refl _),i1,e,hd_pt h2 hn]
    simp only [Bool.true_and,Bool.or_eq_true,decide_eq_true_eq]
    by_cases hY:Y.length=0
    ·exact .inl hY
    ·obtain ⟨j1,j2⟩:=i2 (by omega)
     refine .inr ?_
     rw [getD_app_l (by omega)]
     show _<(xs.getD k default).addr
     rcases h3 with h3|h3
     ·omega
     ·omega
   ·rw [List.length_append,List.length_singleton,Nat.add_sub_cancel,e]
    show (xs.getD k default).addr≤_
    rw [Nat.add_sub_cancel]
    omega
  ·refine ⟨i1,fun hY => ?_⟩
   obtain ⟨j1,j2⟩:=i2 hY
   refine ⟨by omega,?_⟩
   rw [Nat.add_sub_cancel]
   rcases h3 with h3|h3
   ·omega
   ·omega
theorem pass_valid {n m:Int}{xs:List Hd}(h:ptB n xs m=true):recB2 m (ptTo m xs xs.length)=true:=by
 obtain ⟨h1,h2,h3⟩:=ptB_in h
 obtain ⟨_,g2,g3,_⟩:=rec2_in h1
 have h4:=(pt_valid h3 (Nat.le_refl _) g3).1
 have h5:=ptTo_len m xs xs.length
 unfold recB2 minB
 rw [h4,decide_eq_true h2,decide_eq_true (by omega)]
 rfl
theorem alTo_key {xs ys:List Al}(h : ∀ i,alB (ys.getD i default)=alB (xs.getD i default)∧(ys.getD i default).low=(xs.getD i default).low∧(ys.getD i default).high=(xs.getD i default).high) : ∀ k,alTo ys k=alTo xs k
 | 0=>rfl
 | k+1=>by
  rw [alTo,alTo,alTo_key h k,(h k).1]
  unfold befB
  rw [(h k).2.1,(h k).2.2,(h (k - 1)).2.1,(h (k - 1)).2.2]
theorem see_valid {xs:List Al}{a b:Int}(h:alsB xs=true):alsB (seeL xs a b)=true:=by
 have hk:=alTo_key (xs:=xs) (ys:=seeL xs a b) fun i=>by
  unfold seeL
  by_cases hi:posA (prA a b 0 0) xs=i
  ·by_cases hl:i<xs.length
   ·rw [hi,getD_set hl]
    exact ⟨rfl,rfl,rfl⟩
   ·rw [hi,List.set_eq_of_length_le (by omega)]
    exact ⟨rfl,rfl,rfl⟩
  ·rw [getD_set_ne hi]
   exact ⟨rfl,rfl,rfl⟩
 unfold alsB at h ⊢
 rw [show (seeL xs a b).length=xs.length from by unfold seeL; rw [List.length_set],hk]
 exact h
def Rs.okV (c:Cs)(r:Rs):Prop:=recB2 (r.cs c).mn (r.cs c).hl=true∧alsB (r.cs c).al=true
theorem cs_okV {c:Cs}(h:csB c=true):recB2 c.mn c.hl=true∧alsB c.al=true∧logB c.lg=true:=by
 unfold csB at h
 simp only [Bool.and_eq_true] at h
 exact ⟨h.1.1,h.1.2,h.2⟩
theorem run_valid {c:Cs}(h:csB c=true)(ws:List Txt):(runR c ws).okV c:=by
 obtain ⟨g1,g2,g3⟩:=cs_okV h
 have hs : ∀ r,(Rs.same r).okV c:=fun r=>⟨g1,g2⟩
 have hb:Rs.bad.okV c:=⟨g1,g2⟩
 have hsee : ∀ a b,(seeR c a b).okV c:=fun a b=>by
  unfold seeR
  split
  ·exact ⟨g1,see_valid g2⟩
  ·exact hb
 have hshow : ∀ a b,(showR c a b).okV c:=fun a b=>by
  unfold showR
  split
  ·exact hs _
  ·exact hb
 have hset : ∀ a b l,(setR c a b l).okV c:=fun a b l=>by
  unfold setR
  split
  ·rename_i h2
   unfold setB at h2
   simp only [Bool.and_eq_true] at h2
   exact ⟨g1,h2.2⟩
  ·exact hb
 have hhear : ∀ s m,(hearR c s m).okV c:=fun s m=>by
  unfold hearR
  split
  ·rename_i h2
   unfold rcvB at h2
   simp only [Bool.and_eq_true] at h2
   exact ⟨h2.2,g2⟩
  ·exact hb
 have hpass : ∀ m,(passR c m).okV c:=fun m=>by
  unfold passR
  split
  ·rename_i h2
   exact ⟨pass_valid h2,g2⟩
  ·exact hb
 unfold runR
 split
 ·unfold run1 freshR alertsR
  split
  ·exact hs _
  ·split
   ·exact hs _
   ·exact hb
 ·unfold run2
  split
  ·unfold dcR
   split
   ·exact hs _
   ·exact hb
  ·split
   ·split
    ·exact hpass _
    ·split
     ·unfold whereR
      split
      ·exact hs _
      ·exact hb
     ·split
      ·unfold framesR
       split
       ·exact hs _
       ·exact hb
      ·exact hb
   ·exact hb
 ·unfold run3
  split
  ·split
   ·exact hhear _ _
   ·exact hb
  ·split
   ·split
    ·exact hsee _ _
    ·split
     ·exact hshow _ _
     ·exact hb
   ·exact hb
 ·unfold run4
  split
  ·unfold encR
   split
   ·exact hs _
   ·exact hb
  ·split
   ·split
    ·exact hset _ _ _
    ·exact hb
   ·exact hb
 ·exact hb
theorem plain_app {a b:Txt}(h1:plainB a=true)(h2:plainB b=true):plainB (a++b)=true:=by
 unfold plainB at *
 rw [List.all_append,h1,h2]
 rfl
theorem plain_dec : ∀ n:Nat,plainB (dec n)=true:=fun n=>by
 induction n using Nat.strongRecOn with
 | _ n ih =>
  have hd : ∀ k,k<10→plain1 (UInt8.ofNat (48+k))=true:=by decide
  by_cases h:n<10
  ·rw [dec_small h]
   unfold plainB
   rw [List.all_cons,hd n h]
   rfl
  ·rw [dec_big h]
   refine plain_app (ih _ (by omega)) ?_
   unfold plainB
   rw [List.all_cons,hd (n % 10) (Nat.mod_lt _ (by decide))]
   rfl
theorem plain_num (n:Int):plainB (num n)=true:=by
 unfold num
 split
 ·exact plain_app (a:=[45]) (by decide) (plain_dec _)
 ·exact plain_dec _
theorem plain_hx {s:Txt}(hb:s.all bitP=true) : ∀ k,plainB (hxTo s k)=true
 | 0=>rfl
 | k+1=>by
  have hx : ∀ i:Nat,i<16→plain1 (HX.getD i 0)=true:=by decide
  have hq:((s.drop (4 * k)).take 4).all bitP=true:=by
   rw [List.all_eq_true] at hb ⊢
   exact fun x hx=>hb x (List.mem_of_mem_drop (List.mem_of_mem_take hx))
  have hv:=valB_lt _ _ rfl hq
  have hl:((s.drop (4 * k)).take 4).length≤4:=by rw [List.length_take]; omega
  have h16:valB ((s.drop (4 * k)).take 4)<16:=Nat.lt_of_lt_of_le hv (Nat.pow_le_pow_right (by decide) hl)
  unfold hxTo
  refine plain_app (plain_hx hb k) ?_
  unfold plainB
  rw [List.all_cons,hx _ h16]
  rfl
theorem plain_ft (f:Nat × Nat × Nat):plainB (ftT f)=true:=by
 have hk:plainB (KW.getD f.1 [])=true:=by
  by_cases h:f.1<5
  ·have h2 : ∀ i,i<5→plainB (KW.getD i [])=true:=by decide
   exact h2 _ h
  ·rw [List.getD_eq_getElem?_getD,List.getElem?_eq_none (show KW.length≤f.1 by have:KW.length=5:=rfl; omega)]
   rfl
 unfold ftT
 exact plain_app (plain_app (plain_app (plain_app hk (by decide)) (plain_hx (bitsN_bits _ _) _)) (by decide)) (plain_hx (bitsN_bits _ _) _)
theorem plain_join {xs:List Txt}(h : ∀ x∈xs,plainB x=true) : ∀ k,k≤xs.length→plainB (joinTo xs [32] k)=true
 | 0,_=>rfl
 | k+1,hk=>by
  have h1:=plain_join h k (by omega)
  have h2:=h _ (getD_mem (d:=[]) (show k<xs.length by omega))
  unfold joinTo
  split
  ·exact plain_app (plain_app h1 (by decide)) h2
  ·exact plain_app h1 h2
theorem plain_ls {xs:List Txt}(h : ∀ x∈xs,plainB x=true):plainB (lsT xs)=true:=by
 unfold lsT
 split
 ·decide
 ·exact plain_join h _ (Nat.le_refl _)
theorem plain_line (a:Al):plainB (lineT a)=true:=by
 have h0:plainB (lvlT a.lvl)=true:=by
  unfold lvlT
  split<;>decide
 unfold lineT
 split
 ·exact plain_app (plain_app (plain_app (plain_app (plain_app (plain_app (plain_app h0 (by decide)) (plain_num _)) (by decide)) (plain_num _)) (by decide)) (plain_num _)) (by decide)
 ·exact plain_app (plain_app (plain_app (plain_app (plain_app (plain_app h0 (by decide)) (plain_num _)) (by decide)) (plain_num _)) (by decide)) (plain_num _)
theorem run_plain (c:Cs)(ws:List Txt):plainB (runR c ws).rep=true:=by
 have hb:plainB Rs.bad.rep=true:=by decide
 have hok:plainB wOk=true:=by decide
 unfold runR
 split
 ·unfold run1 freshR alertsR
  split
  ·refine plain_ls fun x hx => ?_
   obtain ⟨y,_,rfl⟩:=List.mem_map.1 hx
   exact plain_num _
  ·split
   ·refine plain_ls fun x hx => ?_
    obtain ⟨y,_,rfl⟩:=List.mem_map.1 hx
    exact plain_app (plain_app (plain_num _) (by decide)) (plain_num _)
   ·exact hb
 ·unfold run2
  split
  ·unfold dcR
   split
   ·show plainB (if _ then _ else _)=true
    split
    ·exact plain_app (plain_ft _) (plain_app (by decide) (plain_num _))
    ·exact plain_ft _
   ·exact hb
  ·split
   ·split
    ·unfold passR
     split
     ·exact plain_num _
     ·exact hb
    ·split
     ·unfold whereR
      split
      ·exact plain_app (plain_app (plain_num _) (by decide)) (plain_num _)
      ·exact hb
     ·split
      ·unfold framesR
       split
       ·exact plain_num _
       ·exact hb
      ·exact hb
   ·exact hb
 ·unfold run3
  split
  ·split
   ·unfold hearR
    split
    ·exact hok
    ·exact hb
   ·exact hb
  ·split
   ·split
    ·unfold seeR
     split
     ·exact hok
     ·exact hb
    ·split
     ·unfold showR
      split
      ·exact plain_line _
      ·exact hb
     ·exact hb
   ·exact hb
 ·unfold run4
  split
  ·unfold encR
   split
   ·exact plain_hx (fbT_bits _) _
   ·exact hb
  ·split
   ·split
    ·unfold setR
     split
     ·exact hok
     ·exact hb
    ·exact hb
   ·exact hb
 ·exact hb
theorem rep_plain {r:Txt}(h:plainB r=true):plainB (repO r)=true:=by
 unfold repO
 split
 ·decide
 ·exact h
theorem step_rec {c:Cs}{s:Txt}(hs:recB ⟨s,[]⟩=true):recB ⟨s,repO (runR c (splitB 32 s)).rep⟩=true:=by
 have h1:=rep_len (runR c (splitB 32 s)).rep
 have h2:=rep_plain (run_plain c (splitB 32 s))
 unfold recB at hs ⊢
 simp only [Bool.and_eq_true,decide_eq_true_eq] at hs ⊢
 exact ⟨⟨hs.1.1,h2⟩,h1⟩
end Go.Proofs.YtekmkgegjicjgaaGreat
namespace Go.Proofs.YtekmkgegjicjgaaGreat
open Go.Dv Go.Dv.EvL
set_option maxRecDepth 100000
set_option maxHeartbeats 16000000
attribute [local irreducible] Ok Rm Dm Om Sm Xm Cm Gm Hm Tm
theorem app_in {l:Lg}{e:Rec}(hl:logB l=true)(hc:l.cnt≠60)(he:recB e=true):logB (appendO l e).1=true∧recsO (appendO l e).1=recsO l++[e]∧(appendO l e).1.cnt=l.cnt+1:=by
 obtain ⟨h1,h2⟩:=logB_cnt hl
 obtain ⟨n,hn⟩ : ∃ n:Nat,l.cnt=n:=⟨l.cnt.toNat,by omega⟩
 obtain ⟨g1,g2⟩:=logB_app hl hn (by omega) he
 have ha:(appendO l e).1=⟨l.dur,l.pend++lineR n e,l.cnt+1⟩:=by
  unfold appendO
  rw [if_pos ⟨hl,he⟩,if_neg hc,hn]
  rfl
 rw [ha]
 refine ⟨g2,?_,rfl⟩
 unfold recsO
 rw [if_pos g2,if_pos hl]
 show (openS (l.dur++(l.pend++lineR n e))).1=_
 rw [g1]
theorem recs_cnt {l:Lg}(hl:logB l=true):((recsO l).length:Int)=l.cnt:=by
 obtain ⟨_,_,h3⟩:=logB_iff.1 hl
 unfold recsO
 rw [if_pos hl]
 omega
theorem ex_cases (c:Cs)(s:Txt):((exO c s).1=c∧((exO c s).2=wNo∨(exO c s).2=wBad∨(exO c s).2=wFull)) ∨
  (csB c=true∧csB (exO c s).1=true∧recsO (exO c s).1.lg=recsO c.lg++[⟨s,(exO c s).2⟩]∧(exO c s).1.lg.cnt=c.lg.cnt+1∧recB ⟨s,[]⟩=true):=by
 by_cases h1:csB c=true
 ·by_cases h2:recB ⟨s,[]⟩=true
  ·by_cases h3:c.lg.cnt=60
   ·left
    unfold exO
    rw [if_pos h1,if_pos h2,if_pos h3]
    exact ⟨rfl,.inr (.inr rfl)⟩
   ·right
    have he:exO c s=(stepC c s,repO (runR c (splitB 32 s)).rep):=by
     unfold exO
     rw [if_pos h1,if_pos h2,if_neg h3]
    rw [he]
    obtain ⟨g1,g2,g3⟩:=cs_okV h1
    obtain ⟨v1,v2⟩:=run_valid h1 (splitB 32 s)
    obtain ⟨a1,a2,a3⟩:=app_in g3 h3 (step_rec (c:=c) h2)
    refine ⟨h1,?_,a2,a3,h2⟩
    show csB (stepC c s)=true
    unfold csB stepC
    simp only [v1,v2,a1,Bool.and_true]
  ·left
   unfold exO
   rw [if_pos h1,if_neg h2]
   exact ⟨rfl,.inr (.inl rfl)⟩
 ·left
  unfold exO
  rw [if_neg h1]
  exact ⟨rfl,.inl rfl⟩
theorem ex_valid {c:Cs}(h:csB c=true)(s:Txt):csB (exO c s).1=true:=by
 rcases ex_cases c s with h1|h1
 ·rw [h1.1]; exact h
 ·exact h1.2.1
def Leads (c0 c:Cs):Prop:=csB c=true∧cnTo c0 (recsO c.lg) (recsO c.lg).length=c ∧ ∀ i,i<(recsO c.lg).length→(exO (cnTo c0 (recsO c.lg) i) ((recsO c.lg).getD i default).cmd).2=((recsO c.lg).getD i default).reply
theorem cn_cut {c0:Cs}{xs ys:List Rec} : ∀ {i:Nat},i≤xs.length→cnTo c0 (xs++ys) i=cnTo c0 xs i
 | 0,_=>rfl
 | i+1,h=>by
  rw [cnTo,cnTo,cn_cut (by omega),getD_app_l (by omega)]
theorem leads_step {c0 c:Cs}(h:Leads c0 c)(s:Txt):Leads c0 (exO c s).1:=by
 rcases ex_cases c s with h1|h1
 ·rw [h1.1]; exact h
 ·obtain ⟨k1,k2,k3⟩:=h
  obtain ⟨_,g1,g2,_,_⟩:=h1
  refine ⟨g1,?_,?_⟩
  ·rw [g2,List.length_append,List.length_singleton,cnTo,cn_cut (Nat.le_refl _),k2,getD_app_r (Nat.le_refl _),Nat.sub_self]
   rfl
  ·rw [g2]
   intro i hi
   rw [List.length_append,List.length_singleton] at hi
   rw [cn_cut (by omega)]
   by_cases hl:i<(recsO c.lg).length
   ·rw [getD_app_l hl]
    exact k3 i hl
   ·obtain rfl:i=(recsO c.lg).length:=by omega
    rw [k2,getD_app_r (Nat.le_refl _),Nat.sub_self]
    rfl
theorem recs_none:recsO noLg=[]:=by
 unfold recsO
 split
 ·decide
 ·rfl
theorem leads_new {m:Int}(h:minB m=true):Leads (newC m) (newC m):=by
 have hr:recsO (newC m).lg=[]:=recs_none
 refine ⟨?_,?_,?_⟩
 ·unfold csB newC
  have:recB2 m []=true:=by
   unfold recB2
   rw [h]
   rfl
  rw [this]
  show (true && alsB [] && logB noLg)=true
  decide
 ·rw [hr]
  rfl
 ·rw [hr]
  intro i hi
  simp at hi
theorem rl_all {c0:Cs}{rs:List Rec}(h : ∀ i,i<rs.length→(exO (cnTo c0 rs i) (rs.getD i default).cmd).2=(rs.getD i default).reply) : ∀ k,k≤rs.length→rlK c0 rs k=rs.length
 | 0,_=>rfl
 | k+1,hk=>by
  rw [rlK,if_pos (h _ (by omega))]
  exact rl_all h k (by omega)
theorem leads_replay {m:Int}{c:Cs}(hm:minB m=true)(h:Leads (newC m) c):rlO m c.lg=((recsO c.lg).length,true):=by
 obtain ⟨k1,_,k3⟩:=h
 unfold rlO
 rw [if_pos ⟨hm,(cs_okV k1).2.2⟩,rl_all k3 _ (Nat.le_refl _)]
theorem leads_part {m:Int}{c:Cs}{l:Lg}(hm:minB m=true)(h:Leads (newC m) c)(hl:logB l=true)(hp:recsO l <+: recsO c.lg):rlO m l=((recsO l).length,true):=by
 obtain ⟨_,_,k3⟩:=h
 obtain ⟨t,ht⟩:=hp
 unfold rlO
 rw [if_pos ⟨hm,hl⟩]
 refine congrArg (·,true) (rl_all ?_ _ (Nat.le_refl _))
 intro i hi
 have:=k3 i (by rw [← ht,List.length_append]; omega)
 rw [← ht,cn_cut (by omega),getD_app_l hi] at this
 exact this
end Go.Proofs.YtekmkgegjicjgaaGreat

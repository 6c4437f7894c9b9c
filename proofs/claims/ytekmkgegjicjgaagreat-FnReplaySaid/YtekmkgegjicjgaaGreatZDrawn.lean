/- Drawn: the same, of drawn regions, loops, functions and calls; for every program of the model. Nothing here speaks of this translation. -/
import Derived.Test.YtekmkgegjicjgaaGreatZSound
import Derived.Deep.LoopGhost
import Derived.OrdersHeld
namespace Go.Dv
theorem addIds_nodup : ∀ (is acc:List Nat),acc.Nodup→(addIds acc is).Nodup ∧ ∃ more,addIds acc is=acc++more
 | [],acc,h=>⟨h,[],by simp [addIds]⟩
 | i::is,acc,h=>by
  simp only [addIds]
  split
  ·exact addIds_nodup is acc h
  ·rename_i hc
   have hn:(acc++[i]).Nodup:=by
    rw [List.nodup_append]
    refine ⟨h,by simp,fun a ha b hb => ?_⟩
    simp at hb
    subst hb
    rintro rfl
    simp at hc
    exact hc ha
   obtain ⟨h1,more,h2⟩:=addIds_nodup is (acc++[i]) hn
   exact ⟨h1,i::more,by rw [h2]; simp⟩
theorem idsOf_spec (nin:Nat)(ds:List DV)(H:Heap):(idsOf nin ds H).Nodup ∧ ∃ more,idsOf nin ds H=List.range nin++more:=by
 unfold idsOf
 obtain ⟨h1,m1,e1⟩:=addIds_nodup (refsL ds) (List.range nin) List.nodup_range
 obtain ⟨h2,m2,e2⟩:=addIds_nodup ((addIds (List.range nin) (refsL ds)).flatMap (refsB H)) _ h1
 exact ⟨h2,m1++m2,by rw [e2,e1,List.append_assoc]⟩
section
variable {P:Program} {c:Cx} {nt:Nat} {ρ : Rho} {env:Env} {H:Heap} {w:World} {M:Md} {a:Act} {tmps:Array Value}
def rhoOf (ids:List Nat)(ρ : Rho):Rho:=ids.map fun i => ρ.getD i none
theorem heapOf_get {ids:List Nat}{j:Nat}{ob:OB}(h:(heapOf ids H)[j]? = some ob) : ∃ i,ids[j]? = some i∧ob=renB ids (H.getD i .dead):=by
 unfold heapOf at h
 rw [List.getElem?_map,Option.map_eq_some_iff] at h
 obtain ⟨i,h1,h2⟩:=h
 exact ⟨i,h1,h2.symm⟩
theorem renB_live {ids:List Nat}{ob:OB}:(renB ids ob).live=ob.live:=by cases ob<;>rfl
theorem getD_live {i:Nat}{ob:OB}(h:ob=H.getD i .dead)(hl:ob.live=true):H[i]? = some ob:=by
 rw [List.getD_eq_getElem?_getD] at h
 cases hg:H[i]? with
 | none=>rw [hg] at h; subst h; cases hl
 | some o=>rw [hg] at h; subst h; rfl
theorem rhoOf_get {ids:List Nat}{j i:Nat}(h:ids[j]? = some i)(hi:i < ρ.length):(rhoOf ids ρ)[j]? = ρ[i]? := by
 unfold rhoOf
 rw [List.getElem?_map,h]
 simp [List.getElem?_eq_getElem hi]
theorem own_pack (hl : ρ.length=H.length){ids:List Nat}{b:Nat}(h:ownB (rhoOf ids ρ) (heapOf ids H) b):ownB ρ H b:=by
 obtain ⟨j,ob,h1,h2,h3⟩:=h
 obtain ⟨i,g1,g2⟩:=heapOf_get h1
 subst g2
 rw [renB_live] at h2
 have hH:=getD_live rfl h2
 rw [rhoOf_get g1 (by rw [hl]; exact lt_of_get hH)] at h3
 exact ⟨i,_,hH,h2,h3⟩
theorem idx_get {ids:List Nat}{i:Nat}(h:ids.contains i=true):ids[ids.idxOf i]? = some i:=by
 have hm:i∈ids:=by simpa using h
 have hlt:ids.idxOf i<ids.length:=List.idxOf_lt_length_of_mem hm
 rw [List.getElem?_eq_getElem hlt,List.getElem_idxOf hlt]
theorem heapOf_idx {ids:List Nat}{i:Nat}(h:ids.contains i=true):(heapOf ids H)[ids.idxOf i]? = some (renB ids (H.getD i .dead)):=by
 unfold heapOf
 rw [List.getElem?_map,idx_get h]
 rfl
theorem ownRel_pack (hl : ρ.length=H.length){ids:List Nat}{i off len:Nat}{v:Value}(hc:ids.contains i=true)(h:ownRel w ρ H i off len v):ownRel w (rhoOf ids ρ) (heapOf ids H) (ids.idxOf i) off len v:=by
 unfold ownRel at h ⊢
 rw [heapOf_idx hc]
 cases hH:H[i]? with
 | none=>simp [hH] at h
 | some ob =>
  have hg:H.getD i .dead=ob:=by rw [List.getD_eq_getElem?_getD,hH]; rfl
  rw [hg]
  have hr:=rhoOf_get (ρ := ρ) (idx_get hc) (by rw [hl]; exact lt_of_get hH)
  cases ob with
  | dead=>simpa [hH,renB] using h
  | box e cs =>
   simp only [hH] at h
   simp only [renB,hr]
   exact h
  | iter s p=>simp [hH] at h
  | arr e k xs =>
   simp only [hH] at h
   simp only [renB,hr]
   exact h
theorem ptrRel_pack (hl : ρ.length=H.length){ids:List Nat}{i j f:Nat}{v:Value}(hc:ids.contains i=true)(h:ptrRel ρ H i j f v):ptrRel (rhoOf ids ρ) (heapOf ids H) (ids.idxOf i) j f v:=by
 unfold ptrRel at h ⊢
 rw [heapOf_idx hc]
 cases hH:H[i]? with
 | none=>simp [hH] at h
 | some ob =>
  have hg:H.getD i .dead=ob:=by rw [List.getD_eq_getElem?_getD,hH]; rfl
  rw [hg]
  have hr:=rhoOf_get (ρ := ρ) (idx_get hc) (by rw [hl]; exact lt_of_get hH)
  cases ob with
  | dead=>simp [renB]
  | box e cs =>
   simp only [hH] at h
   simp only [renB,hr]
   exact h
  | iter s p =>
   simp only [hH] at h
   simp only [renB,hr]
   exact h
  | arr e k xs =>
   simp only [hH] at h
   simp only [renB,hr]
   exact h
mutual
theorem RD_pack {X X':Nat→Prop}(hp:Pres w X w X')(hl : ρ.length=H.length)(ids:List Nat) : ∀ (d:DV) (v:Value),RD w X ρ H d v→RD w X' (rhoOf ids ρ) (heapOf ids H) (ren ids d) v
 | .any,_,_=>by simp only [ren]; unfold RD; trivial
 | .undef,v,h=>by simp only [ren]; unfold RD at h ⊢; exact h
 | .p x,v,h=>by simp only [ren]; unfold RD at h ⊢; exact RP_mono hp x v h
 | .nil,v,h=>by simp only [ren]; unfold RD at h ⊢; exact h
 | .own i off len,v,h=>by
  simp only [ren]
  split
  ·rename_i hc
   unfold RD at h ⊢
   exact ownRel_pack hl hc h
  ·unfold RD; trivial
 | .ptr i j f,v,h=>by
  simp only [ren]
  split
  ·rename_i hc
   unfold RD at h ⊢
   exact ptrRel_pack hl hc h
  ·unfold RD; trivial
 | .rptr k xs j f,v,h=>by
  simp only [ren]
  unfold RD at h ⊢
  obtain ⟨b,o,hv,hb,hX,hr,hj⟩:=h
  obtain ⟨e,n⟩:=hp.keep b hb hX
  exact ⟨b,o,hv,hb,n,RRow_mono hp k b e o xs hr,hj⟩
 | .agg cs,v,h=>by
  simp only [ren]
  unfold RD at h ⊢
  obtain ⟨vs,hv,h1⟩:=h
  exact ⟨vs,hv,RDs_pack hp hl ids cs vs h1⟩
 | .tup ds,v,h=>by
  simp only [ren]
  unfold RD at h ⊢
  obtain ⟨vs,hv,h1⟩:=h
  exact ⟨vs,hv,RDt_pack hp hl ids ds vs h1⟩
theorem RDs_pack {X X':Nat→Prop}(hp:Pres w X w X')(hl : ρ.length=H.length)(ids:List Nat) : ∀ (cs:List DV) (vs:List Value),RDs w X ρ H cs vs→RDs w X' (rhoOf ids ρ) (heapOf ids H) (renL ids cs) vs
 | [],vs,h=>by simp only [renL]; unfold RDs at h ⊢; exact h
 | d::cs,vs,h=>by
  simp only [renL]
  unfold RDs at h ⊢
  obtain ⟨v,vs',hv,h1,h2,h3⟩:=h
  exact ⟨v,vs',hv,h1,RD_pack hp hl ids d v h2,RDs_pack hp hl ids cs vs' h3⟩
theorem RDt_pack {X X':Nat→Prop}(hp:Pres w X w X')(hl : ρ.length=H.length)(ids:List Nat) : ∀ (cs:List DV) (vs:List Value),RDt w X ρ H cs vs→RDt w X' (rhoOf ids ρ) (heapOf ids H) (renL ids cs) vs
 | [],vs,h=>by simp only [renL]; unfold RDt at h ⊢; exact h
 | d::cs,vs,h=>by
  simp only [renL]
  unfold RDt at h ⊢
  obtain ⟨v,vs',hv,h2,h3⟩:=h
  exact ⟨v,vs',hv,RD_pack hp hl ids d v h2,RDt_pack hp hl ids cs vs' h3⟩
end
theorem renL_eq (ids:List Nat) : ∀ ds:List DV,renL ids ds=ds.map (ren ids)
 | []=>rfl
 | d::ds=>by simp [renL,renL_eq ids ds]
theorem get_zip (f:Nat→DV) : ∀ (keep:List Nat) (n:Nat),get (keep.zip (keep.map f)) n=if n∈keep then f n else .any
 | [],n=>by simp [get]
 | m::ks,n=>by
  simp only [List.map_cons,List.zip_cons_cons,get,get_zip f ks n,List.mem_cons]
  by_cases e:m=n
  ·subst e; simp
  ·simp [e,Ne.symm e]
theorem pack_any (st:StR c ρ env H tmps w){ids:List Nat}(hnd:ids.Nodup)(hfirst : ∀ i,i<c.H0.length→ids[i]? = some i) :
  Pres w (c.X ρ H) w (c.X (rhoOf ids ρ) (heapOf ids H))∧StR c (rhoOf ids ρ) [] (heapOf ids H) tmps w:=by
 have hl:=st.h.len
 have hp:Pres w (c.X ρ H) w (c.X (rhoOf ids ρ) (heapOf ids H)):=⟨Nat.le_refl _,fun b _ hn=>⟨rfl,fun h=>h.elim (fun h=>hn (.inl h)) fun h=>hn (.inr (own_pack hl h))⟩⟩
 have hlen0:=st.lenH0
 have hpos : ∀ {j1 j2 i:Nat},ids[j1]? = some i→ids[j2]? = some i→j1=j2:=fun {j1 j2 i} h1 h2=>by
  have l1:=lt_of_get h1
  exact (List.getElem?_inj l1 hnd).1 (h1.trans h2.symm)
 refine ⟨hp,⟨by simp [rhoOf,heapOf],fun j ob hj => ?_,fun j1 j2 b o1 o2 h1 l1 h2 l2 r1 r2 => ?_,fun b hb => .inr hb⟩,fun n => ?_,⟨st.k.os,st.k.tape,st.k.output,st.k.size,fun b hb h0=>⟨(st.k.keep b hb h0).1,fun h=>(st.k.keep b hb h0).2 (own_pack hl h)⟩⟩,?_,st.o⟩
 ·obtain ⟨i,g1,g2⟩:=heapOf_get hj
  cases ho:H.getD i .dead with
  | dead =>
   rw [ho] at g2
   subst g2
   trivial
  | arr e k xs =>
   have hH:=getD_live ho.symm rfl
   have hr:=rhoOf_get (ρ := ρ) g1 (by rw [hl]; exact lt_of_get hH)
   rw [ho] at g2
   subst g2
   obtain ⟨hk,h⟩:=st.h.ob i _ hH
   refine ⟨hk,?_⟩
   rw [hr]
   rcases h with h|⟨b,cur,a1,a2,a3,a4⟩
   ·exact .inl h
   ·exact .inr ⟨b,cur,a1,a2,a3,RRow_mono hp k b rfl 0 xs a4⟩
  | box e cs =>
   have hH:=getD_live ho.symm rfl
   have hr:=rhoOf_get (ρ := ρ) g1 (by rw [hl]; exact lt_of_get hH)
   rw [ho] at g2
   subst g2
   obtain ⟨b,cur,a1,a2,a3⟩:=st.h.ob i _ hH
   exact ⟨b,cur,hr.trans a1,a2,RDs_pack hp hl ids _ _ a3⟩
  | iter s p =>
   have hH:=getD_live ho.symm rfl
   have hr:=rhoOf_get (ρ := ρ) g1 (by rw [hl]; exact lt_of_get hH)
   rw [ho] at g2
   subst g2
   obtain ⟨b,a1,a2⟩:=st.h.ob i _ hH
   exact ⟨b,hr.trans a1,a2⟩
 ·obtain ⟨i1,g1,g2⟩:=heapOf_get h1
  obtain ⟨i2,g3,g4⟩:=heapOf_get h2
  subst g2
  subst g4
  rw [renB_live] at l1 l2
  have hH1:=getD_live rfl l1
  have hH2:=getD_live rfl l2
  rw [rhoOf_get g1 (by rw [hl]; exact lt_of_get hH1)] at r1
  rw [rhoOf_get g3 (by rw [hl]; exact lt_of_get hH2)] at r2
  have:=st.h.inj i1 i2 b _ _ hH1 l1 hH2 l2 r1 r2
  subst this
  exact hpos g1 g3
 ·simp only [get]
  unfold RD
  trivial
 ·have hget : ∀ i,i<c.H0.length→(heapOf ids H)[i]? = some (renB ids (H.getD i .dead)):=fun i hi=>by
   unfold heapOf
   rw [List.getElem?_map,hfirst i hi]
   rfl
  have hgd : ∀ {i:Nat} {ob:OB},H[i]? = some ob→H.getD i .dead=ob:=fun {i ob} h=>by rw [List.getD_eq_getElem?_getD,h]; rfl
  refine ⟨fun i hi => ?_,fun i hi => ?_,fun i e k xs hi => ?_,fun i e cs hi => ?_,fun i s p hi => ?_⟩
  ·rw [rhoOf_get (hfirst i hi) (by omega)]
   exact st.s.rho i hi
  ·rw [hget i (lt_of_get hi),hgd (st.s.dead i hi)]
   rfl
  ·rw [hget i (lt_of_get hi)]
   rcases st.s.arr i e k xs hi with h|⟨xs',h,h2,h3⟩
   ·exact .inl (by rw [hgd h]; rfl)
   ·exact .inr ⟨xs',by rw [hgd h]; rfl,h2,h3⟩
  ·rw [hget i (lt_of_get hi)]
   rcases st.s.box i e cs hi with h|⟨cs',h⟩
   ·exact .inl (by rw [hgd h]; rfl)
   ·exact .inr ⟨_,by rw [hgd h]; rfl⟩
  ·rw [hget i (lt_of_get hi)]
   rcases st.s.iter i s p hi with h|⟨p',h⟩
   ·exact .inl (by rw [hgd h]; rfl)
   ·exact .inr ⟨p',by rw [hgd h]; rfl⟩
theorem ids_first {nin:Nat}{ds:List DV}{H:Heap} : ∀ i,i<nin→(idsOf nin ds H)[i]? = some i:=fun i hi=>by
 obtain ⟨_,more,hids⟩:=idsOf_spec nin ds H
 rw [hids,List.getElem?_append_left (by simpa using hi),List.getElem?_range hi]
theorem pack_st (st:StR c ρ env H tmps w)(keep:List Nat) : ∃ ρ',StR c ρ' (keep.zip (packD c.H0.length keep env H)) (packH c.H0.length keep env H) tmps w:=by
 have hl:=st.h.len
 obtain ⟨hp,st'⟩:=pack_any st (idsOf_spec c.H0.length (keep.map (get env)) H).1 ids_first
 refine ⟨_,⟨st'.h,fun n => ?_,st'.k,st'.s,st'.o⟩⟩
 have e1:packD c.H0.length keep env H=keep.map fun n=>ren (idsOf c.H0.length (keep.map (get env)) H) (get env n):=by
  unfold packD
  simp only [renL_eq,List.map_map]
  rfl
 rw [e1,get_zip]
 split
 ·exact RD_pack hp hl _ _ _ (st.e n)
 ·unfold RD; trivial
theorem compGOp_inv {ops:Array Oper}{o:Oper}{g:GOp}(h:compGOp P nt ops o=some g):compOp P o.op=some g.op∧o.dst=g.d∧(∀ n,o.dst=some n→n<nt) ∧
  ((o.guard=none∧g.g=none) ∨ ∃ j n b,o.guard=some (j,b)∧g.g=some (n,b)∧(ops[j]?).bind (·.dst)=some n∧n<nt):=by
 unfold compGOp at h
 split at h
 ·rename_i gg io h1 h2
  have hg:(o.guard=none∧gg=none) ∨ ∃ j n b,o.guard=some (j,b)∧gg=some (n,b)∧(ops[j]?).bind (·.dst)=some n∧n<nt:=by
   unfold compGuard at h1
   split at h1
   ·injection h1 with h1
    exact .inl ⟨by assumption,h1.symm⟩
   ·rename_i j b hgu
    split at h1
    ·rename_i d hd
     split at h1
     ·rename_i hlt
      injection h1 with h1
      exact .inr ⟨j,d,b,hgu,h1.symm,hd,hlt⟩
     ·cases h1
    ·cases h1
  split at h
  ·rename_i hd
   injection h with h
   subst h
   exact ⟨h2,hd,(fun n hn=>by rw [hd] at hn; cases hn),hg⟩
  ·rename_i d hd
   split at h
   ·rename_i hlt
    injection h with h
    subst h
    exact ⟨h2,hd,(fun n hn=>by rw [hd] at hn; cases hn; exact hlt),hg⟩
   ·cases h
 ·cases h
theorem dops_plain (hM:Sane P M){ops:Array Oper}{Q:Exit→Act→World→Prop}{Kf:Env→Heap→Prop}(hK : ∀ ρ env H a w,Kf env H→Fr c nt ρ env H a w→Q .normal a w) :
  ∀ (l:List Oper) (gs:List GOp),compGOps P nt ops l=some gs → ∀ ρ env H a w,Fr c nt ρ env H a w→dops M false gs env H Kf→wpList P ops Q l a w
 | [],gs,hc,ρ,env,H,a,w,hf,h=>by
  simp [compGOps] at hc
  subst hc
  exact hK _ _ _ _ _ h hf
 | o::l,gs,hc,ρ,env,H,a,w,hf,h=>by
  simp only [compGOps] at hc
  cases h1:compGOp P nt ops o with
  | none=>simp [h1] at hc
  | some g =>
   cases h2:compGOps P nt ops l with
   | none=>simp [h1,h2] at hc
   | some r =>
    simp [h1,h2] at hc
    subst hc
    obtain ⟨hop,hdst,hlt,hg⟩:=compGOp_inv h1
    obtain ⟨gg,gd,gop⟩:=g
    simp only at hop hdst hg
    have hrun:(dop gop env H).run M false (fun v H'=>splitK (asked gd r) v fun v=>dops M false r (setE env gd v) H' Kf)→o.wp P a w (wpList P ops Q l) Q:=fun h=>by
     refine op_plain hM hop hf.1 h o rfl _ _ fun v d ρ' H' w' hk st' hd => ?_
     obtain ⟨d',hk',hd'⟩:=split_rel hk hd
     have hf':Fr c nt ρ' env H' a w':=⟨st',hf.2.1,hf.2.2⟩
     rw [← hdst] at hk'
     exact dops_plain hM hK l r h2 _ _ _ _ _ (hf'.put hd' hlt) hk'
    rcases hg with ⟨g1,g2⟩|⟨j,n,b,g1,g2,g3,g4⟩
    ·subst g2
     simp only [dops] at h
     have hw:Region.wanted o (yielded ops a.tmps)=true:=by simp [Region.wanted,g1]
     simp only [wpList,hw,if_true]
     exact .inl (hrun h)
    ·subst g2
     simp only [dops] at h
     rcases guard_rel hf.1.e (by rw [hf.2.2]; exact g4) g3 g1 h with ⟨hw,h⟩|⟨hw,h⟩
     ·simp only [wpList,hw,if_true]
      exact .inl (hrun h)
     ·simp only [wpList,hw,Bool.false_eq_true,if_false]
      rw [← hdst] at h
      exact dops_plain hM hK l r h2 _ _ _ _ _ (hf.put rd_undef hlt) h
theorem dops_quiet (hM:Sane P M){ops:Array Oper}{Qa:Act→Prop}{Kf:Env→Heap→Prop}(hK : ∀ env a,Kf env H→Fr c nt ρ env H a w→Qa a) :
  ∀ (l:List Oper) (gs:List GOp),compGOps P nt ops l=some gs→(∀ g∈gs,g.op.quiet=true) → ∀ env a,Fr c nt ρ env H a w→dops M true gs env H Kf→wpQuiet P ops (Later w) Qa l a
 | [],gs,hc,_,env,a,hf,h=>by
  simp [compGOps] at hc
  subst hc
  exact hK _ _ h hf
 | o::l,gs,hc,hqs,env,a,hf,h=>by
  simp only [compGOps] at hc
  cases h1:compGOp P nt ops o with
  | none=>simp [h1] at hc
  | some g =>
   cases h2:compGOps P nt ops l with
   | none=>simp [h1,h2] at hc
   | some r =>
    simp [h1,h2] at hc
    subst hc
    obtain ⟨hop,hdst,hlt,hg⟩:=compGOp_inv h1
    have hq:g.op.quiet=true:=hqs g (by simp)
    have hqr : ∀ g∈r,g.op.quiet=true:=fun g hg=>hqs g (by simp [hg])
    obtain ⟨gg,gd,gop⟩:=g
    simp only at hop hdst hg hq
    have hrun:(dop gop env H).run M true (fun v H'=>splitK (asked gd r) v fun v=>dops M true r (setE env gd v) H' Kf)→o.quiet P a (Later w) (wpQuiet P ops (Later w) Qa l):=fun h=>by
     have fin : ∀ d v,splitK (asked gd r) d (fun v=>dops M true r (setE env gd v) H Kf)→RD w (c.X ρ H) ρ H d v→wpQuiet P ops (Later w) Qa l (a.put o.dst v):=fun d v hk hd=>by
      obtain ⟨d',hk',hd'⟩:=split_rel hk hd
      rw [← hdst] at hk'
      exact dops_quiet hM hK l r h2 hqr _ _ (hf.put hd' hlt) hk'
     by_cases hcall : ∃ f as,gop = .call f as
     ·obtain ⟨f,as,rfl⟩:=hcall
      obtain ⟨args,tys,fn,ho,hfn,hb,hxs⟩:=compOp_call hop
      obtain ⟨d,v,k1,k2,k3⟩:=hM.quiet h hf.1 (compXs_toArray hf.1.e hxs)
      refine ⟨v,fun w' hw' => ?_,fin d v k1 k2⟩
      unfold Oper.quietAt
      rw [run_call hfn hb o ho]
      exact ⟨rfl,(k3 w' hw').mono fun e w'' ⟨he,hl⟩=>⟨he,hw'.trans hl⟩⟩
     ·obtain ⟨d,v,k1,k2,k3⟩:=op_quiet (B:=fun _=>True) hop hq (fun f as e=>hcall ⟨f,as,e⟩) hf.1 h o rfl (fun _ _ _=>trivial) (fun _ _ _ _ _ _ _ _ _ _=>trivial)
      refine ⟨v,fun w' hw' => ?_,fin d v k1 k2⟩
      unfold Oper.quietAt
      rw [k3 w' hw'.a.b]
      exact ⟨rfl,rfl⟩
    rcases hg with ⟨g1,g2⟩|⟨j,n,b,g1,g2,g3,g4⟩
    ·subst g2
     simp only [dops] at h
     have hw:Region.wanted o (yielded ops a.tmps)=true:=by simp [Region.wanted,g1]
     simp only [wpQuiet,hw,if_true]
     exact hrun h
    ·subst g2
     simp only [dops] at h
     rcases guard_rel hf.1.e (by rw [hf.2.2]; exact g4) g3 g1 h with ⟨hw,h⟩|⟨hw,h⟩
     ·simp only [wpQuiet,hw,if_true]
      exact hrun h
     ·simp only [wpQuiet,hw,Bool.false_eq_true,if_false]
      rw [← hdst] at h
      exact dops_quiet hM hK l r h2 hqr _ _ (hf.put rd_undef hlt) h
end
end Go.Dv
namespace Go.Dv
section
variable {P:Program} {ops:Array Oper} {Q:Exit→Act→World→Prop} {S:World→Prop} {T:Nat→Bool}
def wpAnyT (P:Program)(ops:Array Oper)(Q:Exit→Act→World→Prop)(S:World→Prop)(T:Nat→Bool):Nat→Array Bool→Act→World→Prop
 | 0,listed,a,w=>Region.ready .any ops listed=[]∧Q .normal a w
 | fuel+1,listed,a,w =>
  (Region.ready .any ops listed=[]→Q .normal a w) ∧
  ∀ i∈Region.ready .any ops listed,wpOp P ops Q i (fun a' w'=>(T i=false→S w')∧wpAnyT P ops Q S T fuel (listed.setIfInBounds i true) a' w') a w
theorem wpAny_of_T : ∀ (fuel:Nat) (listed:Array Bool) (a:Act) (w:World),wpAnyT P ops Q S T fuel listed a w→wpAny P .any ops Q fuel listed a w
 | 0,_,_,_,h=>h
 | fuel+1,_,_,_,h=>⟨h.1,fun i hi=>wpOp_mono (fun a' w' h'=>wpAny_of_T fuel _ a' w' h'.2) (h.2 i hi)⟩
theorem wpAnyT_first {i:Nat}{oi:Oper}{v:Value}(hi:ops[i]? = some oi)(hsel:Region.noSelect ops=true)(hT : ∀ j,T j=true→waits ops j i=true)
  (hQ : ∀ c a w,Q (.panic c) (a.put oi.dst v) w→Q (.panic c) a w) :
  ∀ (fuel:Nat) (listed:Array Bool) (a:Act) (w:World),
   (∀ j oj,ops[j]? = some oj→j≠i→listed.getD j true=false→(∀ e∈oj.after,Region.binds .any e=true→e.on≠i)→oi.apart ops oj=true) →
   i∈Region.ready .any ops listed→YieldsIf P ops S oi v a→S w →
   wpAnyT P ops Q S T fuel (listed.setIfInBounds i true) (a.put oi.dst v) w→wpAnyT P ops Q S T (fuel+1) listed a w:=by
 have hsel:=Region.noSelect_spec hsel
 intro fuel
 induction fuel with
 | zero =>
  intro listed a w _ hr hy hS H
  refine ⟨fun h=>(by rw [h] at hr; cases hr),fun j hj => ?_⟩
  by_cases hji:j=i
  ·subst hji; exact hy.wpOp hi hS ⟨fun _=>hS,H⟩
  ·have:=ready_mono hj hji
   rw [H.1] at this
   cases this
 | succ fuel ih =>
  intro listed a w hfree hr hy hS H
  refine ⟨fun h=>(by rw [h] at hr; cases hr),fun j hj => ?_⟩
  by_cases hji:j=i
  ·subst hji; exact hy.wpOp hi hS ⟨fun _=>hS,H⟩
  ·have h1:=H.2 j (ready_mono hj hji)
   obtain ⟨hjun,oj,hoj,hall⟩:=mem_ready.1 hj
   have hnot : ∀ e∈oj.after,Region.binds .any e=true→e.on≠i:=fun e he hb heq=>by
    have h1:=hall e he hb
    have h0:=(mem_ready.1 hr).1
    rw [heq] at h1
    rcases Nat.lt_or_ge i listed.size with h'|h'
    ·simp [h'] at h0 h1; rw [h0] at h1; cases h1
    ·simp [Array.getElem?_eq_none h'] at h1
   have hTj:T j=false:=by
    cases hh:T j with
    | false=>rfl
    | true =>
     have:=hT j hh
     unfold waits at this
     rw [hoj] at this
     obtain ⟨e,he,hb⟩:=Array.any_eq_true'.1 this
     simp only [Bool.and_eq_true,beq_iff_eq] at hb
     exact (hnot e he hb.1 hb.2).elim
   have h2:=wpOp_putIf hoj (hfree j oj hoj hji hjun hnot) (fun cs b=>hsel i oi cs b hi) (fun cs b=>hsel j oj cs b hoj) hQ hy h1
   have hfree' : ∀ k ok,ops[k]? = some ok→k≠i→(listed.setIfInBounds j true).getD k true=false →
     (∀ e∈ok.after,Region.binds .any e=true→e.on≠i)→oi.apart ops ok=true:=fun k ok hk hki hun hno=>by
    refine hfree k ok hk hki ?_ hno
    by_cases hjk:j=k
    ·subst hjk; exact hjun
    ·rw [getD_set_ne true hjk] at hun; exact hun
   refine wpOp_mono (fun a' w' h3=>⟨h3.2.1,ih (listed.setIfInBounds j true) a' w' hfree' (ready_mono hr (Ne.symm hji)) h3.1 (h3.2.1 hTj) ?_⟩) h2
   rw [Array.setIfInBounds_comm _ _ hji]
   exact h3.2.2
end
end Go.Dv
namespace Go.Dv
section
variable {c:Cx} {ρ : Rho} {env:Env} {H:Heap} {w:World} {tmps:Array Value}
theorem unhide_length : ∀ (hs:List Nat) (H H':Heap),(unhide hs H H').length=H'.length
 | [],_,_=>rfl
 | i::is,H,H'=>by simp only [unhide,setL_length,unhide_length is H H']
theorem unhide_get : ∀ (hs:List Nat) (H H':Heap) (i:Nat),(∀ i∈hs,i<H'.length)→(unhide hs H H')[i]? = if i∈hs then some (H.getD i .dead) else H'[i]?
 | [],H,H',i,_=>by simp [unhide]
 | j::is,H,H',i,hb=>by
  simp only [unhide,setL_get,unhide_get is H H' i (fun k hk=>hb k (by simp [hk])),unhide_length,List.mem_cons]
  by_cases h1:i=j
  ·subst h1
   simp [hb i (by simp)]
  ·simp [h1]
def hideC (c:Cx)(w:World)(ρ : Rho)(H:Heap)(hs:List Nat):Cx:=⟨w,fun b=>c.O0 b∨(ownB ρ H b ∧ ¬ ownB ρ (hideH hs H) b),ρ,hideH hs H⟩
theorem hide_st (st:StR c ρ env H tmps w)(hs:List Nat):StR (hideC c w ρ H hs) ρ env (hideH hs H) tmps w:=by
 have hp:Pres w (c.X ρ H) w ((hideC c w ρ H hs).X ρ (hideH hs H)):=⟨Nat.le_refl _,fun b _ hn=>⟨rfl,fun h=>hn (by
  rcases h with (h|h)|h
  ·exact .inl h
  ·exact .inr h.1
  ·exact .inr (hide_own h))⟩⟩
 have hstep:=hide_step (w:=w) (ρ := ρ) (H:=H) hs
 refine ⟨⟨by rw [hideH_length]; exact st.h.len,fun i ob hi => ?_,fun i j b oi oj hi li hj lj ri rj => ?_,fun b hb => .inr hb⟩,fun n=>RD_mono hp hstep _ _ (st.e n),⟨rfl,rfl,rfl,Nat.le_refl _,fun b _ hn=>⟨rfl,hn⟩⟩,
  ⟨fun _ _=>rfl,fun _ h=>h,fun _ _ _ xs h => .inr ⟨xs,h,Nat.le_refl _,fun b cur _ hc=>⟨cur,hc,rfl⟩⟩,fun _ _ cs h => .inr ⟨cs,h⟩,fun _ _ p h => .inr ⟨p,h⟩⟩,fun b hb => ?_⟩
 ·by_cases hl:ob.live=true
  ·exact obRel_mono hp hstep rfl (fun _ _ _=>rfl) (st.h.ob i ob (hide_live hi hl).2)
  ·cases ob with
   | dead=>trivial
   | arr=>exact (hl rfl).elim
   | box=>exact (hl rfl).elim
   | iter=>exact (hl rfl).elim
 ·exact st.h.inj i j b oi oj (hide_live hi li).2 li (hide_live hj lj).2 lj ri rj
 ·rcases hb with hb|⟨hb,hn⟩
  ·obtain ⟨h1,h2⟩:=st.o b hb
   obtain ⟨_,h3⟩:=st.k.keep b h1 h2
   exact ⟨Nat.lt_of_lt_of_le h1 st.k.size,fun h=>h3 (hide_own h)⟩
  ·obtain ⟨i,ob,h1,h2,h3⟩:=hb
   exact ⟨own_lt st h1 h2 h3,hn⟩
theorem RD_frame {X X':Nat→Prop}{ρ : Rho}{H H':Heap}{hs:List Nat}(hp:Pres w X w X')(hH : ∀ i,i ∉ hs→H'[i]? = H[i]?) :
  ∀ n,(∀ (d:DV) (v:Value),SizeOf.sizeOf d≤n→(∀ i∈hs,i ∉ refs d)→RD w X ρ H d v→RD w X' ρ H' d v) ∧
   (∀ (ds:List DV) (vs:List Value),SizeOf.sizeOf ds≤n→(∀ i∈hs,i ∉ refsL ds)→(RDs w X ρ H ds vs→RDs w X' ρ H' ds vs)∧(RDt w X ρ H ds vs→RDt w X' ρ H' ds vs)):=by
 intro n
 induction n with
 | zero =>
  refine ⟨fun x v hx => ?_,fun xs vs hx => ?_⟩
  ·cases x<;>simp at hx
  ·cases xs<;>simp at hx
 | succ n ih =>
  refine ⟨fun x v hx hr h => ?_,fun xs vs hx hr=>⟨fun h => ?_,fun h => ?_⟩⟩
  ·cases x with
   | any=>unfold RD; trivial
   | undef=>unfold RD at h ⊢; exact h
   | p x=>unfold RD at h ⊢; exact RP_mono hp x v h
   | nil=>unfold RD at h ⊢; exact h
   | own i off len =>
    have hi:i ∉ hs:=fun hi=>hr i hi (by simp [refs])
    unfold RD ownRel at h ⊢
    rw [hH i hi]
    exact h
   | ptr i j f =>
    have hi:i ∉ hs:=fun hi=>hr i hi (by simp [refs])
    unfold RD ptrRel at h ⊢
    rw [hH i hi]
    exact h
   | rptr k xs j f =>
    unfold RD at h ⊢
    obtain ⟨b,o,hv,hbb,hX,hrr,hj⟩:=h
    obtain ⟨e,n⟩:=hp.keep b hbb hX
    exact ⟨b,o,hv,hbb,n,RRow_mono hp k b e o xs hrr,hj⟩
   | agg cs =>
    unfold RD at h ⊢
    obtain ⟨vs,hv,h⟩:=h
    exact ⟨vs,hv,(ih.2 cs vs (by simp at hx; omega) (fun i hi=>by have:=hr i hi; simpa [refs] using this)).1 h⟩
   | tup cs =>
    unfold RD at h ⊢
    obtain ⟨vs,hv,h⟩:=h
    exact ⟨vs,hv,(ih.2 cs vs (by simp at hx; omega) (fun i hi=>by have:=hr i hi; simpa [refs] using this)).2 h⟩
  ·cases xs with
   | nil=>unfold RDs at h ⊢; exact h
   | cons x xs =>
    unfold RDs at h ⊢
    obtain ⟨v,vs',hv,h1,h2,h3⟩:=h
    simp at hx
    exact ⟨v,vs',hv,h1,ih.1 x v (by omega) (fun i hi hh=>hr i hi (by simp [refsL,hh])) h2,(ih.2 xs vs' (by omega) (fun i hi hh=>hr i hi (by simp [refsL,hh]))).1 h3⟩
  ·cases xs with
   | nil=>unfold RDt at h ⊢; exact h
   | cons x xs =>
    unfold RDt at h ⊢
    obtain ⟨v,vs',hv,h2,h3⟩:=h
    simp at hx
    exact ⟨v,vs',hv,ih.1 x v (by omega) (fun i hi hh=>hr i hi (by simp [refsL,hh])) h2,(ih.2 xs vs' (by omega) (fun i hi hh=>hr i hi (by simp [refsL,hh]))).2 h3⟩
theorem get_news {news env:Env}{n:Nat}:get (news++env) n=if n∈news.map (·.1) then get news n else get env n:=by
 induction news with
 | nil=>simp
 | cons p ps ih =>
  obtain ⟨m,v⟩:=p
  simp only [List.cons_append,get,List.map_cons,List.mem_cons]
  by_cases h:m=n
  ·simp [h]
  ·have h' : ¬ n=m:=fun e=>h e.symm
   rw [if_neg h,ih]
   by_cases hm:n∈ps.map (·.1)
   ·rw [if_pos hm,if_pos (Or.inr hm),if_neg h]
   ·rw [if_neg hm,if_neg (fun e=>Or.elim e h' hm)]
theorem get_mem : ∀ {news:Env} {n:Nat},n∈news.map (·.1)→get news n∈news.map (·.2)
 | [],_,h=>by simp at h
 | (m,v)::ps,n,h=>by
  simp only [get,List.map_cons,List.mem_cons] at h ⊢
  by_cases e:m=n
  ·simp [e]
  ·rw [if_neg e]
   rcases h with h|h
   ·exact (e h.symm).elim
   ·exact .inr (get_mem h)
theorem refs_mem : ∀ {ds:List DV} {d:DV} {i:Nat},d∈ds→i∈refs d→i∈refsL ds
 | [],_,_,h,_=>by cases h
 | x::xs,d,i,h,hi=>by
  simp only [refsL,List.mem_append]
  rcases List.mem_cons.1 h with rfl|h
  ·exact .inl hi
  ·exact .inr (refs_mem h hi)
theorem unhide_st {hs:List Nat}{ρ1 ρ2:Rho}{env1 news:Env}{H1 H2:Heap}{tmps1 tmps2:Array Value}{w1 w2:World}(st:StR c ρ1 env1 H1 tmps1 w1)(st2:StR (hideC c w1 ρ1 H1 hs) ρ2 (news++env1) H2 tmps2 w2)
  (hb : ∀ i∈hs,i<H1.length) (hok:hideOK hs news H2) (hsame : ∀ n,n ∉ news.map (·.1)→tmps2.getD n undef=tmps1.getD n undef):StR c ρ2 (news++env1) (unhide hs H1 H2) tmps2 w2:=by
 have hl:H1.length≤H2.length:=by have:=st2.lenH0; simpa [hideC,hideH_length] using this
 have hb2 : ∀ i∈hs,i<H2.length:=fun i hi=>Nat.lt_of_lt_of_le (hb i hi) hl
 have hget : ∀ i,(unhide hs H1 H2)[i]? = if i∈hs then some (H1.getD i .dead) else H2[i]? := fun i=>unhide_get hs H1 H2 i hb2
 have hH1 : ∀ i,i∈hs→H1[i]? = some (H1.getD i .dead):=fun i hi=>by
  rw [List.getD_eq_getElem?_getD,List.getElem?_eq_getElem (hb i hi)]
  rfl
 have hrho : ∀ i,i<H1.length → ρ2[i]? = ρ1[i]? := fun i hi=>st2.s.rho i (by simpa [hideC,hideH_length] using hi)
 have hhid : ∀ i∈hs,∀ ob b,H1[i]? = some ob→ob.live=true → ρ1[i]? = some (some b) → ¬ ownB ρ1 (hideH hs H1) b:=fun i hi ob b h1 h2 h3 h=>by
  obtain ⟨j,oj,g1,g2,g3⟩:=h
  obtain ⟨k1,k2⟩:=hide_live g1 g2
  have:=st.h.inj i j b _ _ h1 h2 k2 g2 h3 g3
  subst this
  exact k1 hi
 have hkeep : ∀ b,b<w1.heap.size → ¬ ownB ρ1 (hideH hs H1) b→w2.heap[b]? = w1.heap[b]? ∧ ¬ ownB ρ2 H2 b:=st2.k.keep
 have hown : ∀ b,ownB ρ2 (unhide hs H1 H2) b→ownB ρ2 H2 b∨(ownB ρ1 H1 b ∧ ¬ ownB ρ1 (hideH hs H1) b):=fun b h=>by
  obtain ⟨i,ob,h1,h2,h3⟩:=h
  rw [hget] at h1
  split at h1
  ·rename_i hi
   rw [← hH1 i hi] at h1
   rw [hrho i (hb i hi)] at h3
   exact .inr ⟨⟨i,ob,h1,h2,h3⟩,hhid i hi ob b h1 h2 h3⟩
  ·exact .inl ⟨i,ob,h1,h2,h3⟩
 have hstep:HStep w1 ρ1 H1 w2 ρ2 (unhide hs H1 H2):=by
  have hide_get : ∀ i,i ∉ hs→(hideH hs H1)[i]? = H1[i]? := fun i hi=>by rw [hideH_get,if_neg hi]
  refine ⟨hrho,fun i hi => ?_,fun i e k xs hi => ?_,fun i e cs hi => ?_,fun i s p hi => ?_⟩
  ·rw [hget]
   split
   ·rename_i hin
    rw [← hH1 i hin,hi]
   ·rename_i hin
    exact st2.s.dead i (by show (hideH hs H1)[i]? = _; rw [hide_get i hin,hi])
  ·rw [hget]
   split
   ·rename_i hin
    refine .inr ⟨xs,by rw [← hH1 i hin,hi],Nat.le_refl _,fun b cur hbb hc=>⟨cur,?_,rfl⟩⟩
    rw [(hkeep b (Array.getElem?_eq_some_iff.1 hc).1 (hhid i hin _ b hi rfl hbb)).1]
    exact hc
   ·rename_i hin
    exact st2.s.arr i e k xs (by show (hideH hs H1)[i]? = _; rw [hide_get i hin,hi])
  ·rw [hget]
   split
   ·rename_i hin
    exact .inr ⟨cs,by rw [← hH1 i hin,hi]⟩
   ·rename_i hin
    exact st2.s.box i e cs (by show (hideH hs H1)[i]? = _; rw [hide_get i hin,hi])
  ·rw [hget]
   split
   ·rename_i hin
    exact .inr ⟨p,by rw [← hH1 i hin,hi]⟩
   ·rename_i hin
    exact st2.s.iter i s p (by show (hideH hs H1)[i]? = _; rw [hide_get i hin,hi])
 have hp2:Pres w2 ((hideC c w1 ρ1 H1 hs).X ρ2 H2) w2 (c.X ρ2 (unhide hs H1 H2)):=⟨Nat.le_refl _,fun b _ hn=>⟨rfl,fun h=>hn (by
  rcases h with h|h
  ·exact .inl (.inl h)
  ·rcases hown b h with h|h
   ·exact .inr h
   ·exact .inl (.inr h))⟩⟩
 have hfr : ∀ i,i ∉ hs→(unhide hs H1 H2)[i]? = H2[i]? := fun i hi=>by rw [hget,if_neg hi]
 have stn:StR c ρ2 env1 (unhide hs H1 H2) tmps1 w2:=by
  refine st.next st2.k.os st2.k.tape st2.k.output st2.k.size (fun b hbb hn => ?_) hstep st.lenH0 fun hp => ?_
  ·obtain ⟨e,n⟩:=hkeep b hbb fun h=>hn (hide_own h)
   exact ⟨e,fun h=>(hown b h).elim n fun h=>hn h.1⟩
  ·refine ⟨by rw [unhide_length]; exact st2.h.len,fun i ob hi => ?_,fun i j b oi oj hi li hj lj ri rj => ?_,fun b hbb => .inr hbb⟩
   ·have hi':=hi
    rw [hget] at hi'
    split at hi'
    ·rename_i hin
     rw [← hH1 i hin] at hi'
     exact obRel_mono hp hstep (hrho i (hb i hin)) (fun hlv b hbb=>(hkeep b (own_lt st hi' hlv hbb) (hhid i hin ob b hi' hlv hbb)).1) (st.h.ob i ob hi')
    ·rename_i hin
     have h:=st2.h.ob i ob hi'
     cases ob with
     | dead=>trivial
     | arr e k xs =>
      obtain ⟨hk0,h⟩:=h
      refine ⟨hk0,?_⟩
      rcases h with h|⟨b,cur,a1,a2,a3,a4⟩
      ·exact .inl h
      ·exact .inr ⟨b,cur,a1,a2,a3,RRow_mono hp2 k b rfl 0 xs a4⟩
     | box e cs =>
      obtain ⟨b,cur,a1,a2,a3⟩:=h
      refine ⟨b,cur,a1,a2,((RD_frame hp2 hfr (SizeOf.sizeOf cs)).2 cs _ (Nat.le_refl _) fun j hj hjr=>(hok j hj).2 ?_).1 a3⟩
      exact List.mem_flatMap.2 ⟨_,List.mem_of_getElem? hi',hjr⟩
     | iter s p=>exact h
   ·have key : ∀ {i j:Nat} {oi oj:OB},i∈hs→j ∉ hs→H1[i]? = some oi→oi.live=true → ρ1[i]? = some (some b)→H2[j]? = some oj→oj.live=true → ρ2[j]? = some (some b)→False:=fun {i j oi oj} g1 _ g3 g4 g5 g6 g7 g8 =>
     (hkeep b (own_lt st g3 g4 g5) (hhid i g1 _ b g3 g4 g5)).2 ⟨j,oj,g6,g7,g8⟩
    rw [hget] at hi hj
    split at hi<;>split at hj
    ·rename_i h1 h2
     rw [← hH1 _ h1] at hi
     rw [← hH1 _ h2] at hj
     rw [hrho i (hb i h1)] at ri
     rw [hrho j (hb j h2)] at rj
     exact st.h.inj i j b oi oj hi li hj lj ri rj
    ·rename_i h1 h2
     rw [← hH1 _ h1] at hi
     rw [hrho i (hb i h1)] at ri
     exact (key h1 h2 hi li ri hj lj rj).elim
    ·rename_i h1 h2
     rw [← hH1 _ h2] at hj
     rw [hrho j (hb j h2)] at rj
     exact (key h2 h1 hj lj rj hi li ri).elim
    ·exact st2.h.inj i j b oi oj hi li hj lj ri rj
 refine ⟨stn.h,fun n => ?_,stn.k,stn.s,stn.o⟩
 rw [get_news]
 split
 ·rename_i hn
  have h:=st2.e n
  rw [get_news,if_pos hn] at h
  exact (RD_frame hp2 hfr _).1 _ _ (Nat.le_refl _) (fun i hi hr=>(hok i hi).1 (refs_mem (get_mem hn) hr)) h
 ·rename_i hn
  rw [hsame n hn]
  exact stn.e n
end
end Go.Dv
namespace Go.Dv
section
variable {P:Program} {ops:Array Oper} {Q:Exit→Act→World→Prop} {S:World→Prop} {T:Nat→Bool} {c:Cx} {nt:Nat} {ρ : Rho} {env:Env} {H:Heap} {w:World} {M:Md} {a:Act} {gs:List GOp} {n:Nat}
theorem compGOps_get : ∀ {l:List Oper} {gs:List GOp},compGOps P nt ops l=some gs→gs.length=l.length ∧ ∀ (i:Nat) (g:GOp),gs[i]? = some g → ∃ o,l[i]? = some o∧compGOp P nt ops o=some g
 | [],gs,h=>by
  simp [compGOps] at h
  subst h
  exact ⟨rfl,fun i g h=>by simp at h⟩
 | o::l,gs,h=>by
  simp only [compGOps] at h
  cases h1:compGOp P nt ops o with
  | none=>simp [h1] at h
  | some g =>
   cases h2:compGOps P nt ops l with
   | none=>simp [h1,h2] at h
   | some r =>
    simp [h1,h2] at h
    subst h
    obtain ⟨e1,e2⟩:=compGOps_get h2
    refine ⟨by simp [e1],fun i g' hi => ?_⟩
    cases i with
    | zero=>simp at hi; subst hi; exact ⟨o,rfl,h1⟩
    | succ i=>simpa using e2 i g' (by simpa using hi)
theorem gs_get (hgs:compGOps P nt ops ops.toList=some gs){i:Nat}{g:GOp}(h:gs[i]? = some g) : ∃ o,ops[i]? = some o∧compGOp P nt ops o=some g:=by
 obtain ⟨o,h1,h2⟩:=(compGOps_get hgs).2 i g h
 exact ⟨o,by simpa using h1,h2⟩
theorem gop_wp (hM:Sane P M){o:Oper}{g:GOp}{r:List GOp}{i:Nat}{K:Env→Heap→Prop}{R:Act→World→Prop}(hi:ops[i]? = some o)(hc:compGOp P nt ops o=some g)(hf:Fr c nt ρ env H a w)(h:dops M false (g::r) env H K)
  (hR : ∀ ρ' d v H' w',dops M false r (setE env g.d d) H' K→Fr c nt ρ' (setE env g.d d) H' (a.put o.dst v) w'→R (a.put o.dst v) w'):wpOp P ops Q i R a w:=by
 obtain ⟨hop,hdst,hlt,hg⟩:=compGOp_inv hc
 obtain ⟨gg,gd,gop⟩:=g
 simp only at hop hdst hg hR
 have hrun:(dop gop env H).run M false (fun v H'=>splitK (asked gd r) v fun v=>dops M false r (setE env gd v) H' K)→o.wp P a w R Q:=fun h=>by
  refine op_plain hM hop hf.1 h o rfl _ _ fun v d ρ' H' w' hk st' hd => ?_
  obtain ⟨d',hk',hd'⟩:=split_rel hk hd
  have hf':Fr c nt ρ' env H' a w':=⟨st',hf.2.1,hf.2.2⟩
  have:=hf'.put hd' hlt
  rw [hdst] at this ⊢
  rw [← hdst] at this ⊢
  exact hR ρ' d' v H' w' hk' (by rw [← hdst]; exact this)
 unfold wpOp
 simp only [hi]
 rcases hg with ⟨g1,g2⟩|⟨j,m,b,g1,g2,g3,g4⟩
 ·subst g2
  simp only [dops] at h
  have hw:Region.wanted o (yielded ops a.tmps)=true:=by simp [Region.wanted,g1]
  simp only [hw,if_true]
  exact .inl (hrun h)
 ·subst g2
  simp only [dops] at h
  rcases guard_rel hf.1.e (by rw [hf.2.2]; exact g4) g3 g1 h with ⟨hw,h⟩|⟨hw,h⟩
  ·simp only [hw,if_true]
   exact .inl (hrun h)
  ·simp only [hw,Bool.false_eq_true,if_false]
   exact hR ρ .undef undef H w h (by rw [← hdst]; exact hf.put rd_undef hlt)
theorem load_live {g:Bool}{k i j f:Nat}{q:Bool}{K:DV→Heap→Prop}(h:(loadR g k (.ptr i j f) H).run M q K) : ∃ ob,H[i]? = some ob∧ob.live=true:=by
 simp only [loadR] at h
 split at h
 ·rename_i hH; exact ⟨_,hH,rfl⟩
 ·rename_i hH; exact ⟨_,hH,rfl⟩
 ·exact h.elim
theorem gop_yields {o:Oper}{g:GOp}{K:Env→Heap→Prop}{q:Bool}{B:Nat→Prop}(hc:compGOp P nt ops o=some g)(hq:g.op.quiet=true)(hcall:g.op.isCall=false)(hf:Fr c nt ρ env H a w)(h:dops M q [g] env H K)
  (hB:g.op.isLoad=true → ∀ b,¬ c.X ρ H b→B b) (hBp : ∀ ag k x i j f b ob,g.op = .load ag k x→ev env x = .ptr i j f → ρ[i]? = some (some b)→H[i]? = some ob→ob.live=true→B b) :
  ∃ v d,YieldsIf P ops (AgreeB B w) o v a∧K (setE env g.d d) H∧Fr c nt ρ (setE env g.d d) H (a.put o.dst v) w:=by
 obtain ⟨hop,hdst,hlt,hg⟩:=compGOp_inv hc
 obtain ⟨gg,gd,gop⟩:=g
 simp only at hop hdst hg hq hcall hB hBp
 have hncall : ∀ f as,gop ≠ .call f as:=fun f as e=>by subst e; simp [IOp.isCall] at hcall
 have hrun:Region.wanted o (yielded ops a.tmps)=true→(dop gop env H).run M q (fun v H'=>splitK (asked gd []) v fun v=>K (setE env gd v) H') →
   ∃ v d,YieldsIf P ops (AgreeB B w) o v a∧K (setE env gd d) H∧Fr c nt ρ (setE env gd d) H (a.put o.dst v) w:=fun hw h=>by
  obtain ⟨d,v,k1,k2,k3⟩:=op_quiet (B:=B) hop hq hncall hf.1 h o rfl hB fun ag k x i j f b e1 e2 e3=>by
   subst e1
   simp only [dop,e2] at h
   obtain ⟨ob,l1,l2⟩:=load_live h
   exact hBp ag k x i j f b ob rfl e2 e3 l1 l2
  obtain ⟨d',hk',hd'⟩:=split_rel k1 k2
  exact ⟨v,d',.inl ⟨hw,fun w' hw'=>k3 w' hw'⟩,hk',by rw [← hdst]; exact hf.put hd' hlt⟩
 rcases hg with ⟨g1,g2⟩|⟨j,m,b,g1,g2,g3,g4⟩
 ·subst g2
  simp only [dops] at h
  exact hrun (by simp [Region.wanted,g1]) h
 ·subst g2
  simp only [dops] at h
  rcases guard_rel hf.1.e (by rw [hf.2.2]; exact g4) g3 g1 h with ⟨hw,h⟩|⟨hw,h⟩
  ·exact hrun hw h
  ·exact ⟨undef,.undef,.inr ⟨hw,rfl⟩,h,by rw [← hdst]; exact hf.put rd_undef hlt⟩
theorem inB_mem : ∀ {hs:List Nat} {i:Nat},inB hs i→i∈hs
 | [],_,h=>h.elim
 | _::_,_,h=>h.elim (fun e=>by subst e; exact List.mem_cons_self) fun h=>List.mem_cons_of_mem _ (inB_mem h)
theorem takes_spec {ld:Bool}{listed:Array Bool}{i:Nat}(h:takes gs ops n ld listed i=true) :
  i<n∧(∃ g,gs[i]? = some g∧g.op.quiet=true∧g.op.isCall=false∧(ld=false→g.op.isLoad=false))∧Region.free .any ops listed i=true:=by
 unfold takes at h
 simp only [Bool.and_eq_true,decide_eq_true_eq] at h
 obtain ⟨⟨h1,h2⟩,h3⟩:=h
 refine ⟨h1,?_,h3⟩
 split at h2
 ·rename_i g hg
  simp only [Bool.and_eq_true,Bool.not_eq_true',Bool.or_eq_true] at h2
  exact ⟨g,hg,h2.1.1,h2.1.2,fun e=>by rcases h2.2 with h|h; (· rw [e] at h; cases h.1.1); (· exact h)⟩
 ·cases h2
theorem tail_waits (h:tailFrom ops n=true){i j:Nat}(hj:n≤j)(hjs:j<ops.size)(hi:i<n):waits ops j i=true:=by
 unfold tailFrom at h
 simp only [List.all_eq_true,List.mem_range,Bool.or_eq_true,decide_eq_true_eq] at h
 rcases h j hjs with h|h
 ·omega
 ·exact h i (by omega)
def keptB (ρ : Rho)(H:Heap)(hs:List Nat):Nat→Prop:=fun b => ¬ ownB ρ (hideH hs H) b
def tailB (n s:Nat):Nat→Bool:=fun j=>decide (n≤j∧j<s)
theorem hidden_kept (hh:HRel w (c.X ρ H) ρ H){hs:List Nat}{i b:Nat}{ob:OB}(hi:i∈hs)(h1:H[i]? = some ob)(h2:ob.live=true)(h3 : ρ[i]? = some (some b)):keptB ρ H hs b:=fun h=>by
 obtain ⟨j,oj,g1,g2,g3⟩:=h
 obtain ⟨k1,k2⟩:=hide_live g1 g2
 have:=hh.inj i j b _ _ h1 h2 k2 g2 h3 g3
 subst this
 exact k1 hi
theorem head_T (hgs:compGOps P nt ops ops.toList=some gs)(hsel:Region.noSelect ops=true)(htl:tailFrom ops n=true)(hQ : ∀ ch a w,¬ Q (.panic ch) a w){hs:List Nat}{m:Nat}{K:Env→Heap→Prop}{ld:Bool} :
  ∀ (f:Nat) (listed:Array Bool) (hds:List GOp) (env:Env) (a:Act),pickG gs (hdPlan ld gs ops n f listed)=some hds→Fr c nt ρ env H a w→dhead M hs hds env H K →
   (∀ env1 a1,Fr c nt ρ env1 H a1 w→K env1 H→wpAnyT P ops Q (AgreeB (keptB ρ H hs) w) (tailB n ops.size) m (listAll listed (hdPlan ld gs ops n f listed)) a1 w) →
   wpAnyT P ops Q (AgreeB (keptB ρ H hs) w) (tailB n ops.size) (hds.length+m) listed a w
 | 0,listed,hds,env,a,hp,hf,h,hk=>by
  simp only [hdPlan,pickG] at hp hk
  obtain rfl:=Option.some.inj hp
  simp only [dhead] at h
  simpa [listAll] using hk env a hf h
 | f+1,listed,hds,env,a,hp,hf,h,hk=>by
  simp only [hdPlan] at hp hk
  cases hfd:(Region.ready .any ops listed).find? (takes gs ops n ld listed) with
  | none =>
   simp only [hfd,pickG] at hp hk
   obtain rfl:=Option.some.inj hp
   simp only [dhead] at h
   simpa [listAll] using hk env a hf h
  | some i =>
   simp only [hfd,pickG,listAll] at hp hk
   have hr:=List.mem_of_find?_eq_some hfd
   obtain ⟨hin,⟨g,hg,hq,hcall,_⟩,hfree⟩:=takes_spec (List.find?_some hfd)
   obtain ⟨o,hio,hco⟩:=gs_get hgs hg
   rw [hg] at hp
   cases hrest:pickG gs (hdPlan ld gs ops n f (listed.setIfInBounds i true)) with
   | none=>simp [hrest] at hp
   | some rest =>
    simp [hrest] at hp
    subst hp
    simp only [dhead] at h
    obtain ⟨hload,h⟩:=h
    obtain ⟨v,d,hy,hd,hf'⟩:=gop_yields (B:=keptB ρ H hs) hco hq hcall hf h (fun _ b hn hb=>hn (.inr (hide_own hb))) fun ag k x i' j f b ob e1 e2 e3 e4 e5=>by
     unfold loadIn at hload
     rw [e1] at hload
     simp only [e2] at hload
     exact hidden_kept hf.1.h (inB_mem hload) e4 e5 e3
    have e:(g::rest).length+m=(rest.length+m)+1:=by simp; omega
    rw [e]
    refine wpAnyT_first hio hsel (fun j hj => ?_) (fun ch a w h=>(hQ ch _ _ h).elim) _ listed a w (Region.free_spec hio hfree) hr hy ⟨fun _ _ _=>rfl⟩ ?_
    ·simp only [tailB,decide_eq_true_eq] at hj
     exact tail_waits htl hj.1 hj.2 hin
    ·exact head_T hgs hsel htl hQ f _ rest _ _ hrest hf' hd fun env1 a1 h1 h2=>hk env1 a1 h1 h2
theorem alts_spec {f:Nat→Option DT}{env:Env}{H:Heap}{K:Env→Heap→Prop} : ∀ {is:List Nat} {t:DT},alts f is=some t→dtree M t env H K→is≠[] ∧ ∀ i∈is,∃ ti,f i=some ti∧dtree M ti env H K
 | [],t,h,_=>by simp [alts] at h
 | [i],t,h,hd=>by
  simp only [alts] at h
  exact ⟨by simp,fun j hj=>by simp at hj; subst hj; exact ⟨t,h,hd⟩⟩
 | i::k::is,t,h,hd=>by
  simp only [alts] at h
  cases h1:f i with
  | none=>simp [h1] at h
  | some x =>
   cases h2:alts f (k::is) with
   | none=>simp [h1,h2] at h
   | some y =>
    simp [h1,h2] at h
    subst h
    simp only [dtree] at hd
    obtain ⟨_,h3⟩:=alts_spec h2 hd.2
    refine ⟨by simp,fun j hj => ?_⟩
    rcases List.mem_cons.1 hj with rfl|hj
    ·exact ⟨x,h1,hd.1⟩
    ·exact h3 j hj
theorem put_getD {v:Value}{dst:Option Nat}{m:Nat}(h : ∀ d,dst=some d→m≠d):(a.put dst v).tmps.getD m undef=a.tmps.getD m undef:=by
 cases dst with
 | none=>rfl
 | some d =>
  have:=h d rfl
  simp only [Act.put,Array.getD_eq_getD_getElem?]
  rw [Array.getElem?_setIfInBounds_ne (Ne.symm this)]
theorem tree_T (hM:Sane P M)(hgs:compGOps P nt ops ops.toList=some gs)(hsel:Region.noSelect ops=true)(htl:tailFrom ops n=true)(hQ : ∀ ch a w,¬ Q (.panic ch) a w){hs:List Nat}{env1:Env}{tmps1:Array Value}{K:Env→Heap→Prop} :
  ∀ (f:Nat) (listed:Array Bool) (t:DT),treeOf gs ops n f listed=some t → ∀ (ρ2:Rho) (news:Env) (H2:Heap) (a2:Act) (w2:World),Fr (hideC c w ρ H hs) nt ρ2 (news++env1) H2 a2 w2 →
   (∀ m,m ∉ news.map (·.1)→a2.tmps.getD m undef=tmps1.getD m undef)→dtree M t (news++env1) H2 K →
   (∀ (listed:Array Bool) (ρ2:Rho) (news:Env) (H2:Heap) (a2:Act) (w2:World),tailOK ops (ops.size - n) n listed=true→Fr (hideC c w ρ H hs) nt ρ2 (news++env1) H2 a2 w2 →
    (∀ m,m ∉ news.map (·.1)→a2.tmps.getD m undef=tmps1.getD m undef)→K (news++env1) H2→wpAnyT P ops Q (AgreeB (keptB ρ H hs) w) (tailB n ops.size) (ops.size - n) listed a2 w2) →
   wpAnyT P ops Q (AgreeB (keptB ρ H hs) w) (tailB n ops.size) (f+(ops.size - n)) listed a2 w2:=by
 have hS : ∀ {ρ2 env2 H2 a2 w2},Fr (hideC c w ρ H hs) nt ρ2 env2 H2 a2 w2→AgreeB (keptB ρ H hs) w w2:=fun hf=>⟨fun b hb hB=>(hf.1.k.keep b hb hB).1⟩
 have hgrow : ∀ (news:Env) (g:GOp) (d:DV),∃ news',setE (news++env1) g.d d=news'++env1 ∧ ∀ m,m ∉ news'.map (·.1)→m ∉ news.map (·.1) ∧ ∀ k,g.d=some k→m≠k:=fun news g d=>by
  cases hd:g.d with
  | none=>exact ⟨news,rfl,fun m hm=>⟨hm,fun k e=>by cases e⟩⟩
  | some k =>
   refine ⟨(k,d)::news,rfl,fun m hm => ?_⟩
   simp only [List.map_cons,List.mem_cons,not_or] at hm
   exact ⟨hm.2,fun k' e=>by injection e with e; subst e; exact hm.1⟩
 intro f
 induction f with
 | zero =>
  intro listed t ht ρ2 news H2 a2 w2 hf hsame hd hfin
  simp only [treeOf] at ht
  split at ht
  ·rename_i htok
   obtain rfl:=Option.some.inj ht
   simp only [dtree] at hd
   rw [Nat.zero_add]
   exact hfin listed ρ2 news H2 a2 w2 htok hf hsame hd
  ·cases ht
 | succ f ih =>
  intro listed t ht ρ2 news H2 a2 w2 hf hsame hd hfin
  have e:f+1+(ops.size - n)=(f+(ops.size - n))+1:=by omega
  rw [e]
  simp only [treeOf] at ht
  cases hfd:(Region.ready .any ops listed).find? (takes gs ops n false listed) with
  | some i =>
   simp only [hfd] at ht
   have hr:=List.mem_of_find?_eq_some hfd
   obtain ⟨hin,⟨g,hg,hq,hcall,hnl⟩,hfree⟩:=takes_spec (List.find?_some hfd)
   obtain ⟨o,hio,hco⟩:=gs_get hgs hg
   obtain ⟨_,hdst,_,_⟩:=compGOp_inv hco
   rw [hg] at ht
   cases hrest:treeOf gs ops n f (listed.setIfInBounds i true) with
   | none=>simp [hrest] at ht
   | some t' =>
    simp [hrest] at ht
    subst ht
    simp only [dtree] at hd
    have hnl:=hnl rfl
    obtain ⟨v,d,hy,hd',hf'⟩:=gop_yields (B:=fun _=>False) hco hq hcall hf hd (fun h=>by rw [hnl] at h; cases h) fun ag k x i' j f b ob e1=>by rw [e1] at hnl; cases hnl
    have hy':YieldsIf P ops (AgreeB (keptB ρ H hs) w) o v a2:=hy.imp (fun h=>⟨h.1,fun w' _=>h.2 w' ⟨fun _ _ hb=>hb.elim⟩⟩) id
    refine wpAnyT_first hio hsel (fun j hj => ?_) (fun ch a w h=>(hQ ch _ _ h).elim) _ listed a2 w2 (Region.free_spec hio hfree) hr hy' (hS hf) ?_
    ·simp only [tailB,decide_eq_true_eq] at hj
     exact tail_waits htl hj.1 hj.2 hin
    ·obtain ⟨news',e1,e2⟩:=hgrow news g d
     rw [e1] at hd' hf'
     refine ih _ t' hrest ρ2 news' H2 _ w2 hf' (fun m hm => ?_) hd' hfin
     obtain ⟨m1,m2⟩:=e2 m hm
     rw [put_getD fun k hk=>m2 k (by rw [← hdst]; exact hk)]
     exact hsame m m1
  | none =>
   simp only [hfd] at ht
   split at ht
   ·rename_i hall
    obtain ⟨hne,hal⟩:=alts_spec ht hd
    refine ⟨fun h0=>(hne h0).elim,fun i hi => ?_⟩
    obtain ⟨ti,hti,hdi⟩:=hal i hi
    have hin:i<n:=by
     have:=List.all_eq_true.1 hall i hi
     simpa using this
    cases hg:gs[i]? with
    | none=>simp [hg] at hti
    | some g =>
     cases hrest:treeOf gs ops n f (listed.setIfInBounds i true) with
     | none=>simp [hg,hrest] at hti
     | some t' =>
      simp [hg,hrest] at hti
      subst hti
      simp only [dtree] at hdi
      obtain ⟨o,hio,hco⟩:=gs_get hgs hg
      obtain ⟨_,hdst,_,_⟩:=compGOp_inv hco
      refine gop_wp hM hio hco hf hdi fun ρ' d v H' w' hk hf' => ?_
      simp only [dops] at hk
      obtain ⟨news',e1,e2⟩:=hgrow news g d
      rw [e1] at hk hf'
      refine ⟨fun _=>hS hf',ih _ t' hrest ρ' news' H' _ w' hf' (fun m hm => ?_) hk hfin⟩
      obtain ⟨m1,m2⟩:=e2 m hm
      rw [put_getD fun k hk=>m2 k (by rw [← hdst]; exact hk)]
      exact hsame m m1
   ·cases ht
theorem tail_T (hM:Sane P M)(hgs:compGOps P nt ops ops.toList=some gs){K:Env→Heap→Prop}(hK : ∀ ρ env H a w,K env H→Fr c nt ρ env H a w→Q .normal a w) :
  ∀ (f k:Nat) (listed:Array Bool),tailOK ops f k listed=true→k+f=ops.size→n≤k → ∀ ρ env H a w,Fr c nt ρ env H a w→dops M false (gs.drop k) env H K→wpAnyT P ops Q S (tailB n ops.size) f listed a w
 | 0,k,listed,ht,hk,_,ρ,env,H,a,w,hf,h=>by
  simp only [tailOK,beq_iff_eq] at ht
  have hl:=(compGOps_get hgs).1
  have:gs.drop k=[]:=by
   rw [List.drop_eq_nil_iff]
   simp at hl
   omega
  rw [this] at h
  simp only [dops] at h
  exact ⟨ht,hK _ _ _ _ _ h hf⟩
 | f+1,k,listed,ht,hk,hn,ρ,env,H,a,w,hf,h=>by
  simp only [tailOK,Bool.and_eq_true,beq_iff_eq] at ht
  obtain ⟨hr,ht⟩:=ht
  have hl:=(compGOps_get hgs).1
  have hkl:k<gs.length:=by simp at hl; omega
  rw [List.drop_eq_getElem_cons hkl] at h
  obtain ⟨o,hio,hco⟩:=gs_get hgs (List.getElem?_eq_getElem hkl)
  refine ⟨fun h0=>(by rw [hr] at h0; cases h0),fun i hi => ?_⟩
  rw [hr] at hi
  simp at hi
  subst hi
  refine gop_wp hM hio hco hf h fun ρ' d v H' w' hk' hf'=>⟨fun hT => ?_,tail_T hM hgs hK f _ _ ht (by omega) (by omega) _ _ _ _ _ hf' hk'⟩
  simp only [tailB,decide_eq_false_iff_not] at hT
  exact (hT ⟨hn,by omega⟩).elim
theorem draw_sound (hM:Sane P M)(hmix:P.follows .mixedOrders=true){id:Nat}(hgs:compGOps P nt ops ops.toList=some gs){hd tl:List GOp}{t:DT}(hc:compDraw ops gs=some (.draw hd t tl))(hf:Fr c nt ρ env H a w){Q':Exit→Act→World→Prop}{K:Env→Heap→Prop}
  (hK : ∀ ρ env H a w,K env H→Fr c nt ρ env H a w→Q' .normal a w)
  (h : ∃ hs:List Nat,(∀ i∈hs,i<H.length)∧dhead M hs hd env H fun env1 H1=>dtree M t env1 (hideH hs H1) fun env2 H2 =>
   hideOK hs (newsE env1 env2) H2∧dops M false tl (newsE env1 env2++env1) (unhide hs H1 H2) K):(Code.region id ops true).wp P Q' a w:=by
 unfold compDraw at hc
 simp only at hc
 split at hc
 ·rename_i hcond
  simp only [Bool.and_eq_true,decide_eq_true_eq] at hcond
  obtain ⟨⟨⟨hsel,hn⟩,htl⟩,hlen⟩:=hcond
  split at hc
  ·rename_i hds t' hpick htree
   injection hc with hc
   injection hc with e1 e2 e3
   subst e1
   subst e2
   subst e3
   obtain ⟨hs,hb,h⟩:=h
   have hfd:Fr c nt ρ env H a { w with drawn:=w.drawn+1 }:=⟨hf.1.drew rfl rfl rfl rfl,hf.2⟩
   refine Code.wp_mono (Q:=fun e a w=>match e with | .normal=>Q' .normal a w | _=>False) (fun e a w he => ?_) ?_
   ·cases e<;>first|exact he|exact he.elim
   refine wp_region_any hmix (wpAny_of_T (S:=AgreeB (keptB ρ H hs) { w with drawn:=w.drawn+1 }) (T:=tailB (headN ops) ops.size) _ _ _ _ ?_)
   have hpl:hds.length=(hdPlan true gs ops (headN ops) (headN ops) (Array.replicate ops.size false)).length:=by
    have key : ∀ (is:List Nat) (r:List GOp),pickG gs is=some r→r.length=is.length:=by
     intro is
     induction is with
     | nil=>intro r h; simp [pickG] at h; subst h; rfl
     | cons i is ih =>
      intro r h
      simp only [pickG] at h
      split at h
      ·rename_i h1 h2
       injection h with h
       subst h
       simp [ih _ h2]
      ·cases h
    exact key _ _ hpick
   have hsz:ops.size=hds.length+((headN ops - (hdPlan true gs ops (headN ops) (headN ops) (Array.replicate ops.size false)).length)+(ops.size - headN ops)):=by omega
   have main:=head_T (Q:=fun e a w=>match e with | .normal=>Q' .normal a w | _=>False) hgs hsel htl (fun ch a w h=>h) (hs:=hs)
    (m:=(headN ops - (hdPlan true gs ops (headN ops) (headN ops) (Array.replicate ops.size false)).length)+(ops.size - headN ops)) (headN ops) (Array.replicate ops.size false) hds env a hpick hfd h fun env1 a1 hf1 hk1 => ?_
   ·rw [← hsz] at main
    exact main
   ·have hf2:Fr (hideC c { w with drawn:=w.drawn+1 } ρ H hs) nt ρ ([]++env1) (hideH hs H) a1 { w with drawn:=w.drawn+1 }:=⟨hide_st hf1.1 hs,hf1.2⟩
    refine tree_T hM hgs hsel htl (fun ch a w h=>h) (tmps1:=a1.tmps) _ _ _ htree ρ [] (hideH hs H) a1 _ hf2 (fun _ _=>rfl) hk1 fun listed ρ2 news H2 a2 w2 htok hf3 hsame hk3 => ?_
    have hnews:newsE env1 (news++env1)=news:=by
     unfold newsE
     rw [List.length_append,Nat.add_sub_cancel,List.take_left]
    rw [hnews] at hk3
    have hst:=unhide_st hf1.1 hf3.1 hb hk3.1 hsame
    exact tail_T (Q:=fun e a w=>match e with | .normal=>Q' .normal a w | _=>False) hM hgs (n:=headN ops) hK _ _ listed htok (by omega) (Nat.le_refl _) _ _ _ _ _ ⟨hst,hf3.2⟩ hk3.2
  ·cases hc
 ·cases hc
end
end Go.Dv
namespace Go.Dv
section
variable {P:Program} {c:Cx} {nt:Nat} {ρ : Rho} {env:Env} {H:Heap} {w:World} {M:Md} {a:Act} {tmps:Array Value}
def toExit:Ex→Exit
 | .normal => .normal
 | .exit id => .exit id
 | .ret => .ret
theorem D_sound (hM:Sane P M)(hmix:P.follows .mixedOrders=true)(hnin:M.nin=c.H0.length) : ∀ (code:Code) (ir:DC),comp P nt code=some ir → ∀ ρ env H a w,Fr c nt ρ env H a w → ∀ (Q:PostD) (Q':Exit→Act→World→Prop),D M ir env H Q →
  (∀ e ρ env H a w,Q e env H→Fr c nt ρ env H a w→Q' (toExit e) a w)→code.wp P Q' a w
 | .skip,ir,hc,ρ,env,H,a,w,hf,Q,Q',h,hQ=>by
  simp [comp] at hc
  subst hc
  exact wp_skip (hQ .normal _ _ _ _ _ h hf)
 | .region id ops draw,ir,hc,ρ,env,H,a,w,hf,Q,Q',h,hQ=>by
  simp only [comp] at hc
  split at hc
  ·rename_i r hr
   cases draw with
   | false =>
    simp at hc
    subst hc
    simp only [D] at h
    exact wp_region_list (dops_plain hM (fun ρ env H a w hk hf=>hQ .normal _ _ _ _ _ hk hf) _ _ hr _ _ _ _ _ hf h)
   | true =>
    simp only [if_true] at hc
    split at hc
    ·rename_i hcond
     injection hc with hc
     subst hc
     simp only [Bool.and_eq_true,List.all_eq_true] at hcond
     simp only [D] at h
     refine wp_region_quiet (C:=Later w) hmix hcond.1.2 ⟨⟨Nat.le_refl _,fun _ _=>rfl⟩,rfl,rfl,rfl⟩ ?_
     refine dops_quiet hM (Kf:=Q .normal) (fun env a hk hf w' hw' => ?_) _ _ hr hcond.1.1 _ _ hf h
     exact hQ .normal _ _ _ _ _ hk ⟨hf.1.agree hw'.a hw'.os hw'.tape hw'.output,hf.2⟩
    ·split at hc
     ·rename_i cd hcd
      injection hc with hc
      subst hc
      have hcd':=hcd
      unfold compDraw at hcd'
      simp only at hcd'
      split at hcd'
      ·split at hcd'
       ·injection hcd' with hcd'
        subst hcd'
        simp only [D] at h
        exact draw_sound hM hmix hr hcd hf (fun ρ env H a w hk hf=>hQ .normal _ _ _ _ _ hk hf) h
       ·cases hcd'
      ·cases hcd'
     ·injection hc with hc
      subst hc
      exact h.elim
  ·injection hc with hc
   subst hc
   exact h.elim
 | .seq x y,ir,hc,ρ,env,H,a,w,hf,Q,Q',h,hQ=>by
  simp only [comp] at hc
  cases h1:comp P nt x with
  | none=>simp [h1] at hc
  | some dx =>
   cases h2:comp P nt y with
   | none=>simp [h1,h2] at hc
   | some dy =>
    simp [h1,h2] at hc
    subst hc
    simp only [D] at h
    refine wp_seq (D_sound hM hmix hnin x dx h1 ρ env H a w hf _ _ h fun e ρ env H a w hk hf => ?_)
    cases e with
    | normal=>exact D_sound hM hmix hnin y dy h2 ρ env H a w hf Q Q' hk hQ
    | exit id=>exact hQ (.exit id) _ _ _ _ _ hk hf
    | ret=>exact hQ .ret _ _ _ _ _ hk hf
 | .cond x y z,ir,hc,ρ,env,H,a,w,hf,Q,Q',h,hQ=>by
  simp only [comp] at hc
  cases h0:compX x with
  | none=>simp [h0] at hc
  | some dx =>
   cases h1:comp P nt y with
   | none=>simp [h0,h1] at hc
   | some dy =>
    cases h2:comp P nt z with
    | none=>simp [h0,h1,h2] at hc
    | some dz =>
     simp [h0,h1,h2] at hc
     subst hc
     simp only [D] at h
     have hr:=compX_rel hf.1.e h0
     unfold condK at h
     split at h
     ·rename_i b e
      rw [e] at hr
      have hv:=rp_bool hr
      cases b with
      | true=>exact wp_cond_true hv (D_sound hM hmix hnin y dy h1 ρ env H a w hf Q Q' (h.1 rfl) hQ)
      | false=>exact wp_cond_false hv (D_sound hM hmix hnin z dz h2 ρ env H a w hf Q Q' (h.2 rfl) hQ)
     ·exact h.elim
 | .block id x,ir,hc,ρ,env,H,a,w,hf,Q,Q',h,hQ=>by
  simp only [comp,Option.map_eq_some_iff] at hc
  obtain ⟨dx,h1,rfl⟩:=hc
  simp only [D] at h
  refine wp_block (D_sound hM hmix hnin x dx h1 ρ env H a w hf _ _ h fun e ρ env H a w hk hf => ?_)
  cases e with
  | normal=>exact hQ .normal _ _ _ _ _ hk hf
  | exit i =>
   simp only [blockQ] at hk
   simp only [toExit,Exit.inBlock]
   split at hk
   ·rename_i e
    subst e
    simp
    exact hQ .normal _ _ _ _ _ hk hf
   ·rename_i e
    simp [e]
    exact hQ (.exit i) _ _ _ _ _ hk hf
  | ret=>exact hQ .ret _ _ _ _ _ hk hf
 | .loop x,ir,hc,ρ,env,H,a,w,hf,Q,Q',h,hQ=>by
  simp only [comp,Option.map_eq_some_iff] at hc
  obtain ⟨dx,h1,rfl⟩:=hc
  simp only [D] at h
  obtain ⟨keep,I,⟨n0,h0⟩,hround⟩:=h
  rw [hnin] at h0
  refine wp_loop_ghost (fun n a w => ∃ ρ ds H',I n ds H'∧ds.length=keep.length∧Fr c nt ρ (keep.zip ds) H' a w) n0 ?_ ?_
  ·obtain ⟨ρ',hst⟩:=pack_st hf.1 keep
   exact ⟨ρ',_,_,h0,by simp [packD,renL_eq],hst,hf.2⟩
  ·rintro n a w ⟨ρ,ds,H',hI,hlen,hf⟩
   refine D_sound hM hmix hnin x dx h1 ρ _ H' a w hf _ _ (hround n ds H' hI hlen) fun e ρ env H a w hk hf => ?_
   cases e with
   | normal =>
    obtain ⟨m,hm,hI⟩:=hk
    rw [hnin] at hI
    obtain ⟨ρ',hst⟩:=pack_st hf.1 keep
    exact ⟨m,hm,ρ',_,_,hI,by simp [packD,renL_eq],hst,hf.2⟩
   | exit id=>exact hQ (.exit id) _ _ _ _ _ hk hf
   | ret=>exact hQ .ret _ _ _ _ _ hk hf
 | .exit id,ir,hc,ρ,env,H,a,w,hf,Q,Q',h,hQ=>by
  simp [comp] at hc
  subst hc
  exact wp_exit (hQ (.exit id) _ _ _ _ _ h hf)
 | .ret,ir,hc,ρ,env,H,a,w,hf,Q,Q',h,hQ=>by
  simp [comp] at hc
  subst hc
  exact wp_ret (hQ .ret _ _ _ _ _ h hf)
 | .rangeFunc ..,ir,hc,_,_,_,_,_,_,_,_,_,_=>by simp [comp] at hc
 | .scope _,ir,hc,_,_,_,_,_,_,_,_,_,_=>by simp [comp] at hc
 | .label _,ir,hc,_,_,_,_,_,_,_,_,_,_=>by simp [comp] at hc
 | .goto _,ir,hc,_,_,_,_,_,_,_,_,_,_=>by simp [comp] at hc
 | .refuse _,ir,hc,_,_,_,_,_,_,_,_,_,_=>by simp [comp] at hc
end
end Go.Dv
namespace Go.Dv
def Ok (P:Program)(f:FuncId)(args:List DV)(Hin:Heap)(Q:DV→Heap→Prop):Prop :=
 ∀ (w:World) (O0:Nat→Prop) (ρ : Rho) (vs:List Value),(∀ b,O0 b→b<w.heap.size ∧ ¬ ownB ρ Hin b) →
  HRel w ((⟨w,O0,ρ,Hin⟩:Cx).X ρ Hin) ρ Hin→RDt w ((⟨w,O0,ρ,Hin⟩:Cx).X ρ Hin) ρ Hin args vs →
  Calls P f vs.toArray w fun e w' => ∃ v d H' ρ',e = .returned v∧Q d H'∧HRel w' ((⟨w,O0,ρ,Hin⟩:Cx).X ρ' H') ρ' H'∧RD w' ((⟨w,O0,ρ,Hin⟩:Cx).X ρ' H') ρ' H' d v ∧
   Keep ⟨w,O0,ρ,Hin⟩ ρ' H' w'∧HStep w ρ Hin w' ρ' H'
theorem Ok.mono {P:Program}{f:FuncId}{args:List DV}{Hin:Heap}{Q Q':DV→Heap→Prop}(h:Ok P f args Hin Q)(hq : ∀ d H,Q d H→Q' d H):Ok P f args Hin Q' :=
 fun w O0 ρ vs h1 h2 h3=>(h w O0 ρ vs h1 h2 h3).mono fun _ _ ⟨v,d,H',ρ',a,b,r⟩=>⟨v,d,H',ρ',a,hq _ _ b,r⟩
section
variable {P:Program} {c:Cx} {nt:Nat} {ρ : Rho} {env:Env} {H:Heap} {w:World} {M:Md} {a:Act}
def resSem (tmps:Array Value)(r:ResultVar):Sem Value :=
 match r with
 | .tmp t=>pure (tmps.getD t undef)
 | .cell a t=>do loadVar t (← asAddr (tmps.getD a undef))
theorem res_one {tmps:Array Value}{X:Nat→Prop}(hh:HRel w X ρ H)(he:EnvR w X ρ H env tmps){r:ResultVar}{rv:RV}(hc:compRVs P [r]=some [rv]){d:DV}(hd:resOne env H rv=some d) :
  ∃ v,RD w X ρ H d v∧(resSem tmps r).run P w = .ok v w:=by
 cases r with
 | tmp t =>
  simp [compRVs] at hc
  subst hc
  simp [resOne] at hd
  subst hd
  exact ⟨_,he t,rfl⟩
 | cell a t =>
  simp only [compRVs] at hc
  split at hc
  ·rename_i g n r h1 h2 h3
   injection h3 with h3
   subst h3
   split at hc
   ·rename_i hg
    injection hc with hc
    injection hc with hc _
    subst hc
    simp only [resOne] at hd
    have hr:=he a
    split at hd
    ·rename_i i j f e
     rw [e] at hr
     split at hd
     ·rename_i e2 cs hH
      split at hd
      ·unfold RD ptrRel at hr
       simp only [hH] at hr
       obtain ⟨b,hρ,hv⟩:=hr
       obtain ⟨b',cur,k1,k2,k3⟩:=hh.ob i _ hH
       rw [hρ] at k1
       injection k1 with k1
       injection k1 with k1
       subst k1
       obtain ⟨vs,g1,g2,g3,g4,_⟩:=partD_rel k3 hd hg
       refine ⟨_,g4,?_⟩
       simp only [resSem,hv,asAddr,Sem.run_bind,Sem.run_pure,Result.andThen_ok]
       exact run_lv h1 h2 g1 (fun m u hu=>by rw [cell_own k2]; simpa using g2 m u hu) g3
      ·cases hd
     ·cases hd
    ·cases hd
   ·cases hc
  ·cases hc
theorem compRVs_cons {r:ResultVar}{l:List ResultVar}{rs:List RV}(h:compRVs P (r::l)=some rs) : ∃ rv rs',rs=rv::rs'∧compRVs P [r]=some [rv]∧compRVs P l=some rs':=by
 cases r with
 | tmp t =>
  simp only [compRVs,Option.map_eq_some_iff] at h
  obtain ⟨rs',h1,h2⟩:=h
  exact ⟨_,rs',h2.symm,by simp [compRVs],h1⟩
 | cell a t =>
  simp only [compRVs] at h
  split at h
  ·rename_i g n r h1 h2 h3
   split at h
   ·rename_i hg
    injection h with h
    refine ⟨_,r,h.symm,?_,h3⟩
    simp only [compRVs,h1,h2]
    rw [if_pos hg]
   ·cases h
  ·cases h
theorem res_all {tmps:Array Value}{X:Nat→Prop}(hh:HRel w X ρ H)(he:EnvR w X ρ H env tmps) : ∀ {l:List ResultVar} {rs:List RV} {ds:List DV},compRVs P l=some rs→resAll env H rs=some ds →
  ∃ vs,RDt w X ρ H ds vs∧(l.mapM (resSem tmps)).run P w = .ok vs w
 | [],rs,ds,hc,hd=>by
  simp [compRVs] at hc
  subst hc
  simp [resAll] at hd
  subst hd
  exact ⟨[],by unfold RDt; rfl,rfl⟩
 | r::l,rs,ds,hc,hd=>by
  obtain ⟨rv,rs',rfl,h1,h2⟩:=compRVs_cons hc
  simp only [resAll] at hd
  cases k1:resOne env H rv with
  | none=>simp [k1] at hd
  | some d =>
   cases k2:resAll env H rs' with
   | none=>simp [k1,k2] at hd
   | some ds' =>
    simp [k1,k2] at hd
    subst hd
    obtain ⟨v,g1,g2⟩:=res_one (P:=P) hh he h1 k1
    obtain ⟨vs,g3,g4⟩:=res_all hh he h2 k2
    refine ⟨v::vs,?_,?_⟩
    ·unfold RDt
     exact ⟨v,vs,rfl,g1,g3⟩
    ·simp only [List.mapM_cons,Sem.run_bind,g2,Result.andThen_ok,g4,Sem.run_pure]
theorem res_run {fn:Func}{tmps:Array Value}{X:Nat→Prop}(hh:HRel w X ρ H)(he:EnvR w X ρ H env tmps){rs:List RV}{d:DV}(hc:compRVs P fn.results.toList=some rs)(hd:resD env H rs=some d) : ∃ v,RD w X ρ H d v∧(results fn tmps).run P w = .ok v w:=by
 unfold resD at hd
 cases hr:resAll env H rs with
 | none=>simp [hr] at hd
 | some ds =>
  obtain ⟨vs,h1,h2⟩:=res_all (P:=P) hh he hc hr
  have hm:(fn.results.mapM (resSem tmps)).run P w = .ok vs.toArray w:=by
   rw [Array.mapM_eq_mapM_toList]
   simp only [Sem.run_map,h2,Result.andThen_ok]
  have hrun:(results fn tmps).run P w = .ok (if h:vs.toArray.size=1 then vs.toArray[0] else .tuple vs.toArray) w:=by
   have hr0:results fn tmps=(do
     let vs ← fn.results.mapM (resSem tmps)
     pure (if h:vs.size=1 then vs[0] else .tuple vs)):=rfl
   rw [hr0]
   simp only [Sem.run_bind,hm,Result.andThen_ok,Sem.run_pure]
  rw [hrun]
  rw [hr] at hd
  match ds,h1,hd with
  | [],h1,hd =>
   simp at hd
   subst hd
   unfold RDt at h1
   subst h1
   exact ⟨_,by unfold RD; exact ⟨[],rfl,by unfold RDt; rfl⟩,rfl⟩
  | [d0],h1,hd =>
   simp at hd
   subst hd
   unfold RDt at h1
   obtain ⟨v,vs',rfl,g1,g2⟩:=h1
   unfold RDt at g2
   subst g2
   exact ⟨v,g1,rfl⟩
  | d0::d1::ds,h1,hd =>
   simp at hd
   subst hd
   have h0:=h1
   unfold RDt at h1
   obtain ⟨v,vs',rfl,g1,g2⟩:=h1
   unfold RDt at g2
   obtain ⟨v2,vs2,rfl,g3,g4⟩:=g2
   refine ⟨.tuple (v::v2::vs2).toArray,by unfold RD; exact ⟨_,rfl,h0⟩,?_⟩
   rw [dif_neg (by simp)]
theorem get_envFrom : ∀ (ds:List DV) (n m:Nat),get (envFrom n ds) m=if n≤m then (ds[m - n]?).getD .any else .any
 | [],n,m=>by simp [envFrom,get]
 | d::ds,n,m=>by
  simp only [envFrom,get,get_envFrom ds (n+1) m]
  by_cases h:n=m
  ·subst h; simp
  ·by_cases h2:n≤m
   ·rw [if_neg h,if_pos (by omega),if_pos h2]
    obtain ⟨k,rfl⟩ : ∃ k,m=n+1+k:=⟨m - (n+1),by omega⟩
    rw [show n+1+k - (n+1)=k from by omega,show n+1+k - n=k+1 from by omega]
    rfl
   ·rw [if_neg h,if_neg (by omega),if_neg h2]
theorem RDt_length {X:Nat→Prop} : ∀ {ds:List DV} {vs:List Value},RDt w X ρ H ds vs→vs.length=ds.length
 | [],vs,h=>by unfold RDt at h; subst h; rfl
 | d::ds,vs,h=>by
  unfold RDt at h
  obtain ⟨v,vs',rfl,_,h'⟩:=h
  simp [RDt_length h']
theorem ok_of_D {f:FuncId}{args:List DV}{Hin:Heap}{Q:DV→Heap→Prop}{np:Nat}{rs:List RV}{ir:DC}(hmix:P.follows .mixedOrders=true)(hM:Sane P M)(hnin:M.nin=Hin.length)(hc:compFn P f=some ⟨np,nt,rs,ir⟩)
  (h:D M ir (envOf args) Hin (retQ Hin.length rs Q)) (hl:args.length≤nt):Ok P f args Hin Q:=by
 intro w O0 ρ vs hO hH hargs
 unfold compFn at hc
 split at hc
 ·rename_i fn hf
  split at hc
  ·rename_i b hb
   split at hc
   ·rename_i ir' rs' h1 h2
    injection hc with hc
    injection hc with e1 e2 e3 e4
    subst e2
    subst e3
    subst e4
    have hvl:=RDt_length hargs
    have hsz:(vs.toArray++Array.replicate (fn.ntmps - vs.toArray.size) undef).size=fn.ntmps:=by
     simp
     omega
    have hst:StR ⟨w,O0,ρ,Hin⟩ ρ (envOf args) Hin (vs.toArray++Array.replicate (fn.ntmps - vs.toArray.size) undef) w:=by
     refine ⟨hH,fun n => ?_,⟨rfl,rfl,rfl,Nat.le_refl _,fun b _ hn=>⟨rfl,hn⟩⟩,HStep.refl _ _ _,hO⟩
     unfold envOf
     rw [get_envFrom,if_pos (Nat.zero_le _),Nat.sub_zero]
     cases hn:args[n]? with
     | none=>show RD _ _ _ _ .any _; unfold RD; trivial
     | some d =>
      obtain ⟨v,hv,hr⟩:=RDt_get hargs hn
      have hlt:=lt_of_get hv
      have:(vs.toArray++Array.replicate (fn.ntmps - vs.toArray.size) undef).getD n undef=v:=by
       rw [Array.getD_eq_getD_getElem?,Array.getElem?_append_left (by simpa using hlt)]
       simp [hv]
      rw [this]
      exact hr
    refine calls_of_wp hf hb (D_sound (c:=⟨w,O0,ρ,Hin⟩) hM hmix hnin b ir' h1 ρ _ Hin _ w ⟨hst,rfl,hsz⟩ _ _ h ?_)
    intro e ρ' env' H' a' w' hq hfr
    have fin:retK Hin.length rs' Q env' H'→a'.defers=[] ∧ ∃ v,(results fn a'.tmps).run P w' = .ok v w' ∧ ∃ v2 d H2 ρ2,Ending.returned v = .returned v2∧Q d H2∧HRel w' ((⟨w,O0,ρ,Hin⟩:Cx).X ρ2 H2) ρ2 H2∧RD w' ((⟨w,O0,ρ,Hin⟩:Cx).X ρ2 H2) ρ2 H2 d v2 ∧
      Keep ⟨w,O0,ρ,Hin⟩ ρ2 H2 w'∧HStep w ρ Hin w' ρ2 H2:=fun hk=>by
     unfold retK at hk
     split at hk
     ·rename_i d hd
      obtain ⟨v,g1,g2⟩:=res_run hfr.1.h hfr.1.e h2 hd
      obtain ⟨hp,st'⟩:=pack_any hfr.1 (idsOf_spec Hin.length [d] H').1 ids_first
      exact ⟨hfr.2.1,v,g2,v,_,_,_,rfl,hk,st'.h,RD_pack hp hfr.1.h.len _ _ _ g1,st'.k,st'.s⟩
     ·exact hk.elim
    cases e with
    | normal=>exact fin hq
    | exit id=>exact hq.elim
    | ret=>exact fin hq
   ·cases hc
  ·cases hc
 ·cases hc
end
end Go.Dv
namespace Go.Dv
theorem putAll_length : ∀ (H:Heap) (is:List Nat) (bs:List OB),(putAll H is bs).length=H.length
 | _,[],_=>by simp [putAll]
 | _,_::_,[]=>by simp [putAll]
 | H,i::is,b::bs=>by simp [putAll,putAll_length,setL_length]
theorem putAll_get : ∀ (H:Heap) (is:List Nat) (bs:List OB),is.Nodup→is.length=bs.length→(∀ i∈is,i<H.length) →
  (∀ i:Nat,i ∉ is→(putAll H is bs)[i]? = H[i]?) ∧ ∀ (j i:Nat),is[j]? = some i→(putAll H is bs)[i]? = bs[j]?
 | H,[],bs,_,_,_=>⟨fun _ _=>by simp [putAll],fun j i h=>by simp at h⟩
 | H,i0::is,[],_,hl,_=>by simp at hl
 | H,i0::is,b::bs,hn,hl,hb=>by
  obtain ⟨hni,hn'⟩:=List.nodup_cons.1 hn
  obtain ⟨h1,h2⟩:=putAll_get (setL H i0 b) is bs hn' (by simpa using hl) fun i hi=>by rw [setL_length]; exact hb i (by simp [hi])
  refine ⟨fun i hi => ?_,fun j i hj => ?_⟩
  ·simp only [List.mem_cons,not_or] at hi
   simp only [putAll]
   rw [h1 i hi.2,setL_get,if_neg (fun e=>hi.1 e.1)]
  ·simp only [putAll]
   cases j with
   | zero =>
    simp at hj
    subst hj
    rw [h1 i0 hni,setL_get,if_pos ⟨rfl,hb i0 (by simp)⟩]
    rfl
   | succ j=>simpa using h2 j i (by simpa using hj)
section
variable {P:Program} {c:Cx} {ρ : Rho} {env:Env} {H:Heap} {w:World} {tmps:Array Value}
theorem flat_X {X X':Nat→Prop}{w':World}:(∀ (x:PV) (v:Value),flatP x→RP w' X x v→RP w' X' x v)∧(∀ (xs:List PV) (vs:List Value),flatPs xs→RPs w' X xs vs→RPs w' X' xs vs):=by
 have key : ∀ n,(∀ (x:PV) (v:Value),SizeOf.sizeOf x≤n→flatP x→RP w' X x v→RP w' X' x v)∧(∀ (xs:List PV) (vs:List Value),SizeOf.sizeOf xs≤n→flatPs xs→RPs w' X xs vs→RPs w' X' xs vs):=by
  intro n
  induction n with
  | zero =>
   refine ⟨fun x v hx => ?_,fun xs vs hx => ?_⟩
   ·cases x<;>simp at hx
   ·cases xs<;>simp at hx
  | succ n ih =>
   refine ⟨fun x v hx hf h => ?_,fun xs vs hx hf h => ?_⟩
   ·cases x with
    | int k m=>unfold RP at h ⊢; exact h
    | bool b=>unfold RP at h ⊢; exact h
    | str s=>unfold RP at h ⊢; exact h
    | sl k xs =>
     unfold flatP at hf
     subst hf
     unfold RP at h ⊢
     obtain ⟨A,c,h1,h2,h3,_⟩:=h
     exact ⟨A,c,h1,h2,h3,fun e=>absurd rfl e⟩
    | agg cs =>
     unfold RP at h ⊢
     unfold flatP at hf
     obtain ⟨vs,hv,h⟩:=h
     exact ⟨vs,hv,ih.2 cs vs (by simp at hx; omega) hf h⟩
   ·cases xs with
    | nil=>unfold RPs at h ⊢; exact h
    | cons x xs =>
     unfold RPs at h ⊢
     unfold flatPs at hf
     obtain ⟨v,vs',hv,h1,h2,h3⟩:=h
     simp at hx
     exact ⟨v,vs',hv,h1,ih.1 x v (by omega) hf.1 h2,ih.2 xs vs' (by omega) hf.2 h3⟩
 exact ⟨fun x v=>(key (SizeOf.sizeOf x)).1 x v (Nat.le_refl _),fun xs vs=>(key (SizeOf.sizeOf xs)).2 xs vs (Nat.le_refl _)⟩
theorem flat_cells {x:PV}(h:flatP x):flatPs x.cells:=by
 cases x with
 | agg cs=>unfold flatP at h; exact h
 | _=>exact ⟨h,trivial⟩
theorem flat_mem : ∀ {xs:List PV} {x:PV},flatPs xs→x∈xs→flatP x
 | [],_,_,h=>by cases h
 | y::ys,x,hf,h=>by
  unfold flatPs at hf
  rcases List.mem_cons.1 h with rfl|h
  ·exact hf.1
  ·exact flat_mem hf.2 h
theorem flat_row {X X':Nat→Prop}{w':World}{k b o:Nat}{xs:List PV}(hf:flatPs xs)(h:RRow w' X k b o xs):RRow w' X' k b o xs:=by
 refine RRow_of_get fun j x hx => ?_
 obtain ⟨vs,h1,h2,h3⟩:=RRow_get h hx
 exact ⟨vs,h1,h2,RE_of_cells (flat_X.2 _ _ (flat_cells (flat_mem hf (List.mem_of_getElem? hx))) (RE_cells h3))⟩
mutual
theorem flat_RD {X X':Nat→Prop}{w':World}{ρ':Rho}{H':Heap} : ∀ (d:DV) (v:Value),flatD d→RD w' X ρ' H' d v→RD w' X' ρ' H' d v
 | .any,v,hf,h=>by unfold RD; trivial
 | .undef,v,hf,h=>by unfold RD at h ⊢; exact h
 | .p x,v,hf,h=>by unfold RD at h ⊢; unfold flatD at hf; exact flat_X.1 x v hf h
 | .nil,v,hf,h=>by unfold RD at h ⊢; exact h
 | .own ..,v,hf,h=>by unfold RD at h ⊢; exact h
 | .ptr ..,v,hf,h=>by unfold RD at h ⊢; exact h
 | .rptr ..,v,hf,h=>by unfold flatD at hf; exact hf.elim
 | .agg cs,v,hf,h=>by
  unfold RD at h ⊢
  unfold flatD at hf
  obtain ⟨vs,hv,h⟩:=h
  exact ⟨vs,hv,flat_RDs cs vs hf h⟩
 | .tup cs,v,hf,h=>by
  unfold RD at h ⊢
  unfold flatD at hf
  obtain ⟨vs,hv,h⟩:=h
  exact ⟨vs,hv,flat_RDt cs vs hf h⟩
theorem flat_RDs {X X':Nat→Prop}{w':World}{ρ':Rho}{H':Heap} : ∀ (ds:List DV) (vs:List Value),flatDs ds→RDs w' X ρ' H' ds vs→RDs w' X' ρ' H' ds vs
 | [],vs,hf,h=>by unfold RDs at h ⊢; exact h
 | d::ds,vs,hf,h=>by
  unfold RDs at h ⊢
  unfold flatDs at hf
  obtain ⟨v,vs',hv,h1,h2,h3⟩:=h
  exact ⟨v,vs',hv,h1,flat_RD d v hf.1 h2,flat_RDs ds vs' hf.2 h3⟩
theorem flat_RDt {X X':Nat→Prop}{w':World}{ρ':Rho}{H':Heap} : ∀ (ds:List DV) (vs:List Value),flatDs ds→RDt w' X ρ' H' ds vs→RDt w' X' ρ' H' ds vs
 | [],vs,hf,h=>by unfold RDt at h ⊢; exact h
 | d::ds,vs,hf,h=>by
  unfold RDt at h ⊢
  unfold flatDs at hf
  obtain ⟨v,vs',hv,h2,h3⟩:=h
  exact ⟨v,vs',hv,flat_RD d v hf.1 h2,flat_RDt ds vs' hf.2 h3⟩
end
theorem flatH_get : ∀ {H:Heap} {i:Nat} {ob:OB},flatH H→H[i]? = some ob→flatB ob
 | [],i,ob,_,h=>by simp at h
 | b::bs,0,ob,hf,h=>by
  unfold flatH at hf
  simp at h
  subst h
  exact hf.1
 | b::bs,i+1,ob,hf,h=>by
  unfold flatH at hf
  exact flatH_get hf.2 (by simpa using h)
theorem back_get {ids:List Nat}{base j i:Nat}(h:ids[j]? = some i):backI ids base j=i:=by
 unfold backI
 rw [if_pos (lt_of_get h),List.getD_eq_getElem?_getD,h]
 rfl
theorem merge_new {ids:List Nat}{H2:Heap}{j:Nat}{ob:OB}(hj:ids.length≤j)(h:H2[j]? = some ob):(mergeH ids H H2)[H.length+(j - ids.length)]? = some (bkB ids H.length ob):=by
 unfold mergeH
 rw [List.getElem?_append_right (by rw [putAll_length]; omega),putAll_length,List.getElem?_map,List.getElem?_drop]
 rw [show ids.length+(H.length+(j - ids.length) - H.length)=j from by omega,h]
 rfl
theorem merge_old {ids:List Nat}{H2:Heap}(hnd:ids.Nodup)(hb : ∀ i∈ids,i<H.length)(hl:ids.length≤H2.length) :
  (∀ i:Nat,i<H.length→i ∉ ids→(mergeH ids H H2)[i]? = H[i]?) ∧ ∀ (j i:Nat) (ob:OB),ids[j]? = some i→H2[j]? = some ob→(mergeH ids H H2)[i]? = some (bkB ids H.length ob):=by
 have hll:ids.length=((H2.take ids.length).map (bkB ids H.length)).length:=by simp; omega
 obtain ⟨h1,h2⟩:=putAll_get H ids _ hnd hll hb
 unfold mergeH
 refine ⟨fun i hi hn => ?_,fun j i ob hj ho => ?_⟩
 ·rw [List.getElem?_append_left (by rw [putAll_length]; exact hi)]
  exact h1 i hn
 ·have hi:=hb i (List.mem_of_getElem? hj)
  rw [List.getElem?_append_left (by rw [putAll_length]; exact hi),h2 j i hj,List.getElem?_map,List.getElem?_take,if_pos (lt_of_get hj),ho]
  rfl
theorem bkB_live {ids:List Nat}{base:Nat}{ob:OB}:(bkB ids base ob).live=ob.live:=by cases ob<;>rfl
theorem call_finish (st:StR c ρ env H tmps w){ids:List Nat}(hnd:ids.Nodup)(hb : ∀ i∈ids,i<H.length){w':World}{ρ2:Rho}{H2:Heap}{d:DV}{v:Value}{Oc:Nat→Prop}
  (hOc : ∀ b,Oc b↔(c.O0 b∨(ownB ρ H b ∧ ¬ ownB (rhoOf ids ρ) (heapOf ids H) b)))
  (hh:HRel w' ((⟨w,Oc,rhoOf ids ρ,heapOf ids H⟩:Cx).X ρ2 H2) ρ2 H2) (hd:RD w' ((⟨w,Oc,rhoOf ids ρ,heapOf ids H⟩:Cx).X ρ2 H2) ρ2 H2 d v)
  (hk:Keep ⟨w,Oc,rhoOf ids ρ,heapOf ids H⟩ ρ2 H2 w') (hs:HStep w (rhoOf ids ρ) (heapOf ids H) w' ρ2 H2) :
  ∃ ρ',StR c ρ' env (mergeH ids H H2) tmps w'∧RD w' (c.X ρ' (mergeH ids H H2)) ρ' (mergeH ids H H2) (bk ids H.length d) v:=by
 have hlen:=st.h.len
 have hidl:(heapOf ids H).length=ids.length:=by simp [heapOf]
 have hl2:ids.length≤H2.length:=by
  rcases Nat.lt_or_ge H2.length ids.length with h|h
  ·exfalso
   have hlt:H2.length<(heapOf ids H).length:=by rw [hidl]; exact h
   have hg:=List.getElem?_eq_getElem hlt
   have hn:H2[H2.length]? = none:=by simp
   cases hob:(heapOf ids H)[H2.length] with
   | dead=>rw [hob] at hg; have:=hs.dead _ hg; rw [hn] at this; cases this
   | arr e k xs=>rw [hob] at hg; rcases hs.arr _ _ _ _ hg with h'|⟨_,h',_⟩<;>rw [hn] at h'<;>cases h'
   | box e cs=>rw [hob] at hg; rcases hs.box _ _ _ hg with h'|⟨_,h'⟩<;>rw [hn] at h'<;>cases h'
   | iter s p=>rw [hob] at hg; rcases hs.iter _ _ _ hg with h'|⟨_,h'⟩<;>rw [hn] at h'<;>cases h'
  ·exact h
 obtain ⟨hold,hput⟩:=merge_old (H2:=H2) hnd hb hl2
 have hρ2 : ∀ j i,ids[j]? = some i → ρ2[j]? = ρ[i]? := fun j i hj=>by
  rw [hs.rho j (by rw [hidl]; exact lt_of_get hj)]
  exact rhoOf_get hj (by rw [hlen]; exact hb i (List.mem_of_getElem? hj))
 have hl2':=hh.len
 let ρ':Rho := ρ ++ ρ2.drop ids.length
 have hρo : ∀ i,i<H.length → ρ'[i]? = ρ[i]? := fun i hi=>List.getElem?_append_left (by omega)
 have hρn : ∀ j,ids.length≤j → ρ'[H.length+(j - ids.length)]? = ρ2[j]? := fun j hj=>by
  show (ρ ++ ρ2.drop ids.length)[H.length+(j - ids.length)]? = _
  rw [List.getElem?_append_right (by omega),List.getElem?_drop]
  congr 1
  omega
 have hback : ∀ j ob,H2[j]? = some ob→(mergeH ids H H2)[backI ids H.length j]? = some (bkB ids H.length ob) ∧ ρ'[backI ids H.length j]? = ρ2[j]? := fun j ob hj=>by
  by_cases hjl:j<ids.length
  ·have hg:ids[j]? = some (ids[j]):=List.getElem?_eq_getElem hjl
   rw [back_get hg]
   refine ⟨hput j _ ob hg hj,?_⟩
   rw [hρo _ (hb _ (List.mem_of_getElem? hg)),hρ2 j _ hg]
  ·have:backI ids H.length j=H.length+(j - ids.length):=by unfold backI; rw [if_neg hjl]
   rw [this]
   exact ⟨merge_new (by omega) hj,hρn j (by omega)⟩
 have hcases : ∀ i ob,(mergeH ids H H2)[i]? = some ob→(i<H.length∧i ∉ ids∧H[i]? = some ob) ∨ ∃ j ob2,H2[j]? = some ob2∧ob=bkB ids H.length ob2∧i=backI ids H.length j:=fun i ob hi=>by
  by_cases hil:i<H.length
  ·by_cases hin:i∈ids
   ·obtain ⟨j,hj⟩:=List.getElem?_of_mem hin
    have hjl:=lt_of_get hj
    have hg:H2[j]? = some (H2[j]'(by omega)):=List.getElem?_eq_getElem (by omega)
    rw [hput j i _ hj hg] at hi
    injection hi with hi
    exact .inr ⟨j,_,hg,hi.symm,(back_get hj).symm⟩
   ·exact .inl ⟨hil,hin,by rw [← hold i hil hin]; exact hi⟩
  ·have hlt:=lt_of_get hi
   have hml:(mergeH ids H H2).length=H.length+(H2.length - ids.length):=by
    unfold mergeH
    simp [putAll_length]
   have hj:ids.length+(i - H.length)<H2.length:=by omega
   have hg:H2[ids.length+(i - H.length)]? = some _:=List.getElem?_eq_getElem hj
   have hm:=merge_new (H:=H) (ids:=ids) (by omega) hg
   rw [show H.length+(ids.length+(i - H.length) - ids.length)=i from by omega] at hm
   rw [hm] at hi
   injection hi with hi
   refine .inr ⟨_,_,hg,hi.symm,?_⟩
   unfold backI
   rw [if_neg (by omega)]
   omega
 have hown_ids : ∀ b,ownB (rhoOf ids ρ) (heapOf ids H) b→ownB ρ H b:=fun b h=>own_pack hlen h
 have hnot : ∀ {i b:Nat} {ob:OB},H[i]? = some ob→ob.live=true→i ∉ ids → ρ[i]? = some (some b) → ¬ ownB (rhoOf ids ρ) (heapOf ids H) b:=fun {i b ob} h1 h2 h3 h4 h=>by
  obtain ⟨j,ob',g1,g2,g3⟩:=h
  obtain ⟨i',k1,k2⟩:=heapOf_get g1
  subst k2
  rw [renB_live] at g2
  have hH:=getD_live rfl g2
  rw [rhoOf_get k1 (by rw [hlen]; exact lt_of_get hH)] at g3
  have:=st.h.inj i i' b _ _ h1 h2 hH g2 h4 g3
  subst this
  exact h3 (List.mem_of_getElem? k1)
 have hownb : ∀ b,ownB ρ' (mergeH ids H H2) b→(ownB ρ H b ∧ ¬ ownB (rhoOf ids ρ) (heapOf ids H) b)∨ownB ρ2 H2 b:=fun b h=>by
  obtain ⟨i,ob,h1,h2,h3⟩:=h
  rcases hcases i ob h1 with ⟨g1,g2,g3⟩|⟨j,ob2,g1,g2,g3⟩
  ·rw [hρo i g1] at h3
   exact .inl ⟨⟨i,ob,g3,h2,h3⟩,hnot g3 h2 g2 h3⟩
  ·subst g2
   subst g3
   rw [bkB_live] at h2
   rw [(hback j ob2 g1).2] at h3
   exact .inr ⟨j,ob2,g1,h2,h3⟩
 have hpX:Pres w' ((⟨w,Oc,rhoOf ids ρ,heapOf ids H⟩:Cx).X ρ2 H2) w' (c.X ρ' (mergeH ids H H2)):=⟨Nat.le_refl _,fun b _ hn=>⟨rfl,fun h=>hn (by
  rcases h with h|h
  ·exact .inl ((hOc b).2 (.inl h))
  ·rcases hownb b h with h|h
   ·exact .inl ((hOc b).2 (.inr h))
   ·exact .inr h)⟩⟩
 have hsame : ∀ b,b<w.heap.size → ¬ ownB (rhoOf ids ρ) (heapOf ids H) b→w'.heap[b]? = w.heap[b]? ∧ ¬ ownB ρ2 H2 b:=hk.keep
 have hstep:HStep w ρ H w' ρ' (mergeH ids H H2):=by
  have hid : ∀ {i:Nat} {ob:OB},i∈ids→H[i]? = some ob → ∃ j,ids[j]? = some i∧(heapOf ids H)[j]? = some (renB ids ob):=fun {i ob} hin hH=>by
   obtain ⟨j,hj⟩:=List.getElem?_of_mem hin
   refine ⟨j,hj,?_⟩
   unfold heapOf
   rw [List.getElem?_map,hj]
   simp only [Option.map_some]
   rw [List.getD_eq_getElem?_getD,hH]
   rfl
  refine ⟨hρo,fun i hi => ?_,fun i e k xs hi => ?_,fun i e cs hi => ?_,fun i s p hi => ?_⟩
  ·by_cases hin:i∈ids
   ·obtain ⟨j,hj,hg⟩:=hid hin hi
    rw [hput j i _ hj (hs.dead j hg)]
    rfl
   ·rw [hold i (lt_of_get hi) hin]
    exact hi
  ·by_cases hin:i∈ids
   ·obtain ⟨j,hj,hg⟩:=hid hin hi
    rcases hs.arr j e k xs hg with h|⟨xs',h,h2,h3⟩
    ·exact .inl (by rw [hput j i _ hj h]; rfl)
    ·refine .inr ⟨xs',by rw [hput j i _ hj h]; rfl,h2,fun b cur hb' hc=>h3 b cur ?_ hc⟩
     rw [rhoOf_get hj (by rw [hlen]; exact lt_of_get hi)]
     exact hb'
   ·refine .inr ⟨xs,by rw [hold i (lt_of_get hi) hin]; exact hi,Nat.le_refl _,fun b cur hb' hc=>⟨cur,?_,rfl⟩⟩
    rw [(hsame b (Array.getElem?_eq_some_iff.1 hc).1 (hnot hi rfl hin hb')).1]
    exact hc
  ·by_cases hin:i∈ids
   ·obtain ⟨j,hj,hg⟩:=hid hin hi
    rcases hs.box j e _ hg with h|⟨cs',h⟩
    ·exact .inl (by rw [hput j i _ hj h]; rfl)
    ·exact .inr ⟨_,by rw [hput j i _ hj h]; rfl⟩
   ·exact .inr ⟨cs,by rw [hold i (lt_of_get hi) hin]; exact hi⟩
  ·by_cases hin:i∈ids
   ·obtain ⟨j,hj,hg⟩:=hid hin hi
    rcases hs.iter j s p hg with h|⟨p',h⟩
    ·exact .inl (by rw [hput j i _ hj h]; rfl)
    ·exact .inr ⟨p',by rw [hput j i _ hj h]; rfl⟩
   ·exact .inr ⟨p,by rw [hold i (lt_of_get hi) hin]; exact hi⟩
 have hownR : ∀ i off len v,ownRel w' ρ2 H2 i off len v→ownRel w' ρ' (mergeH ids H H2) (backI ids H.length i) off len v:=fun i off len v h=>by
  unfold ownRel at h ⊢
  cases hH:H2[i]? with
  | none=>simp [hH] at h
  | some ob =>
   obtain ⟨g1,g2⟩:=hback i ob hH
   cases ob with
   | dead=>simpa [hH,g1,bkB] using h
   | box e cs =>
    simp only [hH] at h
    simp only [g1,bkB,g2]
    exact h
   | iter s p=>simp [hH] at h
   | arr e k xs =>
    simp only [hH] at h
    simp only [g1,bkB,g2]
    exact h
 have hptrR : ∀ i j f v,ptrRel ρ2 H2 i j f v→ptrRel ρ' (mergeH ids H H2) (backI ids H.length i) j f v:=fun i j f v h=>by
  unfold ptrRel at h ⊢
  cases hH:H2[i]? with
  | none=>simp [hH] at h
  | some ob =>
   obtain ⟨g1,g2⟩:=hback i ob hH
   cases ob with
   | dead=>simp [g1,bkB]
   | box e cs =>
    simp only [hH] at h
    simp only [g1,bkB,g2]
    exact h
   | iter s p =>
    simp only [hH] at h
    simp only [g1,bkB,g2]
    exact h
   | arr e k xs =>
    simp only [hH] at h
    simp only [g1,bkB,g2]
    exact h
 have key : ∀ n,(∀ (d:DV) (v:Value),SizeOf.sizeOf d≤n→RD w' ((⟨w,Oc,rhoOf ids ρ,heapOf ids H⟩:Cx).X ρ2 H2) ρ2 H2 d v→RD w' (c.X ρ' (mergeH ids H H2)) ρ' (mergeH ids H H2) (bk ids H.length d) v) ∧
   (∀ (ds:List DV) (vs:List Value),SizeOf.sizeOf ds≤n→(RDs w' ((⟨w,Oc,rhoOf ids ρ,heapOf ids H⟩:Cx).X ρ2 H2) ρ2 H2 ds vs→RDs w' (c.X ρ' (mergeH ids H H2)) ρ' (mergeH ids H H2) (bkL ids H.length ds) vs) ∧
    (RDt w' ((⟨w,Oc,rhoOf ids ρ,heapOf ids H⟩:Cx).X ρ2 H2) ρ2 H2 ds vs→RDt w' (c.X ρ' (mergeH ids H H2)) ρ' (mergeH ids H H2) (bkL ids H.length ds) vs)):=by
  intro n
  induction n with
  | zero =>
   refine ⟨fun x v hx => ?_,fun xs vs hx => ?_⟩
   ·cases x<;>simp at hx
   ·cases xs<;>simp at hx
  | succ n ih =>
   refine ⟨fun x v hx h => ?_,fun xs vs hx=>⟨fun h => ?_,fun h => ?_⟩⟩
   ·cases x with
    | any=>simp only [bk]; unfold RD; trivial
    | undef=>simp only [bk]; unfold RD at h ⊢; exact h
    | p x=>simp only [bk]; unfold RD at h ⊢; exact RP_mono hpX x v h
    | nil=>simp only [bk]; unfold RD at h ⊢; exact h
    | own i off len=>simp only [bk]; unfold RD at h ⊢; exact hownR i off len v h
    | ptr i j f=>simp only [bk]; unfold RD at h ⊢; exact hptrR i j f v h
    | rptr k xs j f =>
     simp only [bk]
     unfold RD at h ⊢
     obtain ⟨b,o,hv,hbb,hX,hr,hj⟩:=h
     obtain ⟨e,n⟩:=hpX.keep b hbb hX
     exact ⟨b,o,hv,hbb,n,RRow_mono hpX k b e o xs hr,hj⟩
    | agg cs =>
     simp only [bk]
     unfold RD at h ⊢
     obtain ⟨vs,hv,h⟩:=h
     exact ⟨vs,hv,(ih.2 cs vs (by simp at hx; omega)).1 h⟩
    | tup cs =>
     simp only [bk]
     unfold RD at h ⊢
     obtain ⟨vs,hv,h⟩:=h
     exact ⟨vs,hv,(ih.2 cs vs (by simp at hx; omega)).2 h⟩
   ·cases xs with
    | nil=>simp only [bkL]; unfold RDs at h ⊢; exact h
    | cons x xs =>
     simp only [bkL]
     unfold RDs at h ⊢
     obtain ⟨v,vs',hv,h1,h2,h3⟩:=h
     simp at hx
     exact ⟨v,vs',hv,h1,ih.1 x v (by omega) h2,(ih.2 xs vs' (by omega)).1 h3⟩
   ·cases xs with
    | nil=>simp only [bkL]; unfold RDt at h ⊢; exact h
    | cons x xs =>
     simp only [bkL]
     unfold RDt at h ⊢
     obtain ⟨v,vs',hv,h2,h3⟩:=h
     simp at hx
     exact ⟨v,vs',hv,ih.1 x v (by omega) h2,(ih.2 xs vs' (by omega)).2 h3⟩
 refine ⟨ρ',st.next hk.os hk.tape hk.output hk.size (fun b hbb hn => ?_) hstep st.lenH0 fun hp => ?_,(key (SizeOf.sizeOf d)).1 d v (Nat.le_refl _) hd⟩
 ·obtain ⟨e,n⟩:=hsame b hbb fun h=>hn (hown_ids b h)
  refine ⟨e,fun h => ?_⟩
  rcases hownb b h with h|h
  ·exact hn h.1
  ·exact n h
 ·have hml:(mergeH ids H H2).length=H.length+(H2.length - ids.length):=by
   unfold mergeH
   simp [putAll_length]
  refine ⟨?_,fun i ob hi => ?_,fun i1 i2 b o1 o2 h1 l1 h2 l2 r1 r2 => ?_,fun b hb => .inr hb⟩
  ·rw [hml]
   show (ρ ++ ρ2.drop ids.length).length=_
   rw [List.length_append,List.length_drop,hlen,hl2']
  ·rcases hcases i ob hi with ⟨g1,g2,g3⟩|⟨j,ob2,g1,g2,g3⟩
   ·exact obRel_mono hp hstep (hρo i g1) (fun hl b hb'=>(hsame b (own_lt st g3 hl hb') (hnot g3 hl g2 hb')).1) (st.h.ob i ob g3)
   ·subst g2
    subst g3
    have h:=hh.ob j ob2 g1
    have hr:=(hback j ob2 g1).2
    cases ob2 with
    | dead=>trivial
    | arr e k xs =>
     obtain ⟨hk0,h⟩:=h
     refine ⟨hk0,?_⟩
     rw [hr]
     rcases h with h|⟨b,cur,a1,a2,a3,a4⟩
     ·exact .inl h
     ·exact .inr ⟨b,cur,a1,a2,a3,RRow_mono hpX k b rfl 0 xs a4⟩
    | box e cs =>
     obtain ⟨b,cur,a1,a2,a3⟩:=h
     exact ⟨b,cur,hr.trans a1,a2,((key (SizeOf.sizeOf cs)).2 cs _ (Nat.le_refl _)).1 a3⟩
    | iter s p =>
     obtain ⟨b,a1,a2⟩:=h
     exact ⟨b,hr.trans a1,a2⟩
  ·have hmix : ∀ {i b:Nat} {o:OB} {j:Nat} {ob2:OB},i<H.length→i ∉ ids→H[i]? = some o→o.live=true → ρ[i]? = some (some b)→H2[j]? = some ob2→ob2.live=true → ρ2[j]? = some (some b)→False:=fun {i b o j ob2} g1 g2 g3 g4 g5 g6 g7 g8=>by
    exact (hsame b (own_lt st g3 g4 g5) (hnot g3 g4 g2 g5)).2 ⟨j,ob2,g6,g7,g8⟩
   rcases hcases i1 o1 h1 with ⟨a1,a2,a3⟩|⟨j1,p1,a1,a2,a3⟩<;>rcases hcases i2 o2 h2 with ⟨b1,b2,b3⟩|⟨j2,p2,b1,b2,b3⟩
   ·rw [hρo i1 a1] at r1
    rw [hρo i2 b1] at r2
    exact st.h.inj i1 i2 b o1 o2 a3 l1 b3 l2 r1 r2
   ·subst b2
    subst b3
    rw [bkB_live] at l2
    rw [hρo i1 a1] at r1
    rw [(hback j2 p2 b1).2] at r2
    exact (hmix a1 a2 a3 l1 r1 b1 l2 r2).elim
   ·subst a2
    subst a3
    rw [bkB_live] at l1
    rw [hρo i2 b1] at r2
    rw [(hback j1 p1 a1).2] at r1
    exact (hmix b1 b2 b3 l2 r2 a1 l1 r1).elim
   ·subst a2
    subst a3
    subst b2
    subst b3
    rw [bkB_live] at l1 l2
    rw [(hback j1 p1 a1).2] at r1
    rw [(hback j2 p2 b1).2] at r2
    rw [hh.inj j1 j2 b p1 p2 a1 l1 b1 l2 r1 r2]
end
end Go.Dv
namespace Go.Dv
mutual
def detP:PV→Prop
 | .sl _ _=>False
 | .agg cs=>detPs cs
 | _=>True
def detPs:List PV→Prop
 | []=>True
 | x::xs=>detP x∧detPs xs
end
mutual
def detD:DV→Prop
 | .p x=>detP x
 | .tup ds=>detDs ds
 | _=>False
def detDs:List DV→Prop
 | []=>True
 | d::ds=>detD d∧detDs ds
end
mutual
def valP:PV→Value
 | .int k n => .int k n
 | .bool b => .bool b
 | .str s => .string ⟨s.toArray⟩
 | .sl _ _=>undef
 | .agg cs => .agg (valPs cs).toArray
def valPs:List PV→List Value
 | []=>[]
 | x::xs=>valP x::valPs xs
end
mutual
def valD:DV→Value
 | .p x=>valP x
 | .tup ds => .tuple (valDs ds).toArray
 | _=>undef
def valDs:List DV→List Value
 | []=>[]
 | d::ds=>valD d::valDs ds
end
mutual
theorem det_valP {w:World}{X:Nat→Prop} : ∀ (x:PV) (v:Value),detP x→RP w X x v→v=valP x
 | .int k n,v,_,h=>by unfold RP at h; unfold valP; exact h
 | .bool b,v,_,h=>by unfold RP at h; unfold valP; exact h
 | .str s,v,_,h=>by unfold RP at h; unfold valP; exact h
 | .sl k xs,v,hd,_=>by unfold detP at hd; exact hd.elim
 | .agg cs,v,hd,h=>by
  unfold RP at h
  unfold detP at hd
  unfold valP
  obtain ⟨vs,hv,h⟩:=h
  rw [hv,det_valPs cs vs hd h]
theorem det_valPs {w:World}{X:Nat→Prop} : ∀ (xs:List PV) (vs:List Value),detPs xs→RPs w X xs vs→vs=valPs xs
 | [],vs,_,h=>by unfold RPs at h; unfold valPs; exact h
 | x::xs,vs,hd,h=>by
  unfold RPs at h
  unfold detPs at hd
  unfold valPs
  obtain ⟨v,vs',hv,_,h1,h2⟩:=h
  rw [hv,det_valP x v hd.1 h1,det_valPs xs vs' hd.2 h2]
end
mutual
theorem det_valD {w:World}{X:Nat→Prop}{ρ : Rho}{H:Heap} : ∀ (d:DV) (v:Value),detD d→RD w X ρ H d v→v=valD d
 | .p x,v,hd,h=>by unfold RD at h; unfold detD at hd; unfold valD; exact det_valP x v hd h
 | .tup ds,v,hd,h=>by
  unfold RD at h
  unfold detD at hd
  unfold valD
  obtain ⟨vs,hv,h⟩:=h
  rw [hv,det_valDs ds vs hd h]
 | .any,v,hd,_=>by unfold detD at hd; exact hd.elim
 | .undef,v,hd,_=>by unfold detD at hd; exact hd.elim
 | .nil,v,hd,_=>by unfold detD at hd; exact hd.elim
 | .own ..,v,hd,_=>by unfold detD at hd; exact hd.elim
 | .ptr ..,v,hd,_=>by unfold detD at hd; exact hd.elim
 | .rptr ..,v,hd,_=>by unfold detD at hd; exact hd.elim
 | .agg ..,v,hd,_=>by unfold detD at hd; exact hd.elim
theorem det_valDs {w:World}{X:Nat→Prop}{ρ : Rho}{H:Heap} : ∀ (ds:List DV) (vs:List Value),detDs ds→RDt w X ρ H ds vs→vs=valDs ds
 | [],vs,_,h=>by unfold RDt at h; unfold valDs; exact h
 | x::xs,vs,hd,h=>by
  unfold RDt at h
  unfold detDs at hd
  unfold valDs
  obtain ⟨v,vs',hv,h1,h2⟩:=h
  rw [hv,det_valD x v hd.1 h1,det_valDs xs vs' hd.2 h2]
end
mutual
theorem det_anyP {w w':World}{X X':Nat→Prop} : ∀ (x:PV) (v:Value),detP x→RP w X x v→RP w' X' x v
 | .int k n,v,_,h=>by unfold RP at h ⊢; exact h
 | .bool b,v,_,h=>by unfold RP at h ⊢; exact h
 | .str s,v,_,h=>by unfold RP at h ⊢; exact h
 | .sl k xs,v,hd,_=>by unfold detP at hd; exact hd.elim
 | .agg cs,v,hd,h=>by
  unfold RP at h ⊢
  unfold detP at hd
  obtain ⟨vs,hv,h⟩:=h
  exact ⟨vs,hv,det_anyPs cs vs hd h⟩
theorem det_anyPs {w w':World}{X X':Nat→Prop} : ∀ (xs:List PV) (vs:List Value),detPs xs→RPs w X xs vs→RPs w' X' xs vs
 | [],vs,_,h=>by unfold RPs at h ⊢; exact h
 | x::xs,vs,hd,h=>by
  unfold RPs at h ⊢
  unfold detPs at hd
  obtain ⟨v,vs',hv,h0,h1,h2⟩:=h
  exact ⟨v,vs',hv,h0,det_anyP x v hd.1 h1,det_anyPs xs vs' hd.2 h2⟩
end
mutual
theorem det_anyD {w w':World}{X X':Nat→Prop}{ρ ρ':Rho}{H H':Heap} : ∀ (d:DV) (v:Value),detD d→RD w X ρ H d v→RD w' X' ρ' H' d v
 | .p x,v,hd,h=>by unfold RD at h ⊢; unfold detD at hd; exact det_anyP x v hd h
 | .tup ds,v,hd,h=>by
  unfold RD at h ⊢
  unfold detD at hd
  obtain ⟨vs,hv,h⟩:=h
  exact ⟨vs,hv,det_anyDs ds vs hd h⟩
 | .any,v,hd,_=>by unfold detD at hd; exact hd.elim
 | .undef,v,hd,_=>by unfold detD at hd; exact hd.elim
 | .nil,v,hd,_=>by unfold detD at hd; exact hd.elim
 | .own ..,v,hd,_=>by unfold detD at hd; exact hd.elim
 | .ptr ..,v,hd,_=>by unfold detD at hd; exact hd.elim
 | .rptr ..,v,hd,_=>by unfold detD at hd; exact hd.elim
 | .agg ..,v,hd,_=>by unfold detD at hd; exact hd.elim
theorem det_anyDs {w w':World}{X X':Nat→Prop}{ρ ρ':Rho}{H H':Heap} : ∀ (ds:List DV) (vs:List Value),detDs ds→RDt w X ρ H ds vs→RDt w' X' ρ' H' ds vs
 | [],vs,_,h=>by unfold RDt at h ⊢; exact h
 | x::xs,vs,hd,h=>by
  unfold RDt at h ⊢
  unfold detDs at hd
  obtain ⟨v,vs',hv,h1,h2⟩:=h
  exact ⟨v,vs',hv,det_anyD x v hd.1 h1,det_anyDs xs vs' hd.2 h2⟩
end
def callP (P:Program)(f:FuncId)(args:List DV)(H:Heap)(K:DV→Heap→Prop):Prop :=
 ∃ (ids:List Nat) (args':List DV) (Q:DV→Heap→Prop),ids.Nodup∧(∀ i∈ids,i<H.length)∧Ok P f args' (heapOf ids H) Q ∧
  ((ArgsP ids args args' ∧ ∀ d H2,Q d H2→K (bk ids H.length d) (mergeH ids H H2)) ∨
   (ids=[]∧ArgsB H args args' ∧ ∀ d H2,Q d H2→flatD d∧flatH H2∧K (bk ids H.length d) (mergeH ids H H2)))
def callQ (P:Program)(f:FuncId)(args:List DV)(H:Heap)(K:DV→Heap→Prop):Prop :=
 ∃ (args':List DV) (d0:DV),Ok P f args' [] (fun d H2=>d=d0∧H2=[])∧ArgsB H args args'∧detD d0∧K d0 H
def mdP (P:Program)(nin:Nat):Md:=⟨fun q=>if q then callQ P else callP P,nin⟩
section
variable {P:Program} {c:Cx} {ρ : Rho} {env:Env} {H:Heap} {w:World} {tmps:Array Value}
theorem hrel_pack {X X':Nat→Prop}(hh:HRel w X ρ H){ids:List Nat}(hnd:ids.Nodup)(hp:Pres w X w X')(hown : ∀ b,ownB (rhoOf ids ρ) (heapOf ids H) b→X' b):HRel w X' (rhoOf ids ρ) (heapOf ids H):=by
 have hl:=hh.len
 have hpos : ∀ {j1 j2 i:Nat},ids[j1]? = some i→ids[j2]? = some i→j1=j2:=fun {j1 j2 i} h1 h2=>by
  have l1:=lt_of_get h1
  exact (List.getElem?_inj l1 hnd).1 (h1.trans h2.symm)
 refine ⟨by simp [rhoOf,heapOf],fun j ob hj => ?_,fun j1 j2 b o1 o2 h1 l1 h2 l2 r1 r2 => ?_,hown⟩
 ·obtain ⟨i,g1,g2⟩:=heapOf_get hj
  cases ho:H.getD i .dead with
  | dead =>
   rw [ho] at g2
   subst g2
   trivial
  | arr e k xs =>
   have hH:=getD_live ho.symm rfl
   have hr:=rhoOf_get (ρ := ρ) g1 (by rw [hl]; exact lt_of_get hH)
   rw [ho] at g2
   subst g2
   obtain ⟨hk,h⟩:=hh.ob i _ hH
   refine ⟨hk,?_⟩
   rw [hr]
   rcases h with h|⟨b,cur,a1,a2,a3,a4⟩
   ·exact .inl h
   ·exact .inr ⟨b,cur,a1,a2,a3,RRow_mono hp k b rfl 0 xs a4⟩
  | box e cs =>
   have hH:=getD_live ho.symm rfl
   have hr:=rhoOf_get (ρ := ρ) g1 (by rw [hl]; exact lt_of_get hH)
   rw [ho] at g2
   subst g2
   obtain ⟨b,cur,a1,a2,a3⟩:=hh.ob i _ hH
   exact ⟨b,cur,hr.trans a1,a2,RDs_pack hp hl ids _ _ a3⟩
  | iter s p =>
   have hH:=getD_live ho.symm rfl
   have hr:=rhoOf_get (ρ := ρ) g1 (by rw [hl]; exact lt_of_get hH)
   rw [ho] at g2
   subst g2
   obtain ⟨b,a1,a2⟩:=hh.ob i _ hH
   exact ⟨b,hr.trans a1,a2⟩
 ·obtain ⟨i1,g1,g2⟩:=heapOf_get h1
  obtain ⟨i2,g3,g4⟩:=heapOf_get h2
  subst g2
  subst g4
  rw [renB_live] at l1 l2
  have hH1:=getD_live rfl l1
  have hH2:=getD_live rfl l2
  rw [rhoOf_get g1 (by rw [hl]; exact lt_of_get hH1)] at r1
  rw [rhoOf_get g3 (by rw [hl]; exact lt_of_get hH2)] at r2
  have:=hh.inj i1 i2 b _ _ hH1 l1 hH2 l2 r1 r2
  subst this
  exact hpos g1 g3
theorem argsP_rel {X X':Nat→Prop}(hp:Pres w X w X')(hl : ρ.length=H.length){ids:List Nat} : ∀ {args args':List DV} {vs:List Value},ArgsP ids args args'→RDt w X ρ H args vs→RDt w X' (rhoOf ids ρ) (heapOf ids H) args' vs
 | [],args',vs,ha,h=>by
  unfold ArgsP at ha
  subst ha
  unfold RDt at h ⊢
  exact h
 | d::ds,args',vs,ha,h=>by
  unfold ArgsP at ha
  obtain ⟨d',ds',rfl,h1,h2⟩:=ha
  unfold RDt at h ⊢
  obtain ⟨v,vs',rfl,h3,h4⟩:=h
  refine ⟨v,vs',rfl,?_,argsP_rel hp hl h2 h4⟩
  rcases h1 with rfl|⟨x,h1,rfl⟩
  ·exact RD_pack hp hl ids _ _ h3
  ·unfold RD
   exact RP_mono hp _ _ (pvOf_rel h1 h3)
theorem viewOf_rel {X:Nat→Prop}{X':Nat→Prop}(hh:HRel w X ρ H)(hX : ∀ b,¬ X' b){d:DV}{x:PV}{v:Value}:viewOf H d=some x→RD w X ρ H d v→RP w X' x v :=
 view_rel ⟨hh,⟨Nat.le_refl _,fun b _ _=>⟨rfl,hX b⟩⟩,fun _ _ h _=>⟨h,fun b _=>hX b⟩⟩
theorem argsB_rel {X X':Nat→Prop}{ρ':Rho}{H':Heap}(hh:HRel w X ρ H)(hX : ∀ b,¬ X' b) : ∀ {args args':List DV} {vs:List Value},ArgsB H args args'→RDt w X ρ H args vs→RDt w X' ρ' H' args' vs
 | [],args',vs,ha,h=>by
  unfold ArgsB at ha
  subst ha
  unfold RDt at h ⊢
  exact h
 | d::ds,args',vs,ha,h=>by
  unfold ArgsB at ha
  obtain ⟨d',ds',rfl,⟨x,h1,rfl⟩,h2⟩:=ha
  unfold RDt at h ⊢
  obtain ⟨v,vs',rfl,h3,h4⟩:=h
  exact ⟨v,vs',rfl,by unfold RD; exact viewOf_rel hh hX h1 h3,argsB_rel hh hX h2 h4⟩
theorem own_empty (b:Nat) : ¬ ownB [] [] b:=by
 rintro ⟨i,ob,h,_⟩
 simp at h
theorem hrel_empty (X:Nat→Prop):HRel w X [] []:=⟨rfl,fun i ob h=>by simp at h,fun i j b oi oj h=>by simp at h,fun b h=>absurd h (own_empty b)⟩
theorem sane (nin:Nat):Sane P (mdP P nin) where
 plain:=by
  intro f args H K h c ρ env tmps w vs st hargs
  have h:callP P f args H K:=h
  obtain ⟨ids,args',Q,hnd,hb,hok,h⟩:=h
  have hlen:=st.h.len
  rcases h with ⟨ha,hK⟩|⟨rfl,ha,hK⟩
  ·let Oc:Nat→Prop:=fun b=>c.O0 b∨(ownB ρ H b ∧ ¬ ownB (rhoOf ids ρ) (heapOf ids H) b)
   have hp:Pres w (c.X ρ H) w ((⟨w,Oc,rhoOf ids ρ,heapOf ids H⟩:Cx).X (rhoOf ids ρ) (heapOf ids H)):=⟨Nat.le_refl _,fun b _ hn=>⟨rfl,fun h=>hn (by
    rcases h with (h|h)|h
    ·exact .inl h
    ·exact .inr h.1
    ·exact .inr (own_pack hlen h))⟩⟩
   refine (hok w Oc (rhoOf ids ρ) vs (fun b hb => ?_) (hrel_pack st.h hnd hp fun b hb => .inr hb) (argsP_rel hp hlen ha hargs)).mono fun e w' hh => ?_
   ·rcases hb with hb|hb
    ·obtain ⟨h1,h2⟩:=st.o b hb
     refine ⟨Nat.lt_of_lt_of_le h1 st.k.size,fun h=>(st.k.keep b h1 h2).2 (own_pack hlen h)⟩
    ·obtain ⟨⟨i,ob,g1,g2,g3⟩,hn⟩:=hb
     exact ⟨own_lt st g1 g2 g3,hn⟩
   ·obtain ⟨v,d,H2,ρ2,rfl,hq,k1,k2,k3,k4⟩:=hh
    obtain ⟨ρ',g1,g2⟩:=call_finish st hnd hb (fun b=>Iff.rfl) k1 k2 k3 k4
    exact ⟨v,_,ρ',_,rfl,hK d H2 hq,g1,g2⟩
  ·have hX0 : ∀ (ρ2:Rho) (H2:Heap) b,(⟨w,fun _=>False,[],[]⟩:Cx).X ρ2 H2 b→ownB ρ2 H2 b:=fun ρ2 H2 b h=>h.elim (fun h=>h.elim) id
   refine (hok w (fun _=>False) [] vs (fun b hb=>hb.elim) (hrel_empty _) (argsB_rel st.h (fun b h=>own_empty b (hX0 _ _ b h)) ha hargs)).mono fun e w' hh => ?_
   obtain ⟨v,d,H2,ρ2,rfl,hq,k1,k2,k3,k4⟩:=hh
   obtain ⟨f1,f2,hKd⟩:=hK d H2 hq
   let Oc:Nat→Prop:=fun b=>c.O0 b∨(ownB ρ H b ∧ ¬ ownB (rhoOf [] ρ) (heapOf [] H) b)
   have hh2:HRel w' ((⟨w,Oc,rhoOf [] ρ,heapOf [] H⟩:Cx).X ρ2 H2) ρ2 H2:=by
    refine ⟨k1.len,fun i ob hi => ?_,k1.inj,fun b hb => .inr hb⟩
    have hfl:=flatH_get f2 hi
    have h:=k1.ob i ob hi
    cases ob with
    | dead=>trivial
    | arr e k xs =>
     obtain ⟨hk,h⟩:=h
     refine ⟨hk,?_⟩
     rcases h with h|⟨b,cur,a1,a2,a3,a4⟩
     ·exact .inl h
     ·exact .inr ⟨b,cur,a1,a2,a3,flat_row hfl a4⟩
    | box e cs =>
     obtain ⟨b,cur,a1,a2,a3⟩:=h
     exact ⟨b,cur,a1,a2,flat_RDs _ _ hfl a3⟩
    | iter s p=>exact h
   obtain ⟨ρ',g1,g2⟩:=call_finish st (ids:=[]) List.nodup_nil (by simp) (Oc:=Oc) (fun b=>Iff.rfl) hh2 (flat_RD _ _ f1 k2) ⟨k3.os,k3.tape,k3.output,k3.size,k3.keep⟩ k4
   exact ⟨v,_,ρ',_,rfl,hKd,g1,g2⟩
 quiet:=by
  intro f args H K h c ρ env tmps w vs st hargs
  have h:callQ P f args H K:=h
  obtain ⟨args',d0,hok,ha,hdet,hK⟩:=h
  have hX0 : ∀ (w:World) (ρ2:Rho) (H2:Heap) b,(⟨w,fun _=>False,[],[]⟩:Cx).X ρ2 H2 b→ownB ρ2 H2 b:=fun w ρ2 H2 b h=>h.elim (fun h=>h.elim) id
  have hrun : ∀ w',Later w w'→Calls P f vs.toArray w' fun e w''=>e = .returned (valD d0)∧RD w'' (fun _=>True) [] [] d0 (valD d0)∧Later w' w'':=fun w' hl=>by
   have st':=st.agree hl.a hl.os hl.tape hl.output
   have hp:Pres w (c.X ρ H) w' (c.X ρ H):=⟨hl.a.size,fun b hb hn=>⟨hl.a.keep b hb,hn⟩⟩
   have hs:HStep w ρ H w' ρ H:=⟨fun _ _=>rfl,fun _ h=>h,fun _ _ _ xs h => .inr ⟨xs,h,Nat.le_refl _,fun b cur _ hc=>⟨cur,(hl.a.keep b (Array.getElem?_eq_some_iff.1 hc).1).trans hc,rfl⟩⟩,fun _ _ cs h => .inr ⟨cs,h⟩,fun _ _ p h => .inr ⟨p,h⟩⟩
   have hargs':=RDt_mono hp hs _ _ hargs
   refine (hok w' (fun _=>False) [] vs (fun b hb=>hb.elim) (hrel_empty _) (argsB_rel st'.h (fun b h=>own_empty b (hX0 _ _ _ b h)) ha hargs')).mono fun e w'' hh => ?_
   obtain ⟨v,d,H2,ρ2,rfl,⟨rfl,rfl⟩,k1,k2,k3,k4⟩:=hh
   have hv:=det_valD d v hdet k2
   subst hv
   have hnil : ρ2=[]:=List.eq_nil_of_length_eq_zero k1.len
   subst hnil
   exact ⟨rfl,det_anyD _ _ hdet k2,⟨k3.size,fun b hb=>(k3.keep b hb (own_empty b)).1⟩,k3.os,k3.tape,k3.output⟩
  obtain ⟨e,w'',fr,⟨_,hr,_⟩,_⟩:=hrun w (Later.refl w) []
  exact ⟨d0,valD d0,hK,det_anyD _ _ hdet hr,fun w' hl=>(hrun w' hl).mono fun e w2 ⟨h1,_,h3⟩=>⟨h1,h3⟩⟩
end
end Go.Dv

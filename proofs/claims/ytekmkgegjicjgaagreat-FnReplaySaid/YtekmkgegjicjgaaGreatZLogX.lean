import Derived.Test.YtekmkgegjicjgaaGreatZIr2
import Derived.Test.YtekmkgegjicjgaaGreatZBas
import Derived.Test.YtekmkgegjicjgaaGreatZLogs
namespace Go.Proofs.YtekmkgegjicjgaaGreat
open Go.Dv Go.Dv.EvL
set_option maxRecDepth 100000
set_option maxHeartbeats 16000000
attribute [local irreducible] Ok Rm Dm Om Sm Xm Cm Gm Hm Tm
def recsO (l:Lg):List Rec:=if logB l=true then (openS (l.dur++l.pend)).1 else []
theorem recsO_len (l:Lg):(recsO l).length≤60:=by
 have:=openS_bound (l.dur++l.pend)
 unfold recsO
 split
 ·omega
 ·simp
def RecsD (l:Lg)(d:DV)(H:Heap):Prop:=d = .tup [.own 0 0 (recsO l).length,.p (.bool (logB l))]∧H=[.arr 71 2 ((recsO l).map Rec.pv)]
theorem k_sLogRecs (l:Lg)(h1:l.dur.length≤1073741824)(h2:l.pend.length≤1073741824):Okw Tryz.prog 64 [l.pv] (RecsD l):=by
 refine ok_D hmix c_spec_LogRecords (by simp) ?_
 have ha:=k_l27Log l h1 h2
 have hb:=k_l27Open (l.dur++l.pend) (by simp; omega)
 unfold RecsD recsO
 cases hv:logB l
 ·rw [hv] at ha
  rw [lg_pv l] at *
  refine sA ?_
  repeat' (first|refine sA ?_|refine sN ?_|refine rW rfl (ha) ?_|refine rV (ha) ?_|refine sB ?_|refine sX ?_ ?_<;>(try intro h)<;>(try omega)|exact sP|refine rK ?_|exact sQ|refine sD ?_|rfl|exact sE|omega)
 ·rw [hv] at ha
  rw [if_pos rfl]
  generalize openS (l.dur++l.pend)=X at *
  rw [lg_pv l] at *
  refine sA ?_
  repeat' (first|refine sA ?_|refine sN ?_|refine rW rfl (ha) ?_|refine rV (ha) ?_|(refine Rm_o hb rfl (fun r H2 hh => ?_); obtain ⟨rfl,rfl⟩:=hh)|refine sB ?_|refine sX ?_ ?_<;>(try intro h)<;>(try omega)|exact sP|refine rK ?_|exact sQ|refine sD ?_|rfl|exact sE|omega)
theorem k_iLogRecs (l:Lg)(h1:l.dur.length≤1073741824)(h2:l.pend.length≤1073741824):Okw Tryz.prog 37 [l.pv] fun d H=>RecsD l d H∨(d = .tup [.nil,.p (.bool (logB l))]∧H=[]∧recsO l=[]):=by
 refine ok_D hmix c_impl_LogRecords (by simp) ?_
 have ha:=k_iValidLog l h1 h2
 have hb:=k_recovered (l.dur++l.pend) (by simp; omega)
 unfold RecsD recsO
 cases hv:logB l
 ·rw [hv] at ha
  rw [lg_pv l] at *
  refine sA ?_
  repeat' (first|refine sA ?_|refine sN ?_|refine rW rfl (ha) ?_|refine rV (ha) ?_|refine sB ?_|refine sX ?_ ?_<;>(try intro h)<;>(try omega)|exact sP|refine rK ?_|exact sQ|refine sD ?_|rfl|exact sE|omega)
  exact ret_gen _ _ _ rfl rfl rfl (.inr ⟨rfl,rfl⟩)
 ·rw [hv] at ha
  rw [if_pos rfl]
  generalize openS (l.dur++l.pend)=X at *
  rw [lg_pv l] at *
  refine sA ?_
  repeat' (first|refine sA ?_|refine sN ?_|refine rW rfl (ha) ?_|refine rV (ha) ?_|(refine Rm_o hb rfl (fun r H2 hh => ?_); rcases hh with ⟨rfl,rfl⟩|⟨rfl,rfl,hn⟩)|refine sB ?_|refine sX ?_ ?_<;>(try intro h)<;>(try omega)|exact sP|refine rK ?_|exact sQ|refine sD ?_|rfl|exact sE|omega)
  ·exact ret_gen _ _ _ rfl rfl rfl (.inl ⟨rfl,rfl⟩)
  ·exact ret_gen _ _ _ rfl rfl rfl (.inr ⟨rfl,rfl,hn⟩)
theorem recs_pl {f:FuncId}{ps:List PV}{l:Lg}(h:Okw Tryz.prog f ps (RecsD l)):Okv Tryz.prog f ps (.tup [.p (.sl 2 ((recsO l).map Rec.pv)),.p (.bool (logB l))]):=by
 refine ok_frz h fun d H h=>⟨fun ob ho=>by simp at ho,_,?_,rfl,by simp⟩
 obtain ⟨rfl,rfl⟩:=h
 refine .inr ⟨_,[.sl 2 ((recsO l).map Rec.pv),.bool (logB l)],rfl,?_,rfl⟩
 simp [hid,viewOf,viewOfs,List.take_of_length_le]
theorem k_sLogRecsP (l:Lg)(h1:l.dur.length≤1073741824)(h2:l.pend.length≤1073741824):Okv Tryz.prog 64 [l.pv] (.tup [.p (.sl 2 ((recsO l).map Rec.pv)),.p (.bool (logB l))]):=recs_pl (k_sLogRecs l h1 h2)
theorem k_iLogRecsP (l:Lg)(h1:l.dur.length≤1073741824)(h2:l.pend.length≤1073741824):Okv Tryz.prog 37 [l.pv] (.tup [.p (.sl 2 ((recsO l).map Rec.pv)),.p (.bool (logB l))]):=by
 refine recs_pl (nil_own 71 2 (by decide) (k_iLogRecs l h1 h2) fun d H hh => ?_)
 rcases hh with hh|⟨rfl,rfl,h3⟩
 ·exact .inl hh
 ·refine .inr ⟨[.bool (logB l)],⟨trivial,trivial⟩,rfl,rfl,?_⟩
  unfold RecsD
  rw [h3]
  exact ⟨rfl,rfl⟩
end Go.Proofs.YtekmkgegjicjgaaGreat
namespace Go.Proofs.YtekmkgegjicjgaaGreat
open Go.Dv Go.Dv.EvL
set_option maxRecDepth 100000
set_option maxHeartbeats 16000000
attribute [local irreducible] Ok Rm Dm Om Sm Xm Cm Gm Hm Tm
theorem head_part {b:UInt8}{s:List UInt8}(h:b∈s) : ∃ L r,b ∉ L∧s=L++b::r:=by
 obtain ⟨L,r,e,h2⟩:=List.eq_append_cons_of_mem h
 exact ⟨L,r,h2,e⟩
theorem openR_none {m k:Nat}{s:List UInt8}(h:(10:UInt8) ∉ s):openR m k s=([],0):=open_stop (.inr (.inl h))
theorem openR_cons {m k:Nat}{L r:List UInt8}(h:(10:UInt8) ∉ L):openR (m+1) k (L++10::r)=if (readR L k).2=true then ((readR L k).1::(openR m (k+1) r).1,L.length+1+(openR m (k+1) r).2) else ([],0):=by
 have hm:(10:UInt8)∈L++10::r:=by simp
 by_cases hr:(readR L k).2=true
 ·rw [if_pos hr,open_go (L:=L) (e:=(readR L k).1) hm (headB_app h) (by rw [← hr])]
  have:(L++10::r).drop (L.length+1)=r:=by
   rw [← List.drop_drop,List.drop_left]
   rfl
  rw [this]
 ·rw [if_neg hr,open_stop (.inr (.inr (by rw [headB_app h]; simpa using hr)))]
theorem openR_app : ∀ (m k:Nat) (s t:List UInt8),(openR m k s).2=s.length→(openR m k (s++t)).1=(openR m k s).1++(openR (m - (openR m k s).1.length) (k+(openR m k s).1.length) t).1 ∧
  (openR m k (s++t)).2=s.length+(openR (m - (openR m k s).1.length) (k+(openR m k s).1.length) t).2
 | 0,k,s,t,h=>by
  have:s=[]:=List.eq_nil_of_length_eq_zero (by simpa [openR] using h.symm)
  subst this
  simp [openR]
 | m+1,k,s,t,h=>by
  by_cases hm:(10:UInt8)∈s
  ·obtain ⟨L,r,hL,rfl⟩:=head_part hm
   rw [List.append_assoc,List.cons_append,openR_cons hL,openR_cons hL] at *
   by_cases hr:(readR L k).2=true
   ·rw [if_pos hr] at h
    rw [if_pos hr,if_pos hr]
    simp only [List.length_append,List.length_cons] at h
    obtain ⟨g1,g2⟩:=openR_app m (k+1) r t (by omega)
    simp only [List.length_cons,List.length_append,List.cons_append]
    rw [show m+1 - ((openR m (k+1) r).1.length+1)=m - (openR m (k+1) r).1.length from by omega,show k+((openR m (k+1) r).1.length+1)=k+1+(openR m (k+1) r).1.length from by omega,g1,g2]
    exact ⟨rfl,by omega⟩
   ·rw [if_neg hr] at h
    simp at h
  ·rw [openR_none hm] at h
   have:s=[]:=List.eq_nil_of_length_eq_zero h.symm
   subst this
   rw [openR_none (s:=[]) (by simp)]
   simp
theorem openR_fix : ∀ (m k:Nat) (s:List UInt8),openR m k (s.take (openR m k s).2)=openR m k s
 | 0,k,s=>rfl
 | m+1,k,s=>by
  by_cases hm:(10:UInt8)∈s
  ·obtain ⟨L,r,hL,rfl⟩:=head_part hm
   rw [openR_cons hL]
   by_cases hr:(readR L k).2=true
   ·rw [if_pos hr]
    have:(L++10::r).take (L.length+1+(openR m (k+1) r).2)=L++10::r.take (openR m (k+1) r).2:=by
     rw [Nat.add_assoc,List.take_length_add_append,Nat.add_comm 1,List.take_succ_cons]
    simp only [this]
    rw [openR_cons hL,if_pos hr,openR_fix m (k+1) r]
   ·rw [if_neg hr]
    exact openR_none (by simp)
  ·rw [openR_none hm]
   exact openR_none (by simp)
theorem openR_torn : ∀ (m k:Nat) (s u:List UInt8) (j:Nat),(10:UInt8) ∉ u→(openR m k (s.take j++u)).1 <+: (openR m k s).1
 | 0,k,s,u,j,_=>by simp [openR]
 | m+1,k,s,u,j,hu=>by
  by_cases hm:(10:UInt8)∈s.take j
  ·obtain ⟨L,r,hL,rfl⟩:=head_part (List.mem_of_mem_take hm)
   have hj:L.length<j:=by
    rcases Nat.lt_or_ge L.length j with h|h
    ·exact h
    ·rw [List.take_append_of_le_length h] at hm
     exact absurd (List.mem_of_mem_take hm) hL
   obtain ⟨i,rfl⟩ : ∃ i,j=L.length+(i+1):=⟨j - L.length - 1,by omega⟩
   rw [List.take_length_add_append,List.take_succ_cons,List.append_assoc,List.cons_append,openR_cons hL,openR_cons hL]
   by_cases hr:(readR L k).2=true
   ·rw [if_pos hr,if_pos hr]
    exact (List.cons_prefix_cons).2 ⟨rfl,openR_torn m (k+1) r u i hu⟩
   ·rw [if_neg hr,if_neg hr]
    exact List.prefix_refl _
  ·rw [openR_none (by simp only [List.mem_append,not_or]; exact ⟨hm,hu⟩)]
   exact List.nil_prefix
theorem seal_10 {k:Nat}{e:Rec}(h:recB e=true) : ∀ c∈seal0 (body k e),c≠10∧c.toNat≤126:=by
 intro c hc
 have hp : ∀ s:List UInt8,plainB s=true→c∈s→c≠10∧c.toNat≤126:=fun s hs hm=>by
  have:=List.all_eq_true.1 hs c hm
  unfold plain1 at this
  have:=of_decide_eq_true this
  exact ⟨fun e=>by subst e; revert this; decide,by omega⟩
 have hd : ∀ n:Nat,c∈dec n→c≠10∧c.toNat≤126:=fun n hm=>by
  have:=dec_digits n c hm
  exact ⟨fun e=>by subst e; revert this; decide,by omega⟩
 simp only [seal0,body,List.mem_append,List.mem_singleton] at hc
 rcases hc with (((((h1|rfl)|h1)|rfl)|h1)|rfl)|h1
 ·exact hd _ h1
 ·decide
 ·exact hp _ (by grind [recB]) h1
 ·decide
 ·exact hp _ (by grind [recB]) h1
 ·decide
 ·exact hd _ h1
theorem read_line {k:Nat}{e:Rec}(h:recB e=true):readR (seal0 (body k e)) k=(e,true):=by
 have h1:headB 35 (seal0 (body k e))=body k e:=by
  unfold seal0
  rw [List.append_assoc]
  exact headB_app (body_35 h)
 have h2:cutL (body k e) 0 (dec k++[32]).length=dec k++[32]:=by
  unfold body cutL
  rw [List.append_assoc,List.append_assoc,List.drop_zero,Nat.sub_zero,List.take_left]
 have h3:cutL (body k e) (dec k++[32]).length (body k e).length=e.cmd++64::e.reply:=by
  rw [cut_end]
  unfold body
  rw [List.append_assoc,List.append_assoc,List.drop_left]
  rfl
 have h4:headB 64 (e.cmd++64::e.reply)=e.cmd:=headB_app (by grind [recB])
 have h5:cutL (e.cmd++64::e.reply) (e.cmd.length+1) (e.cmd++64::e.reply).length=e.reply:=by
  rw [cut_end,← List.drop_drop,List.drop_left]
  rfl
 unfold readR
 simp only [h1,h2,h3,h4,h5]
 rw [if_neg (by
  rintro (h|h)
  ·unfold body at h
   simp only [List.length_append,List.length_cons,List.length_nil] at h
   omega
  ·exact h trivial),if_neg (by simp only [List.length_append,List.length_cons]; omega)]
 simp only [h,lineR,decide_true,Bool.and_true]
theorem read_key {L:List UInt8}{k:Nat}(h:(readR L k).2=true) : ∃ e,recB e=true∧L=seal0 (body k e)∧(readR L k).1=e:=by
 unfold readR at h
 simp only [] at h
 split at h
 ·cases h
 ·split at h
  ·cases h
  ·rename_i h1 h2
   simp only [Bool.and_eq_true,decide_eq_true_eq] at h
   refine ⟨_,h.1,?_,?_⟩
   ·exact (List.append_cancel_right h.2).symm
   ·unfold readR
    simp only []
    rw [if_neg h1,if_neg h2]
theorem openR_line {m k:Nat}{e:Rec}(h:recB e=true):openR (m+1) k (lineR k e)=([e],(lineR k e).length):=by
 unfold lineR
 rw [openR_cons fun hm=>(seal_10 h 10 hm).1 rfl,read_line h,if_pos rfl,openR_none (s:=[]) (by simp)]
 simp
theorem u8_small {a b:Nat}(ha:a<256)(hb:b<256)(h:UInt8.ofNat a=UInt8.ofNat b):a=b:=by
 have:=congrArg UInt8.toNat h
 rwa [UInt8.toNat_ofNat_of_lt' (by show a<256; exact ha),UInt8.toNat_ofNat_of_lt' (by show b<256; exact hb)] at this
theorem dec_inj : ∀ n m:Nat,dec n=dec m→n=m:=fun n=>by
 induction n using Nat.strongRecOn with
 | ind n ih =>
  intro m h
  have key : ∀ a b:Nat,a<10 → ¬ b<10→dec a≠dec b:=fun a b ha hb he=>by
   rw [dec_small ha,dec_big hb] at he
   have h1:=congrArg List.length he
   have h2:=dec_pos (b / 10)
   simp only [List.length_append,List.length_cons,List.length_nil] at h1
   omega
  by_cases hn:n<10
  ·by_cases hm:m<10
   ·rw [dec_small hn,dec_small hm] at h
    have:=u8_small (by omega) (by omega) (List.cons.inj h).1
    omega
   ·exact absurd h (key n m hn hm)
  ·by_cases hm:m<10
   ·exact absurd h.symm (key m n hm hn)
   ·rw [dec_big hn,dec_big hm] at h
    obtain ⟨h1,h2⟩:=List.append_inj' h rfl
    have h3:=ih (n / 10) (by omega) (m / 10) h1
    have h4:=u8_small (by omega) (by omega) (List.cons.inj h2).1
    omega
theorem openR_other {m k j:Nat}{e:Rec}(h:recB e=true)(hk:k≠j):openR m j (lineR k e)=([],0):=by
 cases m with
 | zero=>rfl
 | succ m =>
  unfold lineR
  rw [openR_cons fun hm=>(seal_10 h 10 hm).1 rfl,if_neg]
  intro hr
  obtain ⟨f,hf,e1,_⟩:=read_key hr
  have h1:=congrArg (headB 32) e1
  have h2 : ∀ (n:Nat) (x:Rec),headB 32 (seal0 (body n x))=dec n:=fun n x=>by
   unfold seal0 body
   simp only [List.append_assoc,List.cons_append,List.nil_append]
   exact headB_app (dec_no (by decide))
  rw [h2,h2] at h1
  exact hk (dec_inj _ _ h1)
theorem openR_bytes : ∀ (m k:Nat) (s:List UInt8),(openR m k s).2=s.length → ∀ c∈s,c.toNat≤126
 | 0,k,s,h=>by
  have:s=[]:=List.eq_nil_of_length_eq_zero (by simpa [openR] using h.symm)
  subst this
  simp
 | m+1,k,s,h=>by
  by_cases hm:(10:UInt8)∈s
  ·obtain ⟨L,r,hL,rfl⟩:=head_part hm
   rw [openR_cons hL] at h
   by_cases hr:(readR L k).2=true
   ·rw [if_pos hr] at h
    simp only [List.length_append,List.length_cons] at h
    obtain ⟨e,he,rfl,_⟩:=read_key hr
    intro c hc
    simp only [List.mem_append,List.mem_cons] at hc
    rcases hc with hc|rfl|hc
    ·exact (seal_10 he c hc).2
    ·decide
    ·exact openR_bytes m (k+1) r (by omega) c hc
   ·rw [if_neg hr] at h
    simp at h
  ·rw [openR_none hm] at h
   have:s=[]:=List.eq_nil_of_length_eq_zero h.symm
   subst this
   simp
theorem logB_iff {l:Lg}:logB l=true↔(openS (l.dur++l.pend)).2=l.dur.length+l.pend.length∧(openS l.dur).2=l.dur.length∧l.cnt=(openS (l.dur++l.pend)).1.length:=by
 unfold logB
 simp only [Bool.and_eq_true,decide_eq_true_eq]
 omega
theorem logB_app {l:Lg}{e:Rec}{n:Nat}(h:logB l=true)(hc:l.cnt=n)(hn:n<60)(he:recB e=true) :
  openS (l.dur++(l.pend++lineR n e))=((openS (l.dur++l.pend)).1++[e],l.dur.length+(l.pend.length+(lineR n e).length))∧logB ⟨l.dur,l.pend++lineR n e,l.cnt+1⟩=true:=by
 obtain ⟨h1,h2,h3⟩:=logB_iff.1 h
 have hl:(openS (l.dur++l.pend)).1.length=n:=by omega
 obtain ⟨g1,g2⟩:=openR_app 60 0 (l.dur++l.pend) (lineR n e) (by rw [List.length_append]; exact h1)
 have hX:openR 60 0 (l.dur++l.pend)=openS (l.dur++l.pend):=rfl
 rw [hX,hl,Nat.zero_add,show 60 - n=(59 - n)+1 from by omega,openR_line he] at g1 g2
 have e1:openS (l.dur++(l.pend++lineR n e))=((openS (l.dur++l.pend)).1++[e],l.dur.length+(l.pend.length+(lineR n e).length)):=by
  rw [← List.append_assoc]
  refine Prod.ext g1 ?_
  show (openR 60 0 (l.dur++l.pend++lineR n e)).2=_
  rw [g2,List.length_append]
  simp only []
  omega
 refine ⟨e1,logB_iff.2 ⟨?_,h2,?_⟩⟩
 ·rw [e1]; simp
 ·rw [e1]
  simp only [List.length_append,List.length_cons,List.length_nil]
  omega
theorem logB_rec (s:List UInt8):logB ⟨cutL s 0 (openS s).2,[],(openS s).1.length⟩=true:=by
 have h:=(openS_bound s).2.1
 have e:openS (s.take (openS s).2)=openS s:=openR_fix 60 0 s
 have e2:cutL s 0 (openS s).2=s.take (openS s).2:=by simp [cutL]
 refine logB_iff.2 ⟨?_,?_,?_⟩
 ·simp only [List.append_nil,e2,e,List.length_take,List.length_nil]; omega
 ·simp only [e2,e,List.length_take]; omega
 ·simp only [List.append_nil,e2,e]
theorem sync_rec (s:List UInt8):syncO ⟨cutL s 0 (openS s).2,[],(openS s).1.length⟩=(⟨cutL s 0 (openS s).2,[],(openS s).1.length⟩,true):=by
 unfold syncO
 rw [if_pos (logB_rec s),List.append_nil]
def turnLast (s:List UInt8):List UInt8:=s.set (s.length - 1) (255 - s.getD (s.length - 1) 0)
def crashO (l:Lg)(k:Int)(torn:Bool):List UInt8 × Bool :=
 if logB l=true∧0≤k∧k≤l.pend.length then (l.dur++(if torn=true∧0<k then turnLast (l.pend.take k.toNat) else l.pend.take k.toNat),true) else ([],false)
theorem getD_last {p:List UInt8}{a:UInt8}{n:Nat}(h:p.length=n):(p++[a]).getD n 0=a:=by
 subst h
 simp
theorem set_last {p:List UInt8}{a b:UInt8}{n:Nat}(h:p.length=n):(p++[a]).set n b=p++[b]:=by
 subst h
 simp
theorem turn_at {s:List UInt8}{n:Nat}(h:n<s.length):turnLast (s.take (n+1))=s.take n++[255 - s.getD n 0]:=by
 have e:s.take (n+1)=s.take n++[s.getD n 0]:=take_snoc h
 have hl:(s.take n).length=n:=by rw [List.length_take]; omega
 unfold turnLast
 rw [e,show (s.take n++[s.getD n 0]).length - 1=n from by rw [List.length_append,hl]; rfl,getD_last hl,set_last hl]
theorem crash_keeps {l:Lg}{k:Int}{torn:Bool}(h:(crashO l k torn).2=true):logB l=true∧(openS (crashO l k torn).1).1 <+: (openS (l.dur++l.pend)).1∧l.dur.length≤(openS (crashO l k torn).1).2∧(crashO l k torn).1.length≤l.dur.length+l.pend.length:=by
 unfold crashO at h ⊢
 split at h
 ·rename_i hc
  rw [if_pos hc]
  obtain ⟨hv,hk1,hk2⟩:=hc
  obtain ⟨h1,h2,h3⟩:=logB_iff.1 hv
  have hd:=openR_app 60 0 l.dur l.pend h2
  rw [show openR 60 0 l.dur=openS l.dur from rfl,show openR 60 0 (l.dur++l.pend)=openS (l.dur++l.pend) from rfl] at hd
  have hpend : ∀ c∈l.pend,c.toNat≤126:=openR_bytes (60 - (openS l.dur).1.length) (0+(openS l.dur).1.length) l.pend (by omega)
  have key : ∀ (j:Nat) (u:List UInt8),(10:UInt8) ∉ u→(openS (l.dur++(l.pend.take j++u))).1 <+: (openS (l.dur++l.pend)).1∧l.dur.length≤(openS (l.dur++(l.pend.take j++u))).2:=fun j u hu=>by
   obtain ⟨g1,g2⟩:=openR_app 60 0 l.dur (l.pend.take j++u) h2
   rw [show openR 60 0 l.dur=openS l.dur from rfl,show openR 60 0 (l.dur++(l.pend.take j++u))=openS (l.dur++(l.pend.take j++u)) from rfl] at g1 g2
   rw [g1,g2,hd.1]
   exact ⟨(List.prefix_append_right_inj _).2 (openR_torn _ _ _ _ _ hu),by omega⟩
  refine ⟨hv,?_⟩
  split
  ·rename_i ht
   obtain ⟨n,hn⟩ : ∃ n:Nat,k.toNat=n+1:=⟨k.toNat - 1,by omega⟩
   have hnl:n<l.pend.length:=by omega
   rw [hn,turn_at hnl]
   have hb:=hpend _ (getD_mem (d:=0) hnl)
   obtain ⟨g1,g2⟩:=key n [255 - l.pend.getD n 0] (by
    simp only [List.mem_singleton]
    intro e
    have e2:=congrArg UInt8.toNat e
    rw [UInt8.toNat_sub_of_le _ _ (by rw [UInt8.le_iff_toNat_le]; show _≤255; omega)] at e2
    have:(10:UInt8).toNat=10:=rfl
    have:(255:UInt8).toNat=255:=rfl
    omega)
   refine ⟨g1,g2,?_⟩
   simp only [List.length_append,List.length_take,List.length_cons,List.length_nil]
   omega
  ·obtain ⟨g1,g2⟩:=key k.toNat [] (by simp)
   rw [List.append_nil] at g1 g2
   refine ⟨g1,g2,?_⟩
   simp only [List.length_append,List.length_take]
   omega
 ·cases h
end Go.Proofs.YtekmkgegjicjgaaGreat

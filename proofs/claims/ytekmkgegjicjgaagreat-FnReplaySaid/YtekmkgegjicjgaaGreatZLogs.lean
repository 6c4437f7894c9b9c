import Derived.Test.YtekmkgegjicjgaaGreatZBas
namespace Go.Proofs.YtekmkgegjicjgaaGreat
open Go.Dv Go.Dv.EvL
set_option maxRecDepth 100000
set_option maxHeartbeats 16000000
attribute [local irreducible] Ok Rm Dm Om Sm Xm Cm Gm Hm Tm
structure Rec where
 cmd:List UInt8
 reply:List UInt8
deriving DecidableEq
instance:Inhabited Rec:=⟨⟨[],[]⟩⟩
def Rec.pv (r:Rec):PV := .agg [.str r.cmd,.str r.reply]
theorem rec_pv (r:Rec):r.pv = .agg [.str r.cmd,.str r.reply]:=rfl
def plain1 (c:UInt8):Bool:=decide (32≤c.toNat∧c.toNat≤126∧c.toNat≠35)
def plainB (s:List UInt8):Bool:=s.all plain1
theorem plain_snoc {s:List UInt8}{i:Nat}(h:i<s.length)(h1:plainB (s.take i)=true):plainB (s.take (i+1))=plain1 (s.getD i 0):=by
 unfold plainB at h1 ⊢
 rw [take_snoc (d:=0) h,List.all_append,h1]
 simp
theorem plain_no {s:List UInt8}{i:Nat}(h:i<s.length)(h1:plain1 (s.getD i 0)=false):plainB s=false:=by
 unfold plainB
 rw [Bool.eq_false_iff]
 intro h2
 rw [List.all_eq_true.1 h2 _ (getD_mem h)] at h1
 cases h1
theorem k_l27Plain (s:List UInt8)(n:Int)(hl:s.length≤1099511627776):Okv Tryz.prog 95 [.str s,.int .i64 n] (.p (.bool (plainB s && decide ((s.length:Int)≤n)))):=by
 refine ok_D hmix c_spec_l27Plain (by simp) ?_
 refine sA ?_
 refine Dm_loop [0,1,5] (fun m ds H' => ∃ i:Nat,i≤s.length∧m=s.length - i∧plainB (s.take i)=true∧ds=[.p (.str s),.p (.int .i64 n),.p (.int .i64 i)]∧H'=[]) s.length ⟨0,by omega,by omega,rfl,rfl,rfl⟩ ?_
 rintro m ds H' ⟨i,hi,rfl,hp,rfl,rfl⟩ -
 have h1:=fun h:i<s.length=>plain_snoc h hp
 have h2:=fun h:i<s.length=>plain_no h
 have h3:=u8_lt (s.getD i 0)
 have hd:plain1 (s.getD i 0)=decide (32≤(s.getD i 0).toNat∧(s.getD i 0).toNat≤126∧(s.getD i 0).toNat≠35):=rfl
 repeat' (first|refine sA ?_|refine sN ?_|refine rW rfl (k_l1In _ _ _) ?_|refine rV (k_l1In _ _ _) ?_|refine sB ?_|refine sX ?_ ?_<;>(try intro h)<;>(try omega)|exact sP|refine rK ?_|exact sQ|refine sD ?_|rfl|exact sE|omega)
 all_goals first
  | (rw [h2 (by omega) (by rw [hd]; simp only [decide_eq_false_iff_not]; omega)]; rfl)
  | (exact Xm_inv_n (s.length - (i+1)) (by omega) ⟨i+1,by omega,rfl,by rw [h1 (by omega),hd]; simp only [decide_eq_true_eq]; omega,rfl,rfl⟩)
  | skip
 ·rw [List.take_of_length_le (by omega)] at hp
  rw [hp]; rfl
theorem k_isPrinted (s:List UInt8)(hl:s.length≤1099511627776):Okv Tryz.prog 108 [.str s] (.p (.bool (plainB s))):=by
 refine ok_D hmix c_impl_isPrinted (by simp) ?_
 refine sA ?_
 refine Dm_loop [0,3] (fun m ds H' => ∃ i:Nat,i≤s.length∧m=s.length - i∧plainB (s.take i)=true∧ds=[.p (.str s),.p (.int .i64 i)]∧H'=[]) s.length ⟨0,by omega,by omega,rfl,rfl,rfl⟩ ?_
 rintro m ds H' ⟨i,hi,rfl,hp,rfl,rfl⟩ -
 have h1:=fun h:i<s.length=>plain_snoc h hp
 have h2:=fun h:i<s.length=>plain_no h
 have h3:=u8_lt (s.getD i 0)
 have hd:plain1 (s.getD i 0)=decide (32≤(s.getD i 0).toNat∧(s.getD i 0).toNat≤126∧(s.getD i 0).toNat≠35):=rfl
 repeat' (first|refine sA ?_|refine sN ?_|refine sB ?_|refine sX ?_ ?_<;>(try intro h)<;>(try omega)|exact sP|refine rK ?_|exact sQ|refine sD ?_|rfl|exact sE|omega)
 all_goals first
  | (rw [h2 (by omega) (by rw [hd]; simp only [decide_eq_false_iff_not]; omega)]; done)
  | (exact Xm_inv_n (s.length - (i+1)) (by omega) ⟨i+1,by omega,rfl,by rw [h1 (by omega),hd]; simp only [decide_eq_true_eq]; omega,rfl,rfl⟩)
  | skip
 ·rw [List.take_of_length_le (by omega)] at hp
  rw [hp]
def recB (e:Rec):Bool:=decide (0<e.cmd.length) && decide (e.cmd.length≤160) && plainB e.cmd && decide ((64:UInt8) ∉ e.cmd) && plainB e.reply && decide (e.reply.length≤200)
theorem k_l27Good (e:Rec)(h1:e.cmd.length≤1099511627776)(h2:e.reply.length≤1099511627776):Okv Tryz.prog 54 [e.pv] (.p (.bool (recB e))):=by
 refine ok_D hmix c_spec_l27Good (by simp) ?_
 rw [rec_pv]
 refine sA ?_
 have hz:e.cmd=[]↔e.cmd.length=0:=List.length_eq_zero_iff.symm
 repeat' (first|refine sA ?_|refine sN ?_|refine rW rfl (k_l27Plain _ _ (by omega)) ?_|refine rV (k_l27Plain _ _ (by omega)) ?_|refine rW rfl (k_l1Stands _ 64 (by omega)) ?_|refine rV (k_l1Stands _ 64 (by omega)) ?_|refine sB ?_|refine sX ?_ ?_<;>(try intro h)<;>(try omega)|exact sP|refine rK ?_|exact sQ|refine sD ?_|rfl|exact sE|omega)
 all_goals grind [recB]
theorem k_iValidRec (e:Rec)(h1:e.cmd.length≤1099511627776)(h2:e.reply.length≤1099511627776):Okv Tryz.prog 58 [e.pv] (.p (.bool (recB e))):=by
 refine ok_D hmix c_impl_IsValidRecord (by simp) ?_
 rw [rec_pv]
 refine sA ?_
 repeat' (first|refine sA ?_|refine sN ?_|refine rW rfl (k_within _ _ _) ?_|refine rV (k_within _ _ _) ?_|refine rW rfl (k_isPrinted _ (by omega)) ?_|refine rV (k_isPrinted _ (by omega)) ?_|(refine Rm_o (k_split _ 64 h1) rfl (fun r H2 hh => ?_); obtain ⟨rfl,rfl⟩:=hh)|refine sB ?_|refine sX ?_ ?_<;>(try intro h)<;>(try omega)|exact sP|refine rK ?_|exact sQ|refine sD ?_|rfl|exact sE|omega)
 all_goals grind [recB,split_none,split_some]
def body (k:Nat)(e:Rec):List UInt8:=dec k++[32]++e.cmd++[64]++e.reply
def lineR (k:Nat)(e:Rec):List UInt8:=seal0 (body k e)++[10]
theorem recB_len {e:Rec}(h:recB e=true):1≤e.cmd.length∧e.cmd.length≤160∧e.reply.length≤200:=by grind [recB]
theorem plain_35 {s:List UInt8}(h:plainB s=true):(35:UInt8) ∉ s:=fun hm=>by
 have:=List.all_eq_true.1 h 35 hm
 revert this
 decide
theorem dec_digits : ∀ (n:Nat) (c:UInt8),c∈dec n→48≤c.toNat∧c.toNat≤57:=fun n=>by
 induction n using Nat.strongRecOn with
 | ind n ih =>
  intro c hc
  by_cases h:n<10
  ·rw [dec_small h] at hc
   simp only [List.mem_singleton] at hc
   subst hc
   rw [UInt8.toNat_ofNat_of_lt' (by show 48+n<256; omega)]
   omega
  ·rw [dec_big h] at hc
   rcases List.mem_append.1 hc with hc|hc
   ·exact ih (n / 10) (by omega) c hc
   ·simp only [List.mem_singleton] at hc
    subst hc
    rw [UInt8.toNat_ofNat_of_lt' (by show 48+n % 10<256; omega)]
    omega
theorem dec_no {n:Nat}{c:UInt8}(h:c.toNat<48∨57<c.toNat):c ∉ dec n:=fun hm=>by
 have:=dec_digits n c hm
 omega
theorem body_35 {k:Nat}{e:Rec}(h:recB e=true):(35:UInt8) ∉ body k e:=by
 have h1:(35:UInt8) ∉ dec k:=dec_no (by decide)
 have h2:(35:UInt8) ∉ e.cmd:=plain_35 (by grind [recB])
 have h3:(35:UInt8) ∉ e.reply:=plain_35 (by grind [recB])
 simp only [body,List.mem_append,List.mem_singleton,not_or]
 exact ⟨⟨⟨⟨h1,by decide⟩,h2⟩,by decide⟩,h3⟩
theorem body_len (k:Nat)(e:Rec)(hk:k≤9223372036854775807):(body k e).length≤21+e.cmd.length+e.reply.length:=by
 have:=dec_len64 hk
 simp only [body,List.length_append,List.length_cons,List.length_nil]
 omega
theorem k_l27Line (k:Nat)(e:Rec)(hk:k≤9223372036854775807)(h1:e.cmd.length≤549755813888)(h2:e.reply.length≤274877906944):Okv Tryz.prog 107 [.int .i64 k,e.pv] (.p (.str (lineR k e))):=by
 refine ok_D hmix c_spec_l27Line (by simp) ?_
 have h3:=dec_len64 hk
 have h4:=(seal_len (body k e)).2
 have h5:=body_len k e hk
 rw [rec_pv]
 unfold body at h4 h5
 refine sA ?_
 repeat' (first|refine sA ?_|refine sN ?_|refine rW rfl (k_l1NumN k hk) ?_|refine rV (k_l1NumN k hk) ?_|refine rW rfl (k_l1Seal _ (by omega)) ?_|refine rV (k_l1Seal _ (by omega)) ?_|refine sB ?_|refine sX ?_ ?_<;>(try intro h)<;>(try omega)|exact sP|refine rK ?_|exact sQ|refine sD ?_|rfl|exact sE|omega)
theorem k_iEnc (k:Int)(e:Rec)(h1:e.cmd.length≤549755813888)(h2:e.reply.length≤274877906944):Okv Tryz.prog 120 [.int .i64 k,e.pv] (.tup [.p (.str (if 0≤k∧k≤59∧recB e=true then lineR k.toNat e else [])),.p (.bool (decide (0≤k∧k≤59∧recB e=true)))]):=by
 refine ok_D hmix c_impl_EncodeRecord (by simp) ?_
 have hg:=k_iValidRec e (by omega) (by omega)
 by_cases hk:0≤k∧k≤59
 ·obtain ⟨n,rfl⟩ : ∃ n:Nat,k=n:=⟨k.toNat,by omega⟩
  cases hr:recB e
  ·rw [hr] at hg
   rw [rec_pv] at *
   refine sA ?_
   repeat' (first|refine sA ?_|refine sN ?_|refine rW rfl (k_within _ _ _) ?_|refine rV (k_within _ _ _) ?_|refine rW rfl (hg) ?_|refine rV (hg) ?_|refine sB ?_|refine sX ?_ ?_<;>(try intro h)<;>(try omega)|exact sP|refine rK ?_|exact sQ|refine sD ?_|rfl|exact sE|omega)
   all_goals grind
  ·have hl:=recB_len hr
   have h3:=dec_len64 (n:=n) (by omega)
   have h4:=(seal_len (body n e)).2
   have h5:=body_len n e (by omega)
   have ha:=k_AppendChecksum (body n e) (by omega) (body_35 hr)
   unfold body at h4 h5 ha
   rw [hr] at hg
   rw [rec_pv] at *
   refine sA ?_
   repeat' (first|refine sA ?_|refine sN ?_|refine rW rfl (k_within _ _ _) ?_|refine rV (k_within _ _ _) ?_|refine rW rfl (hg) ?_|refine rV (hg) ?_|refine rW rfl (k_textN n (by omega)) ?_|refine rV (k_textN n (by omega)) ?_|refine rW rfl (ha) ?_|refine rV (ha) ?_|refine sB ?_|refine sX ?_ ?_<;>(try intro h)<;>(try omega)|exact sP|refine rK ?_|exact sQ|refine sD ?_|rfl|exact sE|omega)
   all_goals grind [lineR,body]
 ·rw [rec_pv] at *
  refine sA ?_
  repeat' (first|refine sA ?_|refine sN ?_|refine rW rfl (k_within _ _ _) ?_|refine rV (k_within _ _ _) ?_|refine rW rfl (hg) ?_|refine rV (hg) ?_|refine sB ?_|refine sX ?_ ?_<;>(try intro h)<;>(try omega)|exact sP|refine rK ?_|exact sQ|refine sD ?_|rfl|exact sE|omega)
  all_goals grind
end Go.Proofs.YtekmkgegjicjgaaGreat
namespace Go.Proofs.YtekmkgegjicjgaaGreat
open Go.Dv Go.Dv.EvL
set_option maxRecDepth 100000
set_option maxHeartbeats 16000000
attribute [local irreducible] Ok Rm Dm Om Sm Xm Cm Gm Hm Tm
def noRec:Rec:=⟨[],[]⟩
def headB (b:UInt8)(s:List UInt8):List UInt8:=(splitB b s).getD 0 default
def readR (s:List UInt8)(k:Nat):Rec × Bool :=
 let ahead:=dec k++[32]
 let text:=headB 35 s
 if (text.length:Int)<(ahead.length:Int) ∨ ¬ cutL text 0 ahead.length=ahead then (noRec,false) else
  let rest:=cutL text ahead.length text.length
  let ask:=headB 64 rest
  if (ask.length:Int)=(rest.length:Int) then (noRec,false) else
   let e:Rec:=⟨ask,cutL rest (ask.length+1) rest.length⟩
   (e,recB e && decide (lineR k e=s++[10]))
theorem head_glue {p:List UInt8}{X:List (List UInt8)}(h:X≠[]):(glue p X).getD 0 default=p++X.getD 0 default:=by
 cases X with
 | nil=>exact absurd rfl h
 | cons x X=>rfl
theorem headB_eq (b:UInt8) : ∀ s,headB b s=s.takeWhile (· ≠ b)
 | []=>rfl
 | c::s=>by
  unfold headB
  rw [splitB]
  split
  ·rename_i h
   simp [h]
  ·rename_i h
   rw [head_glue (split_ne b s),List.takeWhile_cons,if_pos (by simpa using h)]
   show [c]++headB b s=_
   rw [headB_eq b s]
   rfl
theorem headB_len (b:UInt8)(s:List UInt8):(headB b s).length≤s.length:=by
 rw [headB_eq]
 exact (List.takeWhile_sublist _).length_le
theorem cut_len {s:List UInt8}{a b:Nat}:(cutL s a b).length≤s.length:=by simp [cutL]; omega
theorem k_l27Read (s:List UInt8)(k:Nat)(hl:s.length≤8589934592)(hk:k≤1000):Okv Tryz.prog 175 [.str s,.int .i64 k] (.tup [.p (readR s k).1.pv,.p (.bool (readR s k).2)]):=by
 refine ok_D hmix c_spec_l27Read (by simp) ?_
 have h0:=dec_len64 (n:=k) (by omega)
 have h1:=headB_len 35 s
 have h2:=(split_len 35 s).2
 have h35:(splitB 35 s).getD 0 default=headB 35 s:=rfl
 generalize hx:readR s k=x
 unfold readR at hx
 simp only [] at hx
 generalize headB 35 s=t at *
 generalize hA:dec k++[32]=A at *
 have hAl:A.length≤20:=by rw [← hA]; simp; omega
 have h3:=cut_len (s:=t) (a:=A.length) (b:=t.length)
 generalize hR:cutL t A.length t.length=R at *
 have h4:=headB_len 64 R
 have h5:=(split_len 64 R).2
 have h64:(splitB 64 R).getD 0 default=headB 64 R:=rfl
 have hs64:=k_l1Split R 64 (by omega)
 generalize headB 64 R=a at *
 have h6:=cut_len (s:=R) (a:=a.length+1) (b:=R.length)
 have hlen:A.length≤t.length→a.length≠R.length→a.length+1≤R.length:=fun _ h=>by omega
 have hg:=k_l27Good ⟨a,cutL R (a.length+1) R.length⟩ (by simp only []; omega) (by simp only []; omega)
 have hli:=k_l27Line k ⟨a,cutL R (a.length+1) R.length⟩ (by omega) (by simp only []; omega) (by simp only []; omega)
 rw [rec_pv] at hg hli
 refine sA ?_
 repeat' (first|refine sA ?_|refine sN ?_|refine rW rfl (k_l1NumN k (by omega)) ?_|refine rV (k_l1NumN k (by omega)) ?_|rw [hA]|(refine Rm_o (k_l1Split s 35 (by omega)) rfl (fun r H2 hh => ?_); obtain ⟨rfl,rfl⟩:=hh)|rw [h35]|rw [hR]|(refine Rm_o hs64 rfl (fun r H2 hh => ?_); obtain ⟨rfl,rfl⟩:=hh)|rw [h64]|refine rW rfl (hg) ?_|refine rV (hg) ?_|refine rW rfl (hli) ?_|refine rV (hli) ?_|refine sB ?_|refine sX ?_ ?_<;>(try intro h)<;>(try omega)|exact sP|refine rK ?_|exact sQ|refine sD ?_|rfl|exact sE|omega)
 all_goals (clear hg hli hs64; grind [Rec.pv,noRec])
theorem k_decode (k:Nat)(s:List UInt8)(hl:s.length≤8589934592)(hk:k≤59):Okv Tryz.prog 133 [.int .i64 k,.str s] (.tup [.p (readR s k).1.pv,.p (.bool (readR s k).2)]):=by
 refine ok_D hmix c_impl_decode (by simp) ?_
 have h0:=dec_len64 (n:=k) (by omega)
 have h1:=headB_len 35 s
 have h2:=(split_len 35 s).2
 have h35:(splitB 35 s).getD 0 default=headB 35 s:=rfl
 generalize hx:readR s k=x
 unfold readR at hx
 simp only [] at hx
 generalize headB 35 s=t at *
 generalize hA:dec k++[32]=A at *
 have hAl:A.length≤20:=by rw [← hA]; simp; omega
 have h3:=cut_len (s:=t) (a:=A.length) (b:=t.length)
 generalize hR:cutL t A.length t.length=R at *
 have h4:=headB_len 64 R
 have h5:=(split_len 64 R).2
 have h64:(splitB 64 R).getD 0 default=headB 64 R:=rfl
 have hs64:=k_split R 64 (by omega)
 generalize headB 64 R=a at *
 have h6:=cut_len (s:=R) (a:=a.length+1) (b:=R.length)
 have hlen:A.length≤t.length→a.length≠R.length→a.length+1≤R.length:=fun _ h=>by omega
 have hE:=k_iEnc k ⟨a,cutL R (a.length+1) R.length⟩ (by simp only []; omega) (by simp only []; omega)
 rw [rec_pv] at hE
 cases hr:recB ⟨a,cutL R (a.length+1) R.length⟩
 ·rw [if_neg (by rw [hr]; simp),decide_eq_false (by rw [hr]; simp)] at hE
  rw [hr] at hx
  refine sA ?_
  repeat' (first|refine sA ?_|refine sN ?_|refine rW rfl (k_textN k (by omega)) ?_|refine rV (k_textN k (by omega)) ?_|rw [hA]|(refine Rm_o (k_split s 35 (by omega)) rfl (fun r H2 hh => ?_); obtain ⟨rfl,rfl⟩:=hh)|rw [h35]|rw [hR]|(refine Rm_o hs64 rfl (fun r H2 hh => ?_); obtain ⟨rfl,rfl⟩:=hh)|rw [h64]|refine rW rfl (hE) ?_|refine rV (hE) ?_|refine sB ?_|refine sX ?_ ?_<;>(try intro h)<;>(try omega)|exact sP|refine rK ?_|exact sQ|refine sD ?_|rfl|exact sE|omega)
  all_goals (clear hE hs64; grind [Rec.pv,noRec])
 ·rw [if_pos ⟨by omega,by omega,hr⟩,decide_eq_true ⟨by omega,by omega,hr⟩,Int.toNat_natCast] at hE
  rw [hr] at hx
  refine sA ?_
  repeat' (first|refine sA ?_|refine sN ?_|refine rW rfl (k_textN k (by omega)) ?_|refine rV (k_textN k (by omega)) ?_|rw [hA]|(refine Rm_o (k_split s 35 (by omega)) rfl (fun r H2 hh => ?_); obtain ⟨rfl,rfl⟩:=hh)|rw [h35]|rw [hR]|(refine Rm_o hs64 rfl (fun r H2 hh => ?_); obtain ⟨rfl,rfl⟩:=hh)|rw [h64]|refine rW rfl (hE) ?_|refine rV (hE) ?_|refine sB ?_|refine sX ?_ ?_<;>(try intro h)<;>(try omega)|exact sP|refine rK ?_|exact sQ|refine sD ?_|rfl|exact sE|omega)
  all_goals (clear hE hs64; grind [Rec.pv,noRec])
def openR:Nat→Nat→List UInt8→List Rec × Nat
 | 0,_,_=>([],0)
 | f+1,k,s=>if (10:UInt8)∈s∧(readR (headB 10 s) k).2=true then
   ((readR (headB 10 s) k).1::(openR f (k+1) (s.drop ((headB 10 s).length+1))).1,(headB 10 s).length+1+(openR f (k+1) (s.drop ((headB 10 s).length+1))).2)
  else ([],0)
def openS (s:List UInt8):List Rec × Nat:=openR 60 0 s
theorem cut_end {s:List UInt8}{a:Nat}:cutL s a s.length=s.drop a:=List.take_of_length_le (by simp)
theorem headB_lt {b:UInt8} : ∀ {s:List UInt8},b∈s→(headB b s).length<s.length
 | [],h=>by simp at h
 | c::s,h=>by
  rw [headB_eq,List.takeWhile_cons]
  split
  ·rename_i hc
   have h2:b∈s:=by
    rcases List.mem_cons.1 h with e|e
    ·simp [e] at hc
    ·exact e
   have:=headB_lt h2
   rw [headB_eq] at this
   simp only [List.length_cons]
   omega
  ·simp
theorem open_stop {m k:Nat}{t:List UInt8}(h:m=0∨(10:UInt8) ∉ t∨(readR (headB 10 t) k).2=false):openR m k t=([],0):=by
 cases m with
 | zero=>rfl
 | succ m =>
  rw [openR,if_neg]
  rintro ⟨h1,h2⟩
  rcases h with h|h|h
  ·omega
  ·exact h h1
  ·rw [h2] at h; cases h
theorem open_go {m k:Nat}{t L:List UInt8}{e:Rec}(h1:(10:UInt8)∈t)(hL:headB 10 t=L)(h2:readR L k=(e,true)) :
  openR (m+1) k t=(e::(openR m (k+1) (t.drop (L.length+1))).1,L.length+1+(openR m (k+1) (t.drop (L.length+1))).2):=by
 subst hL
 rw [openR,if_pos ⟨h1,by rw [h2]⟩,h2]
theorem open_next {s:List UInt8}{m a:Nat}{out:List Rec}{e:Rec}{L:List UInt8}{X:List Rec × Nat}(ho:X=(out++(openR (m+1) out.length (s.drop a)).1,a+(openR (m+1) out.length (s.drop a)).2))(h1:(10:UInt8)∈s.drop a)(hL:headB 10 (s.drop a)=L)
  (h2:readR L out.length=(e,true)):a+L.length+1≤s.length∧X=((out++[e])++(openR m (out++[e]).length (s.drop (a+L.length+1))).1,a+L.length+1+(openR m (out++[e]).length (s.drop (a+L.length+1))).2):=by
 have h3:=headB_lt h1
 rw [hL,List.length_drop] at h3
 refine ⟨by omega,?_⟩
 rw [ho,open_go h1 hL h2,List.drop_drop,List.length_append]
 simp only [List.append_assoc,List.cons_append,List.nil_append,List.length_cons,List.length_nil]
 rw [show a+(L.length+1)=a+L.length+1 from by omega,Nat.zero_add]
 congr 1
 omega
theorem mem10 {t:List UInt8}:(splitB 10 t).length<2→(10:UInt8) ∉ t:=fun h hm=>by have:=split_some hm; omega
theorem mem10' {t:List UInt8}(h : ¬ (splitB 10 t).length<2):(10:UInt8)∈t:=by
 by_cases hm:(10:UInt8)∈t
 ·exact hm
 ·rw [split_none hm] at h
  simp at h
theorem rec_app {xs:List Rec}{e:Rec}:xs.map Rec.pv++[.agg [.str e.cmd,.str e.reply]]=(xs++[e]).map Rec.pv:=by simp [Rec.pv]
theorem k_l27Open (s:List UInt8)(hl:s.length≤8589934592):Okw Tryz.prog 122 [.str s] fun d H=>d = .tup [.own 0 0 (openS s).1.length,.p (.int .i64 (openS s).2)]∧H=[.arr 71 2 ((openS s).1.map Rec.pv)]:=by
 refine ok_D hmix c_spec_l27Open (by simp) ?_
 refine sA ?_
 refine Dm_loop [0,4,5] (fun m ds H' => ∃ (out:List Rec) (a:Nat),out.length+m=60∧a≤s.length∧openS s=(out++(openR m out.length (s.drop a)).1,a+(openR m out.length (s.drop a)).2) ∧
  ds=[.p (.str s),.own 0 0 out.length,.p (.int .i64 a)]∧H'=[.arr 71 2 (out.map Rec.pv)]) 60 ⟨[],0,rfl,by omega,by simp [openS],rfl,rfl⟩ ?_
 rintro m ds H' ⟨out,a,hm,ha,ho,rfl,rfl⟩ -
 have hb:(s.drop a).length≤s.length:=by simp
 have h10:cutL s a s.length=s.drop a:=cut_end
 have hs:=k_l1Split (s.drop a) 10 (by omega)
 have hp:=(split_len 10 (s.drop a)).2
 have hh:(splitB 10 (s.drop a)).getD 0 default=headB 10 (s.drop a):=rfl
 have hhl:=headB_len 10 (s.drop a)
 have hr:=k_l27Read (headB 10 (s.drop a)) out.length (by omega) (by omega)
 generalize hX:readR (headB 10 (s.drop a)) out.length=X at hr
 obtain ⟨e,ok⟩:=X
 rw [rec_pv] at hr
 simp only [] at hr
 generalize hL:headB 10 (s.drop a)=L at *
 repeat' (first|refine sA ?_|refine sN ?_|rw [h10]|(refine Rm_o hs rfl (fun r H2 hh => ?_); obtain ⟨rfl,rfl⟩:=hh)|rw [hh]|refine rW rfl (hr) ?_|refine rV (hr) ?_|refine sB ?_|refine sX ?_ ?_<;>(try intro h)<;>(try omega)|exact sP|refine rK ?_|exact sQ|refine sD ?_|rfl|exact sE|omega)
 ·rw [open_stop (.inr (.inl (mem10 (by omega))))] at ho
  rw [ho,List.append_nil]
  exact ret_gen _ _ _ rfl rfl rfl ⟨rfl,rfl⟩
 ·rw [open_stop (.inr (.inr (by rw [hL,hX]; exact h)))] at ho
  rw [ho,List.append_nil]
  exact ret_gen _ _ _ rfl rfl rfl ⟨rfl,rfl⟩
 ·rename_i h9
  subst h
  obtain ⟨m,rfl⟩ : ∃ m',m=m'+1:=⟨m - 1,by omega⟩
  obtain ⟨g1,g2⟩:=open_next ho (mem10' (by omega)) hL hX
  rw [rec_app]
  exact Xm_inv_n m (by omega) ⟨out++[e],a+L.length+1,by simp; omega,g1,g2,by rw [List.length_append]; rfl,rfl⟩
 ·rw [open_stop (.inl (by omega))] at ho
  rw [ho,List.append_nil]
  exact ret_gen _ _ _ rfl rfl rfl ⟨rfl,rfl⟩
 ·obtain rfl:a=s.length:=by omega
  rw [open_stop (.inr (.inl (by simp)))] at ho
  rw [ho,List.append_nil]
  exact ret_gen _ _ _ rfl rfl rfl ⟨rfl,rfl⟩
theorem headB_app {b:UInt8} : ∀ {p r:List UInt8},b ∉ p→headB b (p++b::r)=p
 | [],r,_=>by rw [headB_eq]; simp
 | c::p,r,h=>by
  simp only [List.mem_cons,not_or] at h
  rw [List.cons_append,headB_eq,List.takeWhile_cons,if_pos (by simpa using fun e:c=b=>h.1 e.symm),← headB_eq,headB_app h.2]
theorem scan_at {s:List UInt8}{a j:Nat}(ha:a≤j)(hj:j<s.length)(hno:(10:UInt8) ∉ cutL s a j)(h:s.getD j 0=10):headB 10 (s.drop a)=cutL s a j∧(10:UInt8)∈s.drop a:=by
 have e:s.drop a=cutL s a j++10::s.drop (j+1):=by
  have h1:s.drop j=10::s.drop (j+1):=by rw [drop_cons (d:=0) hj,h]
  have h2:s.drop j=(s.drop a).drop (j - a):=by rw [List.drop_drop]; congr 1; omega
  rw [← h1,h2,cutL,List.take_append_drop]
 rw [e]
 exact ⟨headB_app hno,by simp⟩
theorem k_recovered (s:List UInt8)(hl:s.length≤8589934592):Okw Tryz.prog 77 [.str s] fun d H=>(d = .tup [.own 0 0 (openS s).1.length,.p (.int .i64 (openS s).2)]∧H=[.arr 71 2 ((openS s).1.map Rec.pv)]) ∨
  (d = .tup [.nil,.p (.int .i64 (openS s).2)]∧H=[]∧(openS s).1=[]):=by
 refine ok_D hmix c_impl_recovered (by simp) ?_
 refine sA ?_
 refine Dm_loop [0,4,5] (fun m ds H' => ∃ (out:List Rec) (a:Nat),out.length+m=60∧a≤s.length∧openS s=(out++(openR m out.length (s.drop a)).1,a+(openR m out.length (s.drop a)).2) ∧
  ((out=[]∧ds=[.p (.str s),.nil,.p (.int .i64 a)]∧H'=[]) ∨
   (ds=[.p (.str s),.own 0 0 out.length,.p (.int .i64 a)]∧H'=[.arr 71 2 (out.map Rec.pv)]))) 60 ⟨[],0,rfl,by omega,by simp [openS],.inl ⟨rfl,rfl,rfl⟩⟩ ?_
 rintro m ds H' ⟨out,a,hm,ha,ho,hcase⟩ -
 rcases hcase with ⟨rfl,rfl,rfl⟩|⟨rfl,rfl⟩
 ·repeat' (first|refine sA ?_|refine sN ?_|refine sB ?_|refine sX ?_ ?_<;>(try intro h)<;>(try omega)|exact sP|refine rK ?_|exact sQ|refine sD ?_|rfl|exact sE|omega)
  ·refine Dm_loop [0,4,5,6] (fun m ds H' => ∃ j:Nat,a≤j∧j≤s.length∧m=s.length - j∧(10:UInt8) ∉ cutL s a j∧ds=[.p (.str s),.nil,.p (.int .i64 a),.p (.int .i64 j)]∧H'=[]) (s.length - a) ⟨a,by omega,by omega,rfl,by rw [cut_self]; simp,rfl,rfl⟩ ?_
   rintro v ds H' ⟨j,haj,hj,rfl,hno,rfl,rfl⟩ -
   have hcl:=cut_len (s:=s) (a:=a) (b:=j)
   have hd:=k_decode 0 (cutL s a j) (by omega) (by first|omega|(simp at hm; omega))
   have hcll:(cutL s a j).length=j - a:=by simp [cutL]; omega
   generalize hX:readR (cutL s a j) 0=X at hd
   obtain ⟨e,ok⟩:=X
   rw [rec_pv] at hd
   simp only [] at hd
   have hend:j=s.length→(10:UInt8) ∉ s.drop a:=fun e=>by subst e; rw [← cut_end]; exact hno
   have hmid:j<s.length→((s.getD j 0).toNat:Int)=10→headB 10 (s.drop a)=cutL s a j∧(10:UInt8)∈s.drop a:=fun h1 h2=>scan_at haj h1 hno ((u8_lit (n:=10) (by omega)).1 h2)
   repeat' (first|refine sA ?_|refine sN ?_|refine rW rfl (hd) ?_|refine rV (hd) ?_|refine sB ?_|refine sX ?_ ?_<;>(try intro h)<;>(try omega)|exact sP|refine rK ?_|exact sQ|refine sD ?_|rfl|exact sE|omega)
   all_goals try rename_i hq
   ·refine Xm_inv_n (s.length - (j+1)) (by omega) ⟨j+1,by omega,by omega,rfl,?_,rfl,rfl⟩
    rw [cut_step (by omega) haj]
    simp only [List.mem_append,List.mem_singleton,not_or]
    exact ⟨hno,fun e=>h (by rw [← e]; rfl)⟩
   ·obtain ⟨g1,g2⟩:=hmid (by omega) (by assumption)
    rw [open_stop (.inr (.inr (by rw [g1]; first|(rw [hX]; exact h)|(simp only [List.length_nil]; rw [hX]; exact h))))] at ho
    rw [ho,List.append_nil]
    exact ret_gen _ _ _ rfl rfl rfl (.inr ⟨rfl,rfl,rfl⟩)
   ·obtain ⟨q1,q2⟩:=hmid (by omega) (by assumption)
    subst h
    obtain ⟨m,rfl⟩ : ∃ m',m=m'+1:=⟨m - 1,by first|omega|(simp at hm; omega)⟩
    obtain ⟨g1,g2⟩:=open_next ho q2 q1 hX
    exact Xm_inv_n m (by simp at hm; omega) ⟨[e],a+(cutL s a j).length+1,by simp at hm ⊢; omega,g1,g2,.inr ⟨by rw [← Nat.add_assoc]; rfl,rfl⟩⟩
   ·rw [open_stop (.inr (.inl (hend (by omega))))] at ho
    rw [ho,List.append_nil]
    exact ret_gen _ _ _ rfl rfl rfl (.inr ⟨rfl,rfl,rfl⟩)
 ·repeat' (first|refine sA ?_|refine sN ?_|refine sB ?_|refine sX ?_ ?_<;>(try intro h)<;>(try omega)|exact sP|refine rK ?_|exact sQ|refine sD ?_|rfl|exact sE|omega)
  ·refine Dm_loop [0,4,5,6] (fun m ds H' => ∃ j:Nat,a≤j∧j≤s.length∧m=s.length - j∧(10:UInt8) ∉ cutL s a j∧ds=[.p (.str s),.own 0 0 out.length,.p (.int .i64 a),.p (.int .i64 j)]∧H'=[.arr 71 2 (out.map Rec.pv)]) (s.length - a) ⟨a,by omega,by omega,rfl,by rw [cut_self]; simp,rfl,rfl⟩ ?_
   rintro v ds H' ⟨j,haj,hj,rfl,hno,rfl,rfl⟩ -
   have hcl:=cut_len (s:=s) (a:=a) (b:=j)
   have hd:=k_decode out.length (cutL s a j) (by omega) (by first|omega|(simp at hm; omega))
   have hcll:(cutL s a j).length=j - a:=by simp [cutL]; omega
   generalize hX:readR (cutL s a j) out.length=X at hd
   obtain ⟨e,ok⟩:=X
   rw [rec_pv] at hd
   simp only [] at hd
   have hend:j=s.length→(10:UInt8) ∉ s.drop a:=fun e=>by subst e; rw [← cut_end]; exact hno
   have hmid:j<s.length→((s.getD j 0).toNat:Int)=10→headB 10 (s.drop a)=cutL s a j∧(10:UInt8)∈s.drop a:=fun h1 h2=>scan_at haj h1 hno ((u8_lit (n:=10) (by omega)).1 h2)
   repeat' (first|refine sA ?_|refine sN ?_|refine rW rfl (hd) ?_|refine rV (hd) ?_|refine sB ?_|refine sX ?_ ?_<;>(try intro h)<;>(try omega)|exact sP|refine rK ?_|exact sQ|refine sD ?_|rfl|exact sE|omega)
   all_goals try rename_i hq
   ·refine Xm_inv_n (s.length - (j+1)) (by omega) ⟨j+1,by omega,by omega,rfl,?_,rfl,rfl⟩
    rw [cut_step (by omega) haj]
    simp only [List.mem_append,List.mem_singleton,not_or]
    exact ⟨hno,fun e=>h (by rw [← e]; rfl)⟩
   ·obtain ⟨g1,g2⟩:=hmid (by omega) (by assumption)
    rw [open_stop (.inr (.inr (by rw [g1]; first|(rw [hX]; exact h)|(simp only [List.length_nil]; rw [hX]; exact h))))] at ho
    rw [ho,List.append_nil]
    exact ret_gen _ _ _ rfl rfl rfl (.inl ⟨rfl,rfl⟩)
   ·obtain ⟨q1,q2⟩:=hmid (by omega) (by assumption)
    subst h
    obtain ⟨m,rfl⟩ : ∃ m',m=m'+1:=⟨m - 1,by first|omega|(simp at hm; omega)⟩
    obtain ⟨g1,g2⟩:=open_next ho q2 q1 hX
    rw [rec_app]
    exact Xm_inv_n m (by omega) ⟨out++[e],a+(cutL s a j).length+1,by simp; omega,g1,g2,.inr ⟨by rw [List.length_append,← Nat.add_assoc]; rfl,rfl⟩⟩
   ·rw [open_stop (.inr (.inl (hend (by omega))))] at ho
    rw [ho,List.append_nil]
    exact ret_gen _ _ _ rfl rfl rfl (.inl ⟨rfl,rfl⟩)
  ·rw [open_stop (.inl (by omega))] at ho
   rw [ho,List.append_nil]
   exact ret_gen _ _ _ rfl rfl rfl (.inl ⟨rfl,rfl⟩)
end Go.Proofs.YtekmkgegjicjgaaGreat
namespace Go.Proofs.YtekmkgegjicjgaaGreat
open Go.Dv Go.Dv.EvL
set_option maxRecDepth 100000
set_option maxHeartbeats 16000000
attribute [local irreducible] Ok Rm Dm Om Sm Xm Cm Gm Hm Tm
structure Lg where
 dur:List UInt8
 pend:List UInt8
 cnt:Int
deriving DecidableEq
def Lg.pv (l:Lg):PV := .agg [.str l.dur,.str l.pend,.int .i64 l.cnt]
theorem lg_pv (l:Lg):l.pv = .agg [.str l.dur,.str l.pend,.int .i64 l.cnt]:=rfl
def logB (l:Lg):Bool:=decide (((openS (l.dur++l.pend)).2:Int)=l.dur.length+l.pend.length) && decide (((openS l.dur).2:Int)=l.dur.length) && decide (l.cnt=(openS (l.dur++l.pend)).1.length)
theorem read_len {L:List UInt8}{k:Nat}(hk:k≤1000)(h:(readR L k).2=true):L.length≤388:=by
 have key : ∀ e:Rec,recB e=true→lineR k e=L++[10]→L.length≤388:=fun e h1 h2=>by
  have h3:=recB_len h1
  have h4:=body_len k e (by omega)
  have h5:=(seal_len (body k e)).2
  have h6:=congrArg List.length h2
  unfold lineR at h6
  simp only [List.length_append,List.length_cons,List.length_nil] at h6
  omega
 unfold readR at h
 simp only [] at h
 split at h
 ·cases h
 ·split at h
  ·cases h
  ·simp only [Bool.and_eq_true,decide_eq_true_eq] at h
   exact key _ h.1 h.2
theorem openR_bound : ∀ (m k:Nat) (t:List UInt8),m+k≤1000→(openR m k t).2≤389 * m∧(openR m k t).2≤t.length∧(openR m k t).1.length≤m
 | 0,_,_,_=>by simp [openR]
 | m+1,k,t,h=>by
  rw [openR]
  split
  ·rename_i hc
   have h1:=read_len (by omega) hc.2
   have h2:=openR_bound m (k+1) (t.drop ((headB 10 t).length+1)) (by omega)
   have h3:=headB_lt hc.1
   rw [List.length_drop] at h2
   simp only [List.length_cons]
   omega
  ·simp
theorem openS_bound (s:List UInt8):(openS s).2≤23340∧(openS s).2≤s.length∧(openS s).1.length≤60:=by
 have:=openR_bound 60 0 s (by omega)
 unfold openS
 omega
theorem k_l27Log (l:Lg)(h1:l.dur.length≤1073741824)(h2:l.pend.length≤1073741824):Okv Tryz.prog 63 [l.pv] (.p (.bool (logB l))):=by
 refine ok_D hmix c_spec_l27Log (by simp) ?_
 have ha:=k_l27Open (l.dur++l.pend) (by simp; omega)
 have hb:=k_l27Open l.dur (by omega)
 have hc:=openS_bound (l.dur++l.pend)
 have hd:logB l=(decide (((openS (l.dur++l.pend)).2:Int)=l.dur.length+l.pend.length) && decide (((openS l.dur).2:Int)=l.dur.length) && decide (l.cnt=(openS (l.dur++l.pend)).1.length)):=rfl
 generalize openS (l.dur++l.pend)=X at *
 generalize openS l.dur=Y at *
 rw [lg_pv]
 refine sA ?_
 repeat' (first|refine sA ?_|refine sN ?_|(refine Rm_o ha rfl (fun r H2 hh => ?_); obtain ⟨rfl,rfl⟩:=hh)|(refine Rm_o hb rfl (fun r H2 hh => ?_); obtain ⟨rfl,rfl⟩:=hh)|refine sB ?_|refine sX ?_ ?_<;>(try intro h)<;>(try omega)|exact sP|refine rK ?_|exact sQ|refine sD ?_|rfl|exact sE|omega)
 all_goals grind
theorem k_iValidLog (l:Lg)(h1:l.dur.length≤1073741824)(h2:l.pend.length≤1073741824):Okv Tryz.prog 75 [l.pv] (.p (.bool (logB l))):=by
 refine ok_D hmix c_impl_IsValidLog (by simp) ?_
 have ha:=k_recovered (l.dur++l.pend) (by simp; omega)
 have hb:=k_recovered l.dur (by omega)
 have hd:logB l=(decide (((openS (l.dur++l.pend)).2:Int)=l.dur.length+l.pend.length) && decide (((openS l.dur).2:Int)=l.dur.length) && decide (l.cnt=(openS (l.dur++l.pend)).1.length)):=rfl
 generalize openS (l.dur++l.pend)=X at *
 generalize openS l.dur=Y at *
 rw [lg_pv]
 refine sA ?_
 repeat' (first|refine sA ?_|refine sN ?_|(refine Rm_o ha rfl (fun r H2 hh => ?_); rcases hh with ⟨rfl,rfl⟩|⟨rfl,rfl,hn⟩)|(refine Rm_o hb rfl (fun r H2 hh => ?_); rcases hh with ⟨rfl,rfl⟩|⟨rfl,rfl,hn2⟩)|refine sB ?_|refine sX ?_ ?_<;>(try intro h)<;>(try omega)|exact sP|refine rK ?_|exact sQ|refine sD ?_|rfl|exact sE|omega)
 all_goals grind
end Go.Proofs.YtekmkgegjicjgaaGreat
namespace Go.Proofs.YtekmkgegjicjgaaGreat
open Go.Dv Go.Dv.EvL
set_option maxRecDepth 100000
set_option maxHeartbeats 16000000
attribute [local irreducible] Ok Rm Dm Om Sm Xm Cm Gm Hm Tm
def noLg:Lg:=⟨[],[],0⟩
def syncO (l:Lg):Lg × Bool:=if logB l=true then (⟨l.dur++l.pend,[],l.cnt⟩,true) else (noLg,false)
theorem k_sSync (l:Lg)(h1:l.dur.length≤1073741824)(h2:l.pend.length≤1073741824):Okv Tryz.prog 213 [l.pv] (.tup [.p (syncO l).1.pv,.p (.bool (syncO l).2)]):=by
 refine ok_D hmix c_spec_SyncLog (by simp) ?_
 have ha:=k_l27Log l h1 h2
 have hs:syncO l=if logB l=true then (⟨l.dur++l.pend,[],l.cnt⟩,true) else (noLg,false):=rfl
 rw [lg_pv l] at *
 refine sA ?_
 repeat' (first|refine sA ?_|refine sN ?_|refine rW rfl (ha) ?_|refine rV (ha) ?_|refine sB ?_|refine sX ?_ ?_<;>(try intro h)<;>(try omega)|exact sP|refine rK ?_|exact sQ|refine sD ?_|rfl|exact sE|omega)
 all_goals grind [noLg,Lg.pv]
def recoverO (s:List UInt8):Lg × Nat × Bool:=if s.length≤30000 then (⟨cutL s 0 (openS s).2,[],(openS s).1.length⟩,(openS s).2,true) else (noLg,0,false)
theorem k_iRecover (s:List UInt8)(h:s.length≤9223372036854775807):Okv Tryz.prog 33 [.str s] (.tup [.p (recoverO s).1.pv,.p (.int .i64 (recoverO s).2.1),.p (.bool (recoverO s).2.2)]):=by
 refine ok_D hmix c_impl_RecoverLog (by simp) ?_
 have hb:=openS_bound s
 have hs:recoverO s=if s.length≤30000 then (⟨cutL s 0 (openS s).2,[],(openS s).1.length⟩,(openS s).2,true) else (noLg,0,false):=rfl
 by_cases hl:s.length≤30000
 ·have ha:=k_recovered s (by omega)
  rw [if_pos hl] at hs
  generalize openS s=X at *
  refine sA ?_
  repeat' (first|refine sA ?_|refine sN ?_|(refine Rm_o ha rfl (fun r H2 hh => ?_); rcases hh with ⟨rfl,rfl⟩|⟨rfl,rfl,hn⟩)|refine sB ?_|refine sX ?_ ?_<;>(try intro h)<;>(try omega)|exact sP|refine rK ?_|exact sQ|refine sD ?_|rfl|exact sE|omega)
  all_goals grind [noLg,Lg.pv]
 ·rw [if_neg hl] at hs
  rw [hs]
  refine sA ?_
  repeat' (first|refine sA ?_|refine sN ?_|refine sB ?_|refine sX ?_ ?_<;>(try intro h)<;>(try omega)|exact sP|refine rK ?_|exact sQ|refine sD ?_|rfl|exact sE|omega)
  all_goals grind [noLg,Lg.pv]
def appendO (l:Lg)(e:Rec):Lg × Int:=if logB l=true∧recB e=true then (if l.cnt=60 then (l,2) else (⟨l.dur,l.pend++lineR l.cnt.toNat e,l.cnt+1⟩,0)) else (l,1)
theorem logB_cnt {l:Lg}(h:logB l=true):0≤l.cnt∧l.cnt≤60:=by
 have:=openS_bound (l.dur++l.pend)
 grind [logB]
theorem k_sAppend (l:Lg)(e:Rec)(h1:l.dur.length≤1073741824)(h2:l.pend.length≤1073741824)(h3:e.cmd.length≤1073741824)(h4:e.reply.length≤1073741824):Okv Tryz.prog 56 [l.pv,e.pv] (.tup [.p (appendO l e).1.pv,.p (.int .i64 (appendO l e).2)]):=by
 refine ok_D hmix c_spec_AppendRecord (by simp) ?_
 have ha:=k_l27Log l h1 h2
 have hb:=k_l27Good e (by omega) (by omega)
 have hs:appendO l e=if logB l=true∧recB e=true then (if l.cnt=60 then (l,2) else (⟨l.dur,l.pend++lineR l.cnt.toNat e,l.cnt+1⟩,0)) else (l,1):=rfl
 by_cases hv:logB l=true∧recB e=true
 ·have hc:=logB_cnt hv.1
  have hl:=recB_len hv.2
  obtain ⟨du,pe,c⟩:=l
  simp only [] at hc h1 h2
  obtain ⟨n,rfl⟩ : ∃ n:Nat,c=n:=⟨c.toNat,by omega⟩
  have hd:=k_l27Line n e (by omega) (by omega) (by omega)
  have he:(lineR n e).length≤500:=by
   have g1:=body_len n e (by omega)
   have g2:=(seal_len (body n e)).2
   simp only [lineR,List.length_append,List.length_cons,List.length_nil]
   omega
  rw [if_pos hv] at hs
  simp only [Int.toNat_natCast] at hs
  rw [hv.1] at ha
  rw [hv.2] at hb
  simp only [lg_pv,rec_pv] at *
  refine sA ?_
  repeat' (first|refine sA ?_|refine sN ?_|refine rW rfl (ha) ?_|refine rV (ha) ?_|refine rW rfl (hb) ?_|refine rV (hb) ?_|refine rW rfl (hd) ?_|refine rV (hd) ?_|refine Dm_draw [0,1] (by simp) ?_|refine sB ?_|refine sX ?_ ?_<;>(try intro h)<;>(try omega)|exact sP|refine rK ?_|exact sQ|refine sD ?_|rfl|exact sE|omega)
  all_goals grind [noLg,Lg.pv]
 ·rw [if_neg hv] at hs
  rw [hs]
  rw [lg_pv l] at *
  rw [rec_pv e] at *
  refine sA ?_
  repeat' (first|refine sA ?_|refine sN ?_|refine rW rfl (ha) ?_|refine rV (ha) ?_|refine rW rfl (hb) ?_|refine rV (hb) ?_|refine sB ?_|refine sX ?_ ?_<;>(try intro h)<;>(try omega)|exact sP|refine rK ?_|exact sQ|refine sD ?_|rfl|exact sE|omega)
  all_goals grind [noLg,Lg.pv]
theorem k_iAppend (l:Lg)(e:Rec)(h1:l.dur.length≤1073741824)(h2:l.pend.length≤1073741824)(h3:e.cmd.length≤1073741824)(h4:e.reply.length≤1073741824):Okv Tryz.prog 60 [l.pv,e.pv] (.tup [.p (appendO l e).1.pv,.p (.int .i64 (appendO l e).2)]):=by
 refine ok_D hmix c_impl_AppendRecord (by simp) ?_
 have ha:=k_iValidLog l h1 h2
 have hb:=k_iValidRec e (by omega) (by omega)
 have hs:appendO l e=if logB l=true∧recB e=true then (if l.cnt=60 then (l,2) else (⟨l.dur,l.pend++lineR l.cnt.toNat e,l.cnt+1⟩,0)) else (l,1):=rfl
 by_cases hv:logB l=true∧recB e=true
 ·have hc:=logB_cnt hv.1
  have hl:=recB_len hv.2
  obtain ⟨du,pe,c⟩:=l
  simp only [] at hc h1 h2
  obtain ⟨n,rfl⟩ : ∃ n:Nat,c=n:=⟨c.toNat,by omega⟩
  have hd:=k_iEnc n e (by omega) (by omega)
  have he:(lineR n e).length≤500:=by
   have g1:=body_len n e (by omega)
   have g2:=(seal_len (body n e)).2
   simp only [lineR,List.length_append,List.length_cons,List.length_nil]
   omega
  rw [if_pos hv] at hs
  simp only [Int.toNat_natCast] at hs
  rw [hv.1] at ha
  rw [hv.2] at hb
  simp only [lg_pv,rec_pv] at *
  by_cases h60:n≤59
  ·rw [if_pos ⟨by omega,by omega,hv.2⟩,decide_eq_true ⟨by omega,by omega,hv.2⟩,Int.toNat_natCast] at hd
   refine sA ?_
   repeat' (first|refine sA ?_|refine sN ?_|refine rW rfl (ha) ?_|refine rV (ha) ?_|refine rW rfl (hb) ?_|refine rV (hb) ?_|refine rW rfl (hd) ?_|refine rV (hd) ?_|refine sB ?_|refine sX ?_ ?_<;>(try intro h)<;>(try omega)|exact sP|refine rK ?_|exact sQ|refine sD ?_|rfl|exact sE|omega)
   all_goals grind [noLg,Lg.pv]
  ·rw [if_neg (by omega),decide_eq_false (by omega)] at hd
   refine sA ?_
   repeat' (first|refine sA ?_|refine sN ?_|refine rW rfl (ha) ?_|refine rV (ha) ?_|refine rW rfl (hb) ?_|refine rV (hb) ?_|refine rW rfl (hd) ?_|refine rV (hd) ?_|refine sB ?_|refine sX ?_ ?_<;>(try intro h)<;>(try omega)|exact sP|refine rK ?_|exact sQ|refine sD ?_|rfl|exact sE|omega)
   all_goals grind [noLg,Lg.pv]
 ·rw [if_neg hv] at hs
  rw [hs]
  rw [lg_pv l] at *
  rw [rec_pv e] at *
  refine sA ?_
  repeat' (first|refine sA ?_|refine sN ?_|refine rW rfl (ha) ?_|refine rV (ha) ?_|refine rW rfl (hb) ?_|refine rV (hb) ?_|refine sB ?_|refine sX ?_ ?_<;>(try intro h)<;>(try omega)|exact sP|refine rK ?_|exact sQ|refine sD ?_|rfl|exact sE|omega)
  all_goals grind [noLg,Lg.pv]
end Go.Proofs.YtekmkgegjicjgaaGreat

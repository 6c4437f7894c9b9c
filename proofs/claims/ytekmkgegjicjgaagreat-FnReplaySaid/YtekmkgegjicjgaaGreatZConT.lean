import Derived.Test.YtekmkgegjicjgaaGreatZBas
import Derived.Test.YtekmkgegjicjgaaGreatZCon
namespace Go.Proofs.YtekmkgegjicjgaaGreat
open Go.Dv Go.Dv.EvL
set_option maxRecDepth 100000
set_option maxHeartbeats 16000000
attribute [local irreducible] Ok Rm Dm Om Sm Xm Cm Gm Hm Tm
def joinTo (xs:List Txt)(b:Txt):Nat→Txt
 | 0=>[]
 | i+1=>(if 0<i then joinTo xs b i++b else joinTo xs b i)++xs.getD i []
theorem join_len {xs:List Txt}{b:Txt}{k:Nat}(hb:b.length≤100)(hx : ∀ i,i<xs.length→(xs.getD i []).length≤k) : ∀ {i:Nat},i≤xs.length→(joinTo xs b i).length≤i * (100+k)
 | 0,_=>by simp [joinTo]
 | i+1,h=>by
  have h1:=join_len hb hx (i:=i) (by omega)
  have h2:=hx i (by omega)
  unfold joinTo
  rw [Nat.add_mul]
  split<;>simp only [List.length_append]<;>omega
theorem k_join (xs:List Txt)(b:Txt)(k:Nat)(hb:b.length≤100)(hl:xs.length≤10000)(hk:k≤1048576)(hx : ∀ i,i<xs.length→(xs.getD i []).length≤k):Okv Tryz.prog 82 [slS xs,.str b] (.p (.str (joinTo xs b xs.length))):=by
 refine ok_D hmix c_impl_join (by simp) ?_
 refine sA ?_
 refine Dm_loop [1,5,8,9,10] (fun m ds H' => ∃ i:Nat,i≤xs.length∧m=xs.length - i∧ds=[.p (.str b),.p (.str (joinTo xs b i)),.p (slS xs),.p (.int .i64 xs.length),.p (.int .i64 i)]∧H'=[]) xs.length ⟨0,by omega,by omega,rfl,rfl⟩ ?_
 rintro m ds H' ⟨i,hi,rfl,rfl,rfl⟩ -
 have hs:joinTo xs b (i+1)=(if 0<i then joinTo xs b i++b else joinTo xs b i)++xs.getD i []:=rfl
 have h1:=join_len hb hx hi
 have h2:i * (100+k)≤10000 * (100+1048576):=Nat.mul_le_mul (by omega) (by omega)
 have h3:=hx i
 have hd:(default:Txt)=[]:=rfl
 have hfin:i=xs.length→joinTo xs b xs.length=joinTo xs b i:=by rintro rfl; rfl
 generalize joinTo xs b xs.length=W at *
 generalize joinTo xs b i=Z at *
 by_cases hin:i<xs.length
 ·have h3:=h3 hin
  repeat' (first|refine sA ?_|refine sN ?_|rw [hd]|simp only [List.length_append]|refine sB ?_|refine sX ?_ ?_<;>(try intro h)<;>(try omega)|exact sP|refine rK ?_|exact sQ|refine sD ?_|rfl|exact sE|omega)
  all_goals first
   | (have hpos:0<i:=by omega
      refine Xm_inv_n (xs.length - (i+1)) (by omega) ⟨i+1,by omega,rfl,?_,rfl⟩
      rw [hs,if_pos hpos]; rfl)
   | (have hpos : ¬ 0<i:=by omega
      refine Xm_inv_n (xs.length - (i+1)) (by omega) ⟨i+1,by omega,rfl,?_,rfl⟩
      rw [hs,if_neg hpos]; rfl)
 ·rw [hfin (by omega)]
  repeat' (first|refine sA ?_|refine sN ?_|refine sB ?_|refine sX ?_ ?_<;>(try intro h)<;>(try omega)|exact sP|refine rK ?_|exact sQ|refine sD ?_|rfl|exact sE|omega)
theorem num_le {n:Int}(h : -9223372036854775807≤n∧n≤9223372036854775807):(num n).length≤20:=by
 have:=dec_len64 (n:=n.natAbs) (by omega)
 unfold num
 split<;>simp<;>omega
def lvlT (n:Int):Txt:=if n=1 then [99,97,117,116,105,111,110] else [119,97,114,110,105,110,103]
def lineT (a:Al):Txt:=if a.seen=true then lvlT a.lvl++[32,102,111,114,32]++num a.low++[32,97,110,100,32]++num a.high++[32,115,105,110,99,101,32]++num a.since++[32,40,115,101,101,110,41] else lvlT a.lvl++[32,102,111,114,32]++num a.low++[32,97,110,100,32]++num a.high++[32,115,105,110,99,101,32]++num a.since
theorem al_in {a:Al}(h:alB a=true):(1≤a.low∧a.low≤65535)∧(1≤a.high∧a.high≤65535)∧(a.lvl=1∨a.lvl=2)∧(0≤a.since∧a.since≤9999):=by
 unfold alB addrB minB at h
 simp only [Bool.and_eq_true,decide_eq_true_eq] at h
 omega
theorem lvl_len (n:Int):(lvlT n).length=7:=by unfold lvlT; split<;>rfl
theorem line_le {a:Al}(h:alB a=true):(lineT a).length≤200:=by
 obtain ⟨h1,h2,h3,h4⟩:=al_in h
 have a1:=num_le (n:=a.low) (by omega)
 have a2:=num_le (n:=a.high) (by omega)
 have a3:=num_le (n:=a.since) (by omega)
 have a4:=lvl_len a.lvl
 unfold lineT
 split<;>simp only [List.length_append,List.length_cons,List.length_nil]<;>omega
theorem k_levelWords:Okw Tryz.prog 138 [] fun d H=>d = .own 0 0 3∧H=[.arr 9 1 [.str [110,111,110,101],.str [99,97,117,116,105,111,110],.str [119,97,114,110,105,110,103]]]:=by
 refine ok_D hmix c_impl_levelWords (by simp) ?_
 refine sA ?_
 repeat' (first|refine sA ?_|refine sN ?_|exact ret_gen _ _ _ rfl rfl rfl ⟨rfl,rfl⟩|refine sB ?_|refine sX ?_ ?_<;>(try intro h)<;>(try omega)|exact sP|refine rK ?_|exact sQ|refine sD ?_|rfl|exact sE|omega)
theorem k_alertLine (a:Al)(h:alB a=true):Okv Tryz.prog 83 [a.pv] (.p (.str (lineT a))):=by
 refine ok_D hmix c_impl_alertLine (by simp) ?_
 obtain ⟨h1,h2,h3,h4⟩:=al_in h
 have a1:=num_le (n:=a.low) (by omega)
 have a2:=num_le (n:=a.high) (by omega)
 have a3:=num_le (n:=a.since) (by omega)
 clear h
 obtain ⟨lo,hi,lv,si,se⟩:=a
 simp only [al_pv,lineT] at *
 rcases h3 with rfl|rfl<;>cases se
 all_goals
  refine sA ?_
  repeat' (first|refine sA ?_|refine sN ?_|refine rW rfl (k_text _ (by omega)) ?_|refine rV (k_text _ (by omega)) ?_|(refine Rm_o k_levelWords rfl (fun r H2 hh => ?_); obtain ⟨rfl,rfl⟩:=hh)|(refine Dm_draw [0] ?_ ?_; · (simp; done))|refine sB ?_|refine sX ?_ ?_<;>(try intro h)<;>(try omega)|exact sP|refine rK ?_|exact sQ|refine sD ?_|rfl|exact sE|omega)
theorem k_l20Line (a:Al)(h:alB a=true):Okv Tryz.prog 85 [a.pv] (.p (.str (lineT a))):=by
 refine ok_D hmix c_spec_l20Line (by simp) ?_
 obtain ⟨h1,h2,h3,h4⟩:=al_in h
 have a1:=num_le (n:=a.low) (by omega)
 have a2:=num_le (n:=a.high) (by omega)
 have a3:=num_le (n:=a.since) (by omega)
 clear h
 obtain ⟨lo,hi,lv,si,se⟩:=a
 simp only [al_pv,lineT] at *
 rcases h3 with rfl|rfl<;>cases se
 all_goals
  refine sA ?_
  repeat' (first|refine sA ?_|refine sN ?_|refine rW rfl (k_l1Num _ (by omega)) ?_|refine rV (k_l1Num _ (by omega)) ?_|(refine Dm_draw [0] ?_ ?_; · (simp; done))|refine sB ?_|refine sX ?_ ?_<;>(try intro h)<;>(try omega)|exact sP|refine rK ?_|exact sQ|refine sD ?_|rfl|exact sE|omega)
end Go.Proofs.YtekmkgegjicjgaaGreat
namespace Go.Proofs.YtekmkgegjicjgaaGreat
open Go.Dv Go.Dv.EvL
set_option maxRecDepth 100000
set_option maxHeartbeats 16000000
attribute [local irreducible] Ok Rm Dm Om Sm Xm Cm Gm Hm Tm
theorem recTo_at {n:Int}{xs:List Hd} : ∀ {j i:Nat},recTo n xs j=true→i<j→hdB n (xs.getD i default)=true
 | 0,i,_,h=>by omega
 | j+1,i,h1,h2=>by
  simp only [recTo,Bool.and_eq_true] at h1
  by_cases hi:i=j
  ·rw [hi]; exact h1.2.1
  ·exact recTo_at h1.1 (by omega)
theorem alTo_at {xs:List Al} : ∀ {j i:Nat},alTo xs j=true→i<j→alB (xs.getD i default)=true
 | 0,i,_,h=>by omega
 | j+1,i,h1,h2=>by
  simp only [alTo,Bool.and_eq_true] at h1
  by_cases hi:i=j
  ·rw [hi]; exact h1.2.1
  ·exact alTo_at h1.1 (by omega)
theorem hd_in {n:Int}{h:Hd}(hb:hdB n h=true):1≤h.addr∧h.addr≤65535:=by
 unfold hdB addrB at hb
 simp only [Bool.and_eq_true,decide_eq_true_eq] at hb
 exact hb.1.1.1
theorem cs_in {c:Cs}(h:csB c=true):(0≤c.mn∧c.mn≤9999)∧c.hl.length≤6∧(∀ i,i<c.hl.length→1≤(c.hl.getD i default).addr∧(c.hl.getD i default).addr≤65535)∧c.al.length≤10∧(∀ i,i<c.al.length→alB (c.al.getD i default)=true)∧logB c.lg=true:=by
 unfold csB recB2 alsB minB at h
 simp only [Bool.and_eq_true,decide_eq_true_eq] at h
 obtain ⟨⟨⟨⟨h1,h2⟩,h3⟩,h4,h5⟩,h6⟩:=h
 exact ⟨h1,h2,fun i hi=>hd_in (recTo_at h3 hi),h4,fun i hi=>alTo_at h5 hi,h6⟩
theorem open_cap : ∀ (n k:Nat) (s:List UInt8),(openR n k s).1.length≤n
 | 0,_,_=>Nat.le_refl _
 | f+1,k,s=>by
  rw [openR]
  split
  ·have:=open_cap f (k+1) (s.drop ((headB 10 s).length+1))
   simp only [List.length_cons]
   omega
  ·exact Nat.zero_le _
theorem cnt_in {l:Lg}(h:logB l=true):0≤l.cnt∧l.cnt≤60:=by
 have h1:=open_cap 60 0 (l.dur++l.pend)
 unfold logB at h
 simp only [Bool.and_eq_true,decide_eq_true_eq] at h
 have h2:=h.2
 unfold openS at h2
 omega
def wordsTo (mn:Int)(xs:List Hd):Nat→List Txt
 | 0=>[num mn]
 | i+1=>wordsTo mn xs i++[num (xs.getD i default).addr]
def headTo (mn:Int)(xs:List Hd):Nat→Txt
 | 0=>num mn
 | i+1=>headTo mn xs i++[32]++num (xs.getD i default).addr
theorem words_len {mn:Int}{xs:List Hd} : ∀ {i:Nat},(wordsTo mn xs i).length=i+1
 | 0=>rfl
 | i+1=>by rw [wordsTo,List.length_append,words_len]; rfl
theorem join_pre {xs ys:List Txt}{b:Txt} : ∀ {k:Nat},k≤xs.length→joinTo (xs++ys) b k=joinTo xs b k
 | 0,_=>rfl
 | k+1,h=>by
  have e:(xs++ys).getD k []=xs.getD k []:=by simp [List.getD_eq_getElem?_getD,List.getElem?_append_left (show k<xs.length from by omega)]
  simp only [joinTo,join_pre (xs:=xs) (ys:=ys) (b:=b) (k:=k) (by omega),e]
theorem join_one {xs:List Txt}{y b:Txt}(h:0<xs.length):joinTo (xs++[y]) b (xs.length+1)=joinTo xs b xs.length++b++y:=by
 have e:(xs++[y]).getD xs.length []=y:=by simp [List.getD_eq_getElem?_getD]
 rw [joinTo,if_pos h,join_pre (Nat.le_refl _),e]
theorem join_words {mn:Int}{xs:List Hd} : ∀ {i:Nat},joinTo (wordsTo mn xs i) [32] (i+1)=headTo mn xs i
 | 0=>by simp [joinTo,wordsTo,headTo]
 | i+1=>by
  have h1:=words_len (mn:=mn) (xs:=xs) (i:=i)
  have h2:=join_one (xs:=wordsTo mn xs i) (y:=num (xs.getD i default).addr) (b:=[32]) (by omega)
  rw [h1,join_words] at h2
  rw [wordsTo,h2,headTo]
theorem join_full {mn n:Int}{xs:List Hd}:joinTo (wordsTo mn xs xs.length++[num n]) [32] (xs.length+2)=headTo mn xs xs.length++[32]++num n:=by
 have h1:=words_len (mn:=mn) (xs:=xs) (i:=xs.length)
 have h2:=join_one (xs:=wordsTo mn xs xs.length) (y:=num n) (b:=[32]) (by omega)
 rw [h1,join_words] at h2
 exact h2
theorem head_le {mn:Int}{xs:List Hd}(hm:0≤mn∧mn≤9999)(hx : ∀ i,i<xs.length→1≤(xs.getD i default).addr∧(xs.getD i default).addr≤65535) : ∀ {i:Nat},i≤xs.length→(headTo mn xs i).length≤20+21 * i
 | 0,_=>by
  have:=num_le (n:=mn) (by omega)
  simpa [headTo] using this
 | i+1,h=>by
  have h1:=head_le hm hx (i:=i) (by omega)
  have h2:=hx i (by omega)
  have h3:=num_le (n:=(xs.getD i default).addr) (by omega)
  simp only [headTo,List.length_append,List.length_cons,List.length_nil]
  omega
theorem words_le {mn:Int}{xs:List Hd}(hm:0≤mn∧mn≤9999)(hx : ∀ i,i<xs.length→1≤(xs.getD i default).addr∧(xs.getD i default).addr≤65535) : ∀ {j i:Nat},j≤xs.length→i<j+1→((wordsTo mn xs j).getD i []).length≤20
 | 0,i,_,h=>by
  obtain rfl:i=0:=by omega
  exact num_le (n:=mn) (by omega)
 | j+1,i,h1,h2=>by
  have hl:=words_len (mn:=mn) (xs:=xs) (i:=j)
  by_cases hi:i=j+1
  ·have h3:=hx j (by omega)
   have h4:=num_le (n:=(xs.getD j default).addr) (by omega)
   rw [wordsTo,hi]
   simpa [List.getD_eq_getElem?_getD,List.getElem?_append_right (show (wordsTo mn xs j).length≤j+1 from by omega),hl] using h4
  ·have h3:=words_le hm hx (j:=j) (i:=i) (by omega) (by omega)
   rw [wordsTo]
   simpa [List.getD_eq_getElem?_getD,List.getElem?_append_left (show i<(wordsTo mn xs j).length from by omega)] using h3
theorem full_le {mn n:Int}{xs:List Hd}(hm:0≤mn∧mn≤9999)(hn:0≤n∧n≤60)(hx : ∀ i,i<xs.length→1≤(xs.getD i default).addr∧(xs.getD i default).addr≤65535){i:Nat}(hi:i<(wordsTo mn xs xs.length++[num n]).length):((wordsTo mn xs xs.length++[num n]).getD i []).length≤20:=by
 have hl:=words_len (mn:=mn) (xs:=xs) (i:=xs.length)
 rw [List.length_append,hl] at hi
 simp only [List.length_cons,List.length_nil] at hi
 by_cases h:i=xs.length+1
 ·have h4:=num_le (n:=n) (by omega)
  rw [h]
  simpa [List.getD_eq_getElem?_getD,List.getElem?_append_right (show (wordsTo mn xs xs.length).length≤xs.length+1 from by omega),hl] using h4
 ·have h3:=words_le hm hx (j:=xs.length) (i:=i) (Nat.le_refl _) (by omega)
  simpa [List.getD_eq_getElem?_getD,List.getElem?_append_left (show i<(wordsTo mn xs xs.length).length from by omega)] using h3
def bodyTo (w:Txt)(xs:List Al):Nat→Txt
 | 0=>w
 | i+1=>bodyTo w xs i++(lineT (xs.getD i default)++[10])
theorem body_le {w:Txt}{xs:List Al}(hx : ∀ i,i<xs.length→alB (xs.getD i default)=true) : ∀ {i:Nat},i≤xs.length→(bodyTo w xs i).length≤w.length+201 * i
 | 0,_=>by simp [bodyTo]
 | i+1,h=>by
  have h1:=body_le (w:=w) hx (i:=i) (by omega)
  have h3:=line_le (hx i (by omega))
  simp only [bodyTo,List.length_append,List.length_cons,List.length_nil]
  omega
def topT (c:Cs):Txt:=headTo c.mn c.hl c.hl.length++[32]++num c.lg.cnt++[10]
def conT (c:Cs):Txt:=bodyTo (topT c) c.al c.al.length
def fmtO (c:Cs):DV:=if csB c=true then .tup [.p (.str (conT c)),.p (.bool true)] else .tup [.p (.str []),.p (.bool false)]
end Go.Proofs.YtekmkgegjicjgaaGreat

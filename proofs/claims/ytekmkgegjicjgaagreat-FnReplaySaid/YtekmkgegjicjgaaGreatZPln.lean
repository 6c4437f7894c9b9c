import Derived.Test.YtekmkgegjicjgaaGreatZBas
import Derived.Test.YtekmkgegjicjgaaGreatZConT
import Derived.Test.YtekmkgegjicjgaaGreatZFrmB
namespace Go.Proofs.YtekmkgegjicjgaaGreat
open Go.Dv Go.Dv.EvL
set_option maxRecDepth 100000
set_option maxHeartbeats 16000000
attribute [local irreducible] Ok Rm Dm Om Sm Xm Cm Gm Hm Tm
theorem getD_app_l {α : Type}{p q:List α}{i:Nat}{d : α}(h:i<p.length):(p++q).getD i d=p.getD i d:=by
 simp [List.getD_eq_getElem?_getD,List.getElem?_append_left h]
theorem getD_app_r {α : Type}{p q:List α}{i:Nat}{d : α}(h:p.length≤i):(p++q).getD i d=q.getD (i - p.length) d:=by
 simp [List.getD_eq_getElem?_getD,List.getElem?_append_right h]
theorem getD_take {α : Type}{p:List α}{i n:Nat}{d : α}(h:i<n):(p.take n).getD i d=p.getD i d:=by
 simp [List.getD_eq_getElem?_getD,h]
theorem getD_drop {α : Type}{p:List α}{i n:Nat}{d : α}:(p.drop n).getD i d=p.getD (n+i) d:=by
 simp [List.getD_eq_getElem?_getD,List.getElem?_drop]
theorem recTo_up {n:Int}{xs:List Hd} : ∀ {j i:Nat},recTo n xs j=true→i<j→0<i→(xs.getD (i - 1) default).addr<(xs.getD i default).addr
 | 0,i,_,h,_=>by omega
 | j+1,i,h1,h2,h3=>by
  simp only [recTo,Bool.and_eq_true,Bool.or_eq_true,decide_eq_true_eq] at h1
  by_cases hi:i=j
  ·rw [hi]
   rcases h1.2.2 with h|h
   ·omega
   ·exact h
  ·exact recTo_up h1.1 (by omega) h3
theorem recTo_sorted {n:Int}{xs:List Hd}{j:Nat}(h:recTo n xs j=true) : ∀ {b a:Nat},a<b→b<j→(xs.getD a default).addr<(xs.getD b default).addr
 | 0,a,h1,_=>by omega
 | b+1,a,h1,h2=>by
  have h3:=recTo_up h h2 (by omega)
  rw [Nat.add_sub_cancel] at h3
  by_cases hb:a=b
  ·rw [hb]; exact h3
  ·have:=recTo_sorted h (a:=a) (b:=b) (by omega) (by omega)
   omega
def posH (a:Int):List Hd→Nat
 | []=>0
 | h::t=>if h.addr<a then posH a t+1 else 0
theorem posH_le (a:Int) : ∀ xs,posH a xs≤xs.length
 | []=>Nat.le_refl _
 | h::t=>by
  have:=posH_le a t
  unfold posH
  split<;>simp<;>omega
theorem posH_eq {a:Int} : ∀ {xs:List Hd} {k:Nat},k≤xs.length→(∀ j,j<k→(xs.getD j default).addr<a)→(k<xs.length → ¬ (xs.getD k default).addr<a)→posH a xs=k
 | [],k,h,_,_=>by simp at h; subst h; rfl
 | h::t,0,_,_,h3=>by
  have:=h3 (by simp)
  unfold posH
  rw [if_neg (by simpa using this)]
 | h::t,k+1,h1,h2,h3=>by
  have h4:=h2 0 (by omega)
  unfold posH
  rw [if_pos (by simpa using h4),posH_eq (k:=k) (by simpa using h1) (fun j hj=>by simpa using h2 (j+1) (by omega)) (fun h=>by simpa using h3 (by simpa using h))]
theorem posH_at {a:Int} : ∀ {xs:List Hd},(∀ j,j<posH a xs→(xs.getD j default).addr<a)∧(posH a xs<xs.length → ¬ (xs.getD (posH a xs) default).addr<a)
 | []=>⟨fun j h=>absurd h (by simp [posH]),fun h=>absurd h (by simp [posH])⟩
 | h::t=>by
  obtain ⟨h1,h2⟩:=posH_at (a:=a) (xs:=t)
  by_cases hb:h.addr<a
  ·have e:posH a (h::t)=posH a t+1:=by rw [posH,if_pos hb]
   rw [e]
   refine ⟨fun j hj => ?_,fun hl => ?_⟩
   ·cases j with
    | zero=>simpa using hb
    | succ j=>simpa using h1 j (by omega)
   ·simpa using h2 (by simpa using hl)
  ·have e:posH a (h::t)=0:=by rw [posH,if_neg hb]
   rw [e]
   exact ⟨fun j hj=>by omega,fun _=>by simpa using hb⟩
def hatK (xs:List Hd)(a:Int):Nat→Int
 | 0 => -1
 | k+1=>if (xs.getD (xs.length - (k+1)) default).addr=a then ((xs.length - (k+1):Nat):Int) else hatK xs a k
def hatO (xs:List Hd)(a:Int):Int:=hatK xs a xs.length
theorem hatK_in (xs:List Hd)(a:Int) : ∀ k,k≤xs.length→(hatK xs a k = -1 ∧ ∀ j,xs.length - k≤j→j<xs.length→(xs.getD j default).addr≠a) ∨ ∃ i:Nat,hatK xs a k=i∧i<xs.length∧(xs.getD i default).addr=a
 | 0,_ => .inl ⟨rfl,fun j h1 h2=>by omega⟩
 | k+1,h=>by
  unfold hatK
  by_cases hh:(xs.getD (xs.length - (k+1)) default).addr=a
  ·rw [if_pos hh]
   exact .inr ⟨_,rfl,by omega,hh⟩
  ·rw [if_neg hh]
   rcases hatK_in xs a k (by omega) with ⟨h1,h2⟩|h1
   ·refine .inl ⟨h1,fun j h3 h4 => ?_⟩
    by_cases e:j=xs.length - (k+1)
    ·rw [e]; exact hh
    ·exact h2 j (by omega) h4
   ·exact .inr h1
theorem hat_in (xs:List Hd)(a:Int):(hatO xs a = -1 ∧ ∀ j,j<xs.length→(xs.getD j default).addr≠a) ∨ ∃ i:Nat,hatO xs a=i∧i<xs.length∧(xs.getD i default).addr=a:=by
 rcases hatK_in xs a xs.length (Nat.le_refl _) with ⟨h1,h2⟩|h1
 ·exact .inl ⟨h1,fun j h=>h2 j (by omega) h⟩
 ·exact .inr h1
theorem sorted_hat {n:Int}{xs:List Hd}(h:recTo n xs xs.length=true)(a:Int):hatO xs a=if posH a xs<xs.length∧(xs.getD (posH a xs) default).addr=a then (posH a xs:Int) else -1:=by
 obtain ⟨h1,h2⟩:=posH_at (a:=a) (xs:=xs)
 rcases hat_in xs a with ⟨h3,h4⟩|⟨i,h3,h4,h5⟩
 ·rw [h3,if_neg (fun h6=>h4 _ h6.1 h6.2)]
 ·have e:posH a xs=i:=posH_eq (by omega) (fun j hj=>by have:=recTo_sorted h hj h4; omega) (fun _=>by omega)
  rw [h3,e,if_pos ⟨h4,h5⟩]
def newH (a:Int):Hd:=⟨a,false,0,0,-1,false,0,0,-1,0⟩
def upB (d:Nat):Bool:=decide (d≤32767) && rpB (decide (16384≤d)) ((d % 16384 / 128:Nat):Int) ((d % 128:Nat):Int)
def upO (d:Nat):(Bool × Int × Int) × Bool:=if upB d=true then ((decide (16384≤d),((d % 16384 / 128:Nat):Int),((d % 128:Nat):Int)),true) else ((false,0,0),false)
def updH (h:Hd)(f:Nat × Nat × Nat)(m:Int):Hd :=
 if upB f.2.2=true∧f.1=2 then
  (if 16384≤f.2.2 then { h with fr:=h.fr+1,oo:=true,oa:=((f.2.2 % 16384 / 128:Nat):Int),ob:=((f.2.2 % 128:Nat):Int),oAt:=m }
   else { h with fr:=h.fr+1,eo:=false,ea:=((f.2.2 % 16384 / 128:Nat):Int),eb:=((f.2.2 % 128:Nat):Int),eAt:=m })
 else { h with fr:=h.fr+1 }
def insH (xs:List Hd)(a:Int):List Hd:=if posH a xs<xs.length∧(xs.getD (posH a xs) default).addr=a then xs else xs.take (posH a xs)++newH a::xs.drop (posH a xs)
def rcvL (xs:List Hd)(f:Nat × Nat × Nat)(m:Int):List Hd:=(insH xs f.2.1).set (posH f.2.1 xs) (updH ((insH xs f.2.1).getD (posH f.2.1 xs) default) f m)
theorem insH_len (xs:List Hd)(a:Int):(insH xs a).length≤xs.length+1∧posH a xs<(insH xs a).length:=by
 have:=posH_le a xs
 unfold insH
 split
 ·omega
 ·simp; omega
theorem rcvL_len (xs:List Hd)(f:Nat × Nat × Nat)(m:Int):(rcvL xs f m).length≤xs.length+1:=by
 unfold rcvL
 rw [List.length_set]
 exact (insH_len xs _).1
def rcvB (n:Int)(xs:List Hd)(m:Int)(f:(Nat × Nat × Nat) × Int × Bool):Bool:=recB2 n xs && f.2.2 && decide (n≤m) && recB2 m (rcvL xs f.1 m)
theorem swap_ins {xs:List Hd}{z:Hd}{i:Nat}(h:i<xs.length):((xs.take (i+1)++z::xs.drop (i+1)).set i z).set (i+1) (xs.getD i default)=xs.take i++z::xs.drop i:=by
 rw [take_snoc (d:=default) h,drop_cons (d:=default) h]
 have e:xs.take i++[xs.getD i default]++z::xs.drop (i+1)=xs.take i++(xs.getD i default::z::xs.drop (i+1)):=by simp
 have hl:(xs.take i).length=i:=by rw [List.length_take]; omega
 rw [e,List.set_append_right _ _ (by omega),hl,Nat.sub_self,List.set_cons_zero,List.set_append_right _ _ (by omega),hl,show i+1 - i=1 from by omega]
 rfl
theorem ins_at {n:Int}{xs:List Hd}{a:Int}{i:Nat}(h:recTo n xs xs.length=true)(hno : ∀ j,j<xs.length→(xs.getD j default).addr≠a)(hi:i≤xs.length)(hup : ∀ j,i≤j→j<xs.length→a<(xs.getD j default).addr)(hlo:0<i → ¬ a<(xs.getD (i - 1) default).addr):posH a xs=i∧insH xs a=xs.take i++newH a::xs.drop i:=by
 have e:posH a xs=i:=posH_eq hi (fun j hj=>by
  have h1:=hlo (by omega)
  have h2:=hno (i - 1) (by omega)
  by_cases hj2:j=i - 1
  ·rw [hj2]; omega
  ·have:=recTo_sorted h (a:=j) (b:=i - 1) (by omega) (by omega)
   omega) (fun hl=>by have:=hup i (Nat.le_refl _) hl; omega)
 refine ⟨e,?_⟩
 unfold insH
 rw [e,if_neg (fun h1=>hno _ h1.1 h1.2)]
def frsh (t m:Int):Bool:=decide (0≤t) && decide (m - t≤10)
def ptH (m:Int)(h:Hd):Hd :=
 ⟨h.addr,if frsh h.eAt m=true then h.eo else false,if frsh h.eAt m=true then h.ea else 0,if frsh h.eAt m=true then h.eb else 0,if frsh h.eAt m=true then h.eAt else -1,
  if frsh h.oAt m=true then h.oo else false,if frsh h.oAt m=true then h.oa else 0,if frsh h.oAt m=true then h.ob else 0,if frsh h.oAt m=true then h.oAt else -1,h.fr⟩
def ptK (m:Int)(h:Hd):Bool:=frsh h.eAt m || frsh h.oAt m
def ptTo (m:Int)(xs:List Hd):Nat→List Hd
 | 0=>[]
 | i+1=>if ptK m (xs.getD i default)=true then ptTo m xs i++[ptH m (xs.getD i default)] else ptTo m xs i
theorem ptTo_len (m:Int)(xs:List Hd) : ∀ i,(ptTo m xs i).length≤i
 | 0=>Nat.le_refl _
 | i+1=>by
  have:=ptTo_len m xs i
  unfold ptTo
  split<;>simp<;>omega
def ptB (n:Int)(xs:List Hd)(m:Int):Bool:=recB2 n xs && minB m && decide (n≤m)
def bothK (e o:Int):Int:=(o+99 - e.tmod 99).tmod 99
def bothN (e o:Int):Int:=e+100 * bothK e o
def dpB (h:Hd):Bool:=rpB h.eo h.ea h.eb && rpB h.oo h.oa h.ob && !h.eo && h.oo
def dpO (h:Hd):(Int × Int) × Bool:=if dpB h=true then ((bothN h.ea h.oa,bothN h.eb h.ob),true) else ((0,0),false)
def pnO (m:Int)(h:Hd):(Int × Int) × Bool:=if frsh h.eAt m=true∧frsh h.oAt m=true then dpO h else ((0,0),false)
theorem bothK_in {e o:Int}(he:0≤e)(ho:0≤o∧o≤98):0≤bothK e o∧bothK e o≤98∧(e+100 * bothK e o).tmod 99=o:=by
 obtain ⟨a,rfl⟩ : ∃ a:Nat,e=a:=⟨e.toNat,by omega⟩
 obtain ⟨b,rfl⟩ : ∃ b:Nat,o=b:=⟨o.toNat,by omega⟩
 unfold bothK
 have h1:(a:Int).tmod 99=((a % 99:Nat):Int):=tmod_nat a 99
 rw [h1,show (b:Int)+99 - ((a % 99:Nat):Int)=((b+99 - a % 99:Nat):Int) from by omega]
 have h2:((b+99 - a % 99:Nat):Int).tmod 99=(((b+99 - a % 99) % 99:Nat):Int):=tmod_nat _ 99
 rw [h2,show (a:Int)+100 * (((b+99 - a % 99) % 99:Nat):Int)=((a+100 * ((b+99 - a % 99) % 99):Nat):Int) from by omega]
 have h3:((a+100 * ((b+99 - a % 99) % 99):Nat):Int).tmod 99=(((a+100 * ((b+99 - a % 99) % 99)) % 99:Nat):Int):=tmod_nat _ 99
 rw [h3]
 omega
theorem bothK_first {e o:Int}{k:Nat}(he:0≤e)(ho:0≤o∧o≤98)(hk:(k:Int)≤bothK e o)(h:(e+100 * (k:Int)).tmod 99=o):(k:Int)=bothK e o:=by
 obtain ⟨h1,h2,h3⟩:=bothK_in he ho
 obtain ⟨a,rfl⟩ : ∃ a:Nat,e=a:=⟨e.toNat,by omega⟩
 obtain ⟨b,rfl⟩ : ∃ b:Nat,o=b:=⟨o.toNat,by omega⟩
 obtain ⟨c,hc⟩ : ∃ c:Nat,bothK (a:Int) (b:Int)=c:=⟨(bothK (a:Int) (b:Int)).toNat,by omega⟩
 rw [hc] at h3 hk h1 h2 ⊢
 rw [show (a:Int)+100 * (c:Int)=((a+100 * c:Nat):Int) from by omega] at h3
 rw [show (a:Int)+100 * (k:Int)=((a+100 * k:Nat):Int) from by omega] at h
 have e1:((a+100 * c:Nat):Int).tmod 99=(((a+100 * c) % 99:Nat):Int):=tmod_nat _ 99
 have e2:((a+100 * k:Nat):Int).tmod 99=(((a+100 * k) % 99:Nat):Int):=tmod_nat _ 99
 rw [e1] at h3
 rw [e2] at h
 omega
def faTo (m:Int)(xs:List Hd):Nat→List Int
 | 0=>[]
 | i+1=>if (pnO m (xs.getD i default)).2=true then faTo m xs i++[(xs.getD i default).addr] else faTo m xs i
end Go.Proofs.YtekmkgegjicjgaaGreat
namespace Go.Proofs.YtekmkgegjicjgaaGreat
open Go.Dv Go.Dv.EvL
set_option maxRecDepth 100000
set_option maxHeartbeats 16000000
attribute [local irreducible] Ok Rm Dm Om Sm Xm Cm Gm Hm Tm
def prA (a b lvl m:Int):Al:=⟨min a b,max a b,lvl,m,false⟩
def sameP (x y:Al):Bool:=decide (x.low=y.low) && decide (x.high=y.high)
theorem bef_iff {a b:Al}:befB a b=true↔a.low<b.low∨(a.low=b.low∧a.high<b.high):=by
 unfold befB
 simp only [Bool.or_eq_true,Bool.and_eq_true,decide_eq_true_eq]
theorem same_iff {a b:Al}:sameP a b=true↔a.low=b.low∧a.high=b.high:=by
 unfold sameP
 simp only [Bool.and_eq_true,decide_eq_true_eq]
theorem bef_trans {a b c:Al}(h1:befB a b=true)(h2:befB b c=true):befB a c=true:=by
 rw [bef_iff] at *
 omega
theorem alTo_up {xs:List Al} : ∀ {j i:Nat},alTo xs j=true→i<j→0<i→befB (xs.getD (i - 1) default) (xs.getD i default)=true
 | 0,i,_,h,_=>by omega
 | j+1,i,h1,h2,h3=>by
  simp only [alTo,Bool.and_eq_true,Bool.or_eq_true,decide_eq_true_eq] at h1
  by_cases hi:i=j
  ·rw [hi]
   rcases h1.2.2 with h|h
   ·omega
   ·exact h
  ·exact alTo_up h1.1 (by omega) h3
theorem alTo_sorted {xs:List Al}{j:Nat}(h:alTo xs j=true) : ∀ {b a:Nat},a<b→b<j→befB (xs.getD a default) (xs.getD b default)=true
 | 0,a,h1,_=>by omega
 | b+1,a,h1,h2=>by
  have h3:=alTo_up h h2 (by omega)
  rw [Nat.add_sub_cancel] at h3
  by_cases hb:a=b
  ·rw [hb]; exact h3
  ·exact bef_trans (alTo_sorted h (a:=a) (b:=b) (by omega) (by omega)) h3
theorem als_to {xs:List Al}(h:alsB xs=true):alTo xs xs.length=true∧xs.length≤10:=by
 unfold alsB at h
 simp only [Bool.and_eq_true,decide_eq_true_eq] at h
 exact ⟨h.2,h.1⟩
def posA (x:Al):List Al→Nat
 | []=>0
 | h::t=>if befB h x=true then posA x t+1 else 0
theorem posA_le (x:Al) : ∀ xs,posA x xs≤xs.length
 | []=>Nat.le_refl _
 | h::t=>by
  have:=posA_le x t
  unfold posA
  split<;>simp<;>omega
theorem posA_eq {x:Al} : ∀ {xs:List Al} {k:Nat},k≤xs.length→(∀ j,j<k→befB (xs.getD j default) x=true)→(k<xs.length→befB (xs.getD k default) x=false)→posA x xs=k
 | [],k,h,_,_=>by simp at h; subst h; rfl
 | h::t,0,_,_,h3=>by
  have:=h3 (by simp)
  unfold posA
  rw [if_neg (by simpa using this)]
 | h::t,k+1,h1,h2,h3=>by
  have h4:=h2 0 (by omega)
  unfold posA
  rw [if_pos (by simpa using h4),posA_eq (k:=k) (by simpa using h1) (fun j hj=>by simpa using h2 (j+1) (by omega)) (fun h=>by simpa using h3 (by simpa using h))]
theorem posA_at {x:Al} : ∀ {xs:List Al},(∀ j,j<posA x xs→befB (xs.getD j default) x=true)∧(posA x xs<xs.length→befB (xs.getD (posA x xs) default) x=false)
 | []=>⟨fun j h=>absurd h (by simp [posA]),fun h=>absurd h (by simp [posA])⟩
 | h::t=>by
  obtain ⟨h1,h2⟩:=posA_at (x:=x) (xs:=t)
  cases hb:befB h x
  ·have e:posA x (h::t)=0:=by rw [posA,if_neg (by rw [hb]; decide)]
   rw [e]
   exact ⟨fun j hj=>by omega,fun _=>by simpa using hb⟩
  ·have e:posA x (h::t)=posA x t+1:=by rw [posA,if_pos hb]
   rw [e]
   refine ⟨fun j hj => ?_,fun hl => ?_⟩
   ·cases j with
    | zero=>simpa using hb
    | succ j=>simpa using h1 j (by omega)
   ·simpa using h2 (by simpa using hl)
def isA (x:Al)(xs:List Al):Bool:=decide (posA x xs<xs.length) && sameP (xs.getD (posA x xs) default) x
def aatK (xs:List Al)(x:Al):Nat→Int
 | 0 => -1
 | k+1=>if sameP (xs.getD (xs.length - (k+1)) default) x=true then ((xs.length - (k+1):Nat):Int) else aatK xs x k
def aatO (xs:List Al)(x:Al):Int:=aatK xs x xs.length
theorem aatK_in (xs:List Al)(x:Al) : ∀ k,k≤xs.length→(aatK xs x k = -1 ∧ ∀ j,xs.length - k≤j→j<xs.length→sameP (xs.getD j default) x=false) ∨ ∃ i:Nat,aatK xs x k=i∧i<xs.length∧sameP (xs.getD i default) x=true
 | 0,_ => .inl ⟨rfl,fun j h1 h2=>by omega⟩
 | k+1,h=>by
  unfold aatK
  by_cases hh:sameP (xs.getD (xs.length - (k+1)) default) x=true
  ·rw [if_pos hh]
   exact .inr ⟨_,rfl,by omega,hh⟩
  ·rw [if_neg hh]
   rcases aatK_in xs x k (by omega) with ⟨h1,h2⟩|h1
   ·refine .inl ⟨h1,fun j h3 h4 => ?_⟩
    by_cases e:j=xs.length - (k+1)
    ·rw [e]; simpa using hh
    ·exact h2 j (by omega) h4
   ·exact .inr h1
theorem aat_in (xs:List Al)(x:Al):(aatO xs x = -1 ∧ ∀ j,j<xs.length→sameP (xs.getD j default) x=false) ∨ ∃ i:Nat,aatO xs x=i∧i<xs.length∧sameP (xs.getD i default) x=true:=by
 rcases aatK_in xs x xs.length (Nat.le_refl _) with ⟨h1,h2⟩|h1
 ·exact .inl ⟨h1,fun j h=>h2 j (by omega) h⟩
 ·exact .inr h1
theorem sorted_aat {xs:List Al}(h:alTo xs xs.length=true)(x:Al):aatO xs x=if isA x xs=true then (posA x xs:Int) else -1:=by
 obtain ⟨h1,h2⟩:=posA_at (x:=x) (xs:=xs)
 rcases aat_in xs x with ⟨h3,h4⟩|⟨i,h3,h4,h5⟩
 ·rw [h3,if_neg]
  intro h6
  unfold isA at h6
  simp only [Bool.and_eq_true,decide_eq_true_eq] at h6
  rw [h4 _ h6.1] at h6
  exact absurd h6.2 (by decide)
 ·have h5':=same_iff.1 h5
  have e:posA x xs=i:=posA_eq (by omega) (fun j hj=>by
   have:=bef_iff.1 (alTo_sorted h hj h4)
   rw [bef_iff]
   omega) (fun _=>by
   rw [Bool.eq_false_iff]
   intro h6
   rw [bef_iff] at h6
   omega)
  rw [h3,if_pos (by unfold isA; rw [e,h5,decide_eq_true h4]; rfl),e]
def setL2 (xs:List Al)(x:Al):List Al :=
 if isA x xs=true then (if x.lvl=0 then xs.take (posA x xs)++xs.drop (posA x xs+1) else if (xs.getD (posA x xs) default).lvl=x.lvl then xs else xs.set (posA x xs) x)
 else (if x.lvl=0 then xs else xs.take (posA x xs)++x::xs.drop (posA x xs))
theorem setL2_len (xs:List Al)(x:Al):(setL2 xs x).length≤xs.length+1:=by
 have:=posA_le x xs
 unfold setL2
 split
 ·split
  ·simp; omega
  ·split
   ·omega
   ·simp
 ·split
  ·omega
  ·simp; omega
def pairB (a b:Int):Bool:=addrB a && addrB b && decide (a≠b)
def setB (xs:List Al)(a b lvl m:Int):Bool:=alsB xs && pairB a b && decide (0≤lvl∧lvl≤2) && minB m && alsB (setL2 xs (prA a b lvl m))
def seeB (xs:List Al)(a b:Int):Bool:=alsB xs && pairB a b && isA (prA a b 0 0) xs
def seeL (xs:List Al)(a b:Int):List Al:=xs.set (posA (prA a b 0 0) xs) { xs.getD (posA (prA a b 0 0) xs) default with seen:=true }
theorem swap_al {xs:List Al}{z:Al}{i:Nat}(h:i<xs.length):((xs.take (i+1)++z::xs.drop (i+1)).set i z).set (i+1) (xs.getD i default)=xs.take i++z::xs.drop i:=by
 rw [take_snoc (d:=default) h,drop_cons (d:=default) h]
 have e:xs.take i++[xs.getD i default]++z::xs.drop (i+1)=xs.take i++(xs.getD i default::z::xs.drop (i+1)):=by simp
 have hl:(xs.take i).length=i:=by rw [List.length_take]; omega
 rw [e,List.set_append_right _ _ (by omega),hl,Nat.sub_self,List.set_cons_zero,List.set_append_right _ _ (by omega),hl,show i+1 - i=1 from by omega]
 rfl
theorem posA_down {xs:List Al}{x:Al}{i:Nat}(h:alTo xs xs.length=true)(hno:isA x xs=false)(hi:i≤xs.length)(hup : ∀ j,i≤j→j<xs.length→befB x (xs.getD j default)=true)(hlo:0<i→befB x (xs.getD (i - 1) default)=false):posA x xs=i:=by
 have h0:=sorted_aat h x
 rw [hno,if_neg (by decide)] at h0
 have hne : ∀ j,j<xs.length→sameP (xs.getD j default) x=false:=by
  rcases aat_in xs x with ⟨_,h4⟩|⟨k,h3,_,_⟩
  ·exact h4
  ·omega
 have hne2 : ∀ j,j<xs.length → ¬ ((xs.getD j default).low=x.low∧(xs.getD j default).high=x.high):=fun j hj he=>by
  have:=hne j hj
  rw [same_iff.2 he] at this
  cases this
 refine posA_eq hi (fun j hj => ?_) (fun hl => ?_)
 ·have h1:=hlo (by omega)
  rw [Bool.eq_false_iff] at h1
  have h2 : ¬ (x.low<(xs.getD (i - 1) default).low∨(x.low=(xs.getD (i - 1) default).low∧x.high<(xs.getD (i - 1) default).high)):=fun h=>h1 (bef_iff.2 h)
  have h3:=hne2 (i - 1) (by omega)
  rw [bef_iff]
  by_cases hj2:j=i - 1
  ·rw [hj2]; omega
  ·have:=bef_iff.1 (alTo_sorted h (a:=j) (b:=i - 1) (by omega) (by omega))
   omega
 ·have h1:=bef_iff.1 (hup i (Nat.le_refl _) hl)
  rw [Bool.eq_false_iff]
  intro h2
  rw [bef_iff] at h2
  omega
def ufB (y a:Al):Bool:=decide (y.lvl<a.lvl) || (decide (y.lvl=a.lvl) && decide (a.since<y.since))
def downU (ys:List Al)(a:Al):Nat→Nat
 | 0=>0
 | k+1=>if ufB (ys.getD k default) a=true then downU ys a k else k+1
theorem downU_le (ys:List Al)(a:Al) : ∀ k,downU ys a k≤k
 | 0=>Nat.le_refl _
 | k+1=>by
  have:=downU_le ys a k
  unfold downU
  split<;>omega
def insU (ys:List Al)(a:Al):List Al:=ys.take (downU ys a ys.length)++a::ys.drop (downU ys a ys.length)
theorem insU_len (ys:List Al)(a:Al):(insU ys a).length=ys.length+1:=by
 have:=downU_le ys a ys.length
 unfold insU
 simp
 omega
def uoTo (xs:List Al):Nat→List Al
 | 0=>[]
 | i+1=>if (xs.getD i default).seen=true then uoTo xs i else insU (uoTo xs i) (xs.getD i default)
theorem uoTo_len (xs:List Al) : ∀ i,(uoTo xs i).length≤i
 | 0=>Nat.le_refl _
 | i+1=>by
  have:=uoTo_len xs i
  unfold uoTo
  split
  ·omega
  ·rw [insU_len]; omega
def pairPV (x:Al):PV := .agg [.int .i64 x.low,.int .i64 x.high]
end Go.Proofs.YtekmkgegjicjgaaGreat
namespace Go.Proofs.YtekmkgegjicjgaaGreat
open Go.Dv Go.Dv.EvL
set_option maxRecDepth 100000
set_option maxHeartbeats 16000000
attribute [local irreducible] Ok Rm Dm Om Sm Xm Cm Gm Hm Tm
inductive Rs where
 | same (r:Txt)
 | rcv (m:Int) (ys:List Hd) (r:Txt)
 | alr (ys:List Al) (r:Txt)
 | bad
def Rs.cs (c:Cs):Rs→Cs
 | .same _=>c
 | .rcv m ys _=>{ c with mn:=m,hl:=ys }
 | .alr ys _=>{ c with al:=ys }
 | .bad=>c
def Rs.rep:Rs→Txt
 | .same r=>r
 | .rcv _ _ r=>r
 | .alr _ r=>r
 | .bad=>[63]
def wHear:Txt:=[104,101,97,114]
def wEnc:Txt:=[101,110,99,111,100,101]
def wDec:Txt:=[100,101,99,111,100,101]
def wSet:Txt:=[115,101,116]
def wPass:Txt:=[112,97,115,115]
def wWhere:Txt:=[119,104,101,114,101]
def wFresh:Txt:=[102,114,101,115,104]
def wFrames:Txt:=[102,114,97,109,101,115]
def wSee:Txt:=[115,101,101]
def wAlerts:Txt:=[97,108,101,114,116,115]
def wShow:Txt:=[115,104,111,119]
def wOk:Txt:=[111,107]
def wNone:Txt:=[110,111,110,101]
def wCau:Txt:=[99,97,117,116,105,111,110]
def wWarn:Txt:=[119,97,114,110,105,110,103]
def lsT (ws:List Txt):Txt:=if ws.length=0 then wNone else joinTo ws [32] ws.length
def pairT (x:Al):Txt:=num x.low++[45]++num x.high
def dcR (s:Txt):Rs:=if (rpfO s).2.2=true then .same (if 0≤(rpfO s).2.1 then ftT (rpfO s).1++([32,98,105,116,32]++num (rpfO s).2.1) else ftT (rpfO s).1) else .bad
def encR (s:Txt):Rs:=if (pfO s).2=true then .same (fhT (pfO s).1) else .bad
def hearR (c:Cs)(s:Txt)(m:Int):Rs:=if rcvB c.mn c.hl m (rpfO s)=true then .rcv m (rcvL c.hl (rpfO s).1 m) wOk else .bad
def passR (c:Cs)(m:Int):Rs:=if ptB c.mn c.hl m=true then .rcv m (ptTo m c.hl c.hl.length) (num (ptTo m c.hl c.hl.length).length) else .bad
def whereR (c:Cs)(n:Int):Rs:=if recB2 c.mn c.hl=true∧0≤hatO c.hl n∧(pnO c.mn (c.hl.getD (hatO c.hl n).toNat default)).2=true then .same (num (pnO c.mn (c.hl.getD (hatO c.hl n).toNat default)).1.1++[44]++num (pnO c.mn (c.hl.getD (hatO c.hl n).toNat default)).1.2) else .bad
def framesR (c:Cs)(n:Int):Rs:=if recB2 c.mn c.hl=true∧0≤hatO c.hl n then .same (num (c.hl.getD (hatO c.hl n).toNat default).fr) else .bad
def freshR (c:Cs):Rs := .same (lsT ((faTo c.mn c.hl c.hl.length).map num))
def alertsR (c:Cs):Rs := .same (lsT ((uoTo c.al c.al.length).map pairT))
def seeR (c:Cs)(a b:Int):Rs:=if seeB c.al a b=true then .alr (seeL c.al a b) wOk else .bad
def showR (c:Cs)(a b:Int):Rs:=if seeB c.al a b=true then .same (lineT (c.al.getD (posA (prA a b 0 0) c.al) default)) else .bad
def setR (c:Cs)(a b l:Int):Rs:=if setB c.al a b l c.mn=true then .alr (setL2 c.al (prA a b l c.mn)) wOk else .bad
def lvI (w:Txt):Int:=if w=wNone then 0 else if w=wCau then 1 else if w=wWarn then 2 else -1
def run1 (c:Cs)(w:Txt):Rs:=if w=wFresh then freshR c else if w=wAlerts then alertsR c else .bad
def run2 (c:Cs)(w w1:Txt):Rs:=if w=wDec then dcR w1 else if (readO w1).2=true then (if w=wPass then passR c (readO w1).1 else if w=wWhere then whereR c (readO w1).1 else if w=wFrames then framesR c (readO w1).1 else .bad) else .bad
def run3 (c:Cs)(w w1 w2:Txt):Rs:=if w=wHear then (if (readO w2).2=true then hearR c w1 (readO w2).1 else .bad) else if (readO w1).2=true∧(readO w2).2=true then (if w=wSee then seeR c (readO w1).1 (readO w2).1 else if w=wShow then showR c (readO w1).1 (readO w2).1 else .bad) else .bad
def run4 (c:Cs)(w w1 w2 w3:Txt):Rs:=if w=wEnc then encR (w1++32::(w2++32::w3)) else if w=wSet then (if ((readO w2).2=true∧(readO w3).2=true)∧0≤lvI w1 then setR c (readO w2).1 (readO w3).1 (lvI w1) else .bad) else .bad
def runR (c:Cs):List Txt→Rs
 | [w]=>run1 c w
 | [w,w1]=>run2 c w w1
 | [w,w1,w2]=>run3 c w w1 w2
 | [w,w1,w2,w3]=>run4 c w w1 w2 w3
 | _ => .bad
end Go.Proofs.YtekmkgegjicjgaaGreat

import Derived.Test.YtchekagoaidlpaaSp9
namespace Go.Proofs.Ytchekagoaidlpaa
open Go.Dv Go.Dv.EvL
attribute [local irreducible] Ok Rm Dm Om Sm Xm Cm Gm Hm Tm

/-! ### the first place of a text -/
theorem cut_get {s w : Txt} {i j : Nat} (h : cutL s i (i + w.length) = w) (hj : j < w.length) : s[i + j]? = w[j]? := by
  have h2 := congrArg (fun l : List UInt8 => l[j]?) h
  unfold cutL at h2
  simp only [List.getElem?_take, List.getElem?_drop] at h2
  rw [if_pos (by omega)] at h2
  exact h2
theorem find_at {p w t : Txt} (h : ∀ i, i < p.length → cutL (p ++ (w ++ t)) i (i + w.length) ≠ w) : ∀ {f i : Nat}, i ≤ p.length → p.length < f + i → findI (p ++ (w ++ t)) w f i = some p.length
  | 0, i, h1, h2 => by omega
  | f + 1, i, h1, h2 => by
    rw [findI, if_pos (by simp only [List.length_append]; omega)]
    by_cases hi : i = p.length
    · subst hi
      rw [if_pos (by unfold cutL; rw [List.drop_left, Nat.add_sub_cancel_left, List.take_left])]
    · rw [if_neg (h i (by omega))]
      exact find_at h (by omega) (by omega)
theorem cut2_first {p w t : Txt} (h : ∀ i, i < p.length → cutL (p ++ (w ++ t)) i (i + w.length) ≠ w) : cut2 (p ++ (w ++ t)) w = (p, t, true) := by
  unfold cut2
  rw [find_at h (f := (p ++ (w ++ t)).length + 1) (i := 0) (by omega) (by simp only [List.length_append]; omega)]
  simp only [List.take_left, Prod.mk.injEq, and_true, true_and]
  rw [← List.append_assoc, ← List.length_append, List.drop_left]
theorem find_no {s w : Txt} (h : ∀ i, cutL s i (i + w.length) ≠ w) : ∀ {f i : Nat}, findI s w f i = none
  | 0, _ => rfl
  | f + 1, i => by
    rw [findI]
    split
    · rw [if_neg (h i)]
      exact find_no h
    · rfl
theorem mem_get {s : Txt} {c : UInt8} {i : Nat} (h : s[i]? = some c) : c ∈ s := List.mem_of_getElem? h
theorem cut2_no {s w : Txt} {c : UInt8} {j : Nat} (hw : w[j]? = some c) (hc : c ∉ s) : cut2 s w = (s, [], false) := by
  have hj : j < w.length := by
    rcases Nat.lt_or_ge j w.length with h | h
    · exact h
    · rw [List.getElem?_eq_none h] at hw; cases hw
  unfold cut2
  rw [find_no (fun i h => hc (mem_get (i := i + j) (by rw [cut_get h hj, hw])))]
theorem cut2_fst {p w t : Txt} {c : UInt8} (hw : w[0]? = some c) (hc : c ∉ p) : cut2 (p ++ (w ++ t)) w = (p, t, true) := by
  have hj : 0 < w.length := by
    rcases Nat.lt_or_ge 0 w.length with h | h
    · exact h
    · rw [List.getElem?_eq_none h] at hw; cases hw
  refine cut2_first fun i hi h => hc (mem_get (i := i) ?_)
  have h2 := cut_get h hj
  rw [hw, Nat.add_zero, List.getElem?_append_left hi] at h2
  exact h2
theorem cut2_snd {p w t : Txt} {c1 c2 : UInt8} (hw1 : w[0]? = some c1) (hw : w[1]? = some c2) (hn : c1 ≠ c2) (hc : c2 ∉ p) : cut2 (p ++ (w ++ t)) w = (p, t, true) := by
  have hj : 1 < w.length := by
    rcases Nat.lt_or_ge 1 w.length with h | h
    · exact h
    · rw [List.getElem?_eq_none h] at hw; cases hw
  refine cut2_first fun i hi h => ?_
  have h2 := cut_get h hj
  rw [hw] at h2
  by_cases hi2 : i + 1 < p.length
  · rw [List.getElem?_append_left hi2] at h2
    exact hc (mem_get h2)
  · rw [List.getElem?_append_right (by omega), show i + 1 - p.length = 0 from by omega, List.getElem?_append_left (by omega), hw1] at h2
    exact hn (by simpa using h2)
/-! ### what the program reads -/
abbrev wds (s : Txt) : List Txt := splitB 32 s
def ftW : Txt := [102, 116, 44]
def ipN (s : Txt) : Nat := if (wds s).getD 4 [] = ftW then 2 else 1
def ipG (s : Txt) : Txt := joinTo (cutL (wds s) 3 (3 + ipN s)) [32] (cutL (wds s) 3 (3 + ipN s)).length
def ipT (s : Txt) : Txt := (ipG s).take ((ipG s).length - 1)
def ipR (s : Txt) : List Txt := (wds s).drop (3 + ipN s)
def ipL (s : Txt) : Txt := joinTo ((ipR s).drop 4) [32] ((ipR s).drop 4).length
def hrTo (w : Txt) (j : Nat) : Nat → Int
  | 0 => 0
  | i + 1 => 10 * hrTo w j i + ((w.getD (j + i) 0).toNat : Int) - 48
def ipX (s : Txt) : Stp := ⟨(wds s).getD 0 [], (chkH (ipT s) (hgI (ipT s))).1, (ipR s).getD 1 [] :: parts (ipL s), 60 * hrTo ((ipR s).getD 3 []) 0 2 + hrTo ((ipR s).getD 3 []) 3 2⟩
def ipOk (s : Txt) : Prop := 8 ≤ (wds s).length ∧ (ipG s).length ≠ 0 ∧ 5 ≤ (ipR s).length ∧ ((ipR s).getD 3 []).length = 5 ∧ (chkH (ipT s) (hgI (ipT s))).2 = true ∧ stB (ipX s) = true ∧ stT (ipX s) = s
instance (s : Txt) : Decidable (ipOk s) := by unfold ipOk; exact inferInstance
def iParse (s : Txt) : Option Stp := if ipOk s then some (ipX s) else none
/-! ### what the reference reads -/
def goW : Txt := [32, 97, 110, 100, 32, 103, 111, 101, 115, 32, 111, 110, 32, 116, 111, 32]
def trims : List Txt → List Txt
  | [] => []
  | p :: ps => p :: ps.map fun q => q.drop 1
theorem trims_len (ps : List Txt) : (trims ps).length = ps.length := by cases ps <;> simp [trims]
theorem trims_get {ps : List Txt} {i : Nat} (h : i < ps.length) : (trims ps).getD i [] = if 0 < i then (ps.getD i []).drop 1 else ps.getD i [] := by
  cases ps with
  | nil => simp at h
  | cons p ps =>
    cases i with
    | zero => rfl
    | succ i =>
      simp only [List.length_cons] at h
      rw [if_pos (by omega)]
      simp [trims, List.getD_eq_getElem?_getD, List.getElem?_map, List.getElem?_eq_getElem (show i < ps.length from by omega)]
def spR (r : Txt) : List Txt := if r = [] then [] else trims (splitB 44 (cut2 (r.take (r.length - 1)) andW).1) ++ (if (cut2 (r.take (r.length - 1)) andW).2.2 = true then [(cut2 (r.take (r.length - 1)) andW).2.1] else [])
def spA (s : Txt) : Txt × Txt × Bool := cut2 s isAt
def spB (s : Txt) : Txt × Txt × Bool := cut2 (spA s).2.1 reach
def spC (s : Txt) : Txt × Txt × Bool := cut2 (spB s).2.1 atW
def spD (s : Txt) : Txt := (spC s).2.1
def spX (s : Txt) : Stp := ⟨(spA s).1, (chkH (spB s).1 (hgS (spB s).1)).1, (spC s).1 :: spR (cut2 (spD s) goW).2.1, 60 * dig2 ((spD s).take 2) + dig2 (cutL (spD s) 3 5)⟩
def spOk (s : Txt) : Prop := s.length ≤ 150 ∧ (spA s).2.2 = true ∧ (spB s).2.2 = true ∧ (spC s).2.2 = true ∧ 6 ≤ (spD s).length ∧ stB (spX s) = true ∧ stT (spX s) = s
instance (s : Txt) : Decidable (spOk s) := by unfold spOk; exact inferInstance
def sParse (s : Txt) : Option Stp := if spOk s then some (spX s) else none
/-! ### the words of a sentence -/
theorem up_no {s : Txt} {c : UInt8} (h : s.all upB = true) (hc : upB c = false) : c ∉ s := fun hm => by
  rw [List.all_eq_true.1 h c hm] at hc
  cases hc
theorem nm_no {s : Txt} {c : UInt8} (h : nmB s = true) (hc : nm1 c = false) : c ∉ s := fun hm => by
  unfold nmB at h
  simp only [Bool.and_eq_true] at h
  rw [List.all_eq_true.1 h.2 c hm] at hc
  cases hc
theorem pt_ok {xs : List Txt} : ∀ {n i : Nat}, rtTo xs n = true → i < n → (xs.getD i []).all upB = true ∧ 2 ≤ (xs.getD i []).length ∧ (xs.getD i []).length ≤ 5
  | 0, i, _, h => by omega
  | n + 1, i, h, hi => by
    simp only [rtTo, Bool.and_eq_true] at h
    by_cases h1 : i < n
    · exact pt_ok h.1.1 h1
    · obtain rfl : i = n := by omega
      have := h.1.2
      simp only [ptB, Bool.and_eq_true, decide_eq_true_eq] at this
      exact ⟨this.2, this.1⟩
theorem ht_no {h : Int} (hb : htB h = true) : (44 : UInt8) ∉ htT h := by
  rcases ht_cases hb with ⟨k, _, _, e⟩ | ⟨e, _⟩
  · rw [e]
    simp only [List.mem_append, not_or]
    exact ⟨by decide, dec_no (by decide)⟩
  · rw [e]
    simp only [List.mem_append, not_or]
    exact ⟨num_no (by decide) (by decide), by decide⟩
theorem ht_size {h : Int} (hb : htB h = true) : (htT h).length ≤ 10 := by
  rcases ht_cases hb with ⟨k, hk, _, e⟩ | ⟨e, h0⟩
  · have := dec_len k 3 (by omega)
    rw [e]
    simp only [List.length_append, List.length_cons, List.length_nil]
    omega
  · have := dec_len h.natAbs 5 (by omega)
    have hs := num_size (n := h)
    rw [e]
    simp only [List.length_append, List.length_cons, List.length_nil]
    split at hs <;> omega
theorem two_at {n : Int} (h : 0 ≤ n ∧ n ≤ 99) : twoT n = [UInt8.ofNat (48 + n.toNat / 10), UInt8.ofNat (48 + n.toNat % 10)] := by
  have h1 := td_in (n := n) (by omega)
  have h2 := Int.mul_tdiv_add_tmod n 10
  unfold twoT
  rw [num_dec h1.1.1, num_dec h1.2.1, dec_small (by omega), dec_small (by omega), show (n.tdiv 10).toNat = n.toNat / 10 from by omega, show (n.tmod 10).toNat = n.toNat % 10 from by omega]
  rfl
def tmT (s : Stp) : Txt := twoT (s.mn.tdiv 60) ++ [58] ++ twoT (s.mn.tmod 60)
theorem tm_at {n : Int} (h : 0 ≤ n ∧ n ≤ 1439) : ∃ a b c d : UInt8, twoT (n.tdiv 60) ++ [58] ++ twoT (n.tmod 60) = [a, b, 58, c, d] ∧ (digP a = true ∧ digP b = true ∧ digP c = true ∧ digP d = true) ∧ 60 * (10 * ((a.toNat : Int) - 48) + (b.toNat : Int) - 48) + (10 * ((c.toNat : Int) - 48) + (d.toNat : Int) - 48) = n := by
  have h1 := td60_in h
  have h2 := Int.mul_tdiv_add_tmod n 60
  have e1 := two_at (n := n.tdiv 60) (by omega)
  have e2 := two_at (n := n.tmod 60) (by omega)
  have g1 := ofNat_toNat (n := 48 + (n.tdiv 60).toNat / 10) (by omega)
  have g2 := ofNat_toNat (n := 48 + (n.tdiv 60).toNat % 10) (by omega)
  have g3 := ofNat_toNat (n := 48 + (n.tmod 60).toNat / 10) (by omega)
  have g4 := ofNat_toNat (n := 48 + (n.tmod 60).toNat % 10) (by omega)
  refine ⟨_, _, _, _, by rw [e1, e2]; rfl, ⟨?_, ?_, ?_, ?_⟩, ?_⟩
  · unfold digP; rw [g1]; exact decide_eq_true (by omega)
  · unfold digP; rw [g2]; exact decide_eq_true (by omega)
  · unfold digP; rw [g3]; exact decide_eq_true (by omega)
  · unfold digP; rw [g4]; exact decide_eq_true (by omega)
  · rw [g1, g2, g3, g4]; omega
theorem dig_not {a c : UInt8} (h : digP a = true) (hc : digP c = false) : c ≠ a := by
  rintro rfl
  rw [h] at hc
  cases hc
/-- the sentence, word by word -/
theorem st_eq (s : Stp) : stT s = s.name ++ (isAt ++ (htT s.ht ++ (reach ++ (s.route.getD 0 [] ++ (atW ++ (tmT s ++ (andW ++ restT s.route))))))) := by
  simp only [stT, headT, tmT, List.append_assoc]
/-- the rest of a route's sentence, as it stands there -/
theorem rest_two {a b : Txt} : restT [a, b] = onW ++ (b ++ [46]) := by simp [restT]
theorem rest_more {a z : Txt} {ys : List Txt} (h : ys ≠ []) : restT (a :: (ys ++ [z])) = onW ++ (joinC ys ++ (andW ++ (z ++ [46]))) := by
  have hp : 0 < ys.length := List.length_pos_iff.2 h
  unfold restT
  rw [if_neg (by simp only [List.length_cons, List.length_append, List.length_nil]; omega), if_neg (by simp only [List.length_cons, List.length_append, List.length_nil]; omega)]
  have e1 : (a :: (ys ++ [z])).drop 1 = ys ++ [z] := rfl
  have e2 : (a :: (ys ++ [z])).length - 2 = ys.length := by simp
  have e3 : (a :: (ys ++ [z])).getD ((a :: (ys ++ [z])).length - 1) [] = z := by simp [List.getD_eq_getElem?_getD]
  rw [e1, e2, e3, join_pre (Nat.le_refl _), join_C]
  simp only [List.append_assoc]
theorem route_cases {xs : List Txt} (h : 1 ≤ xs.length) : (∃ a, xs = [a]) ∨ (∃ a b, xs = [a, b]) ∨ ∃ a ys z, ys ≠ [] ∧ xs = a :: (ys ++ [z]) := by
  cases xs with
  | nil => simp at h
  | cons a t =>
    rcases List.eq_nil_or_concat t with rfl | ⟨ys, z, e⟩
    · exact .inl ⟨a, rfl⟩
    · rw [List.concat_eq_append] at e
      subst e
      cases ys with
      | nil => exact .inr (.inl ⟨a, z, rfl⟩)
      | cons y ys => exact .inr (.inr ⟨a, y :: ys, z, by simp, rfl⟩)
def ptsB (xs : List Txt) : Prop := ∀ x ∈ xs, x.all upB = true ∧ 2 ≤ x.length ∧ x.length ≤ 5
theorem st_pts {s : Stp} (h : stB s = true) : ptsB s.route := fun x hx => by
  obtain ⟨i, hi, rfl⟩ := List.mem_iff_getElem.1 hx
  have := pt_ok (i := i) (st_fine h).2.2.2.2 hi
  simpa only [List.getD_eq_getElem?_getD, List.getElem?_eq_getElem hi, Option.getD_some] using this
theorem joinC_no {c : UInt8} (hc : upB c = false) (h1 : c ≠ 44) (h2 : c ≠ 32) : ∀ {ys : List Txt}, ptsB ys → c ∉ joinC ys
  | [], _ => by simp [joinC]
  | [x], h => up_no (h x (by simp)).1 hc
  | x :: y :: t, h => by
    have ih := joinC_no hc h1 h2 (ys := y :: t) fun q hq => h q (by simp only [List.mem_cons] at hq ⊢; exact .inr hq)
    have hx := up_no (h x (by simp)).1 hc
    rw [joinC]
    simp only [List.mem_append, List.mem_cons, not_or]
    exact ⟨hx, h1, h2, ih⟩
theorem joinC_split : ∀ {x : Txt} {ys : List Txt}, ptsB (x :: ys) → splitB 44 (joinC (x :: ys)) = x :: ys.map fun y => 32 :: y
  | x, [], h => by
    rw [joinC, split_none (up_no (h x (by simp)).1 (by decide))]
    rfl
  | x, y :: t, h => by
    have ih := joinC_split (x := y) (ys := t) fun q hq => h q (by simp only [List.mem_cons] at hq ⊢; exact .inr hq)
    have hx := up_no (h x (by simp)).1 (show upB 44 = false by decide)
    rw [joinC, split_app hx, splitB, if_neg (by decide), ih]
    rfl
theorem joinC_trim {ys : List Txt} (h : ptsB ys) (hn : ys ≠ []) : trims (splitB 44 (joinC ys)) = ys := by
  cases ys with
  | nil => exact absurd rfl hn
  | cons y t =>
    rw [joinC_split h, trims, List.map_map]
    congr 1
    induction t with
    | nil => rfl
    | cons z t ih => 
      simp only [List.map_cons, Function.comp]
      congr 1
      exact ih (fun q hq => h q (by simp only [List.mem_cons] at hq ⊢; rcases hq with h | h; exact .inl h; exact .inr (.inr h))) (by simp)
theorem joinC_parts {c : UInt8} {t : Txt} (hc : upB c = false) : ∀ {x : Txt} {ys : List Txt}, ptsB (x :: ys) → parts (joinC (x :: ys) ++ c :: t) = (x :: ys) ++ parts t
  | x, [], h => by
    have hx := h x (by simp)
    rw [joinC, parts_word hx.1 (by omega) hc]
    rfl
  | x, y :: u, h => by
    have hx := h x (by simp)
    have ih := joinC_parts (t := t) hc (x := y) (ys := u) fun q hq => h q (by simp only [List.mem_cons] at hq ⊢; exact .inr hq)
    rw [joinC, List.append_assoc, List.cons_append, parts_word hx.1 (by omega) (by decide), List.cons_append, parts_no (by decide), ih]
    rfl
theorem joinC_len : ∀ {ys : List Txt}, ptsB ys → (joinC ys).length ≤ 7 * ys.length
  | [], _ => by simp [joinC]
  | [x], h => by have := h x (by simp); simp [joinC]; omega
  | x :: y :: t, h => by
    have ih := joinC_len (ys := y :: t) fun q hq => h q (by simp only [List.mem_cons] at hq ⊢; exact .inr hq)
    have hx := h x (by simp)
    rw [joinC]
    simp only [List.length_append, List.length_cons] at ih ⊢
    omega
end Go.Proofs.Ytchekagoaidlpaa

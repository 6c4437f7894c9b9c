import Derived.Test.YtchekagoaidlpaaSp18
namespace Go.Proofs.Ytchekagoaidlpaa
open Go.Dv Go.Dv.EvL
attribute [local irreducible] Ok Rm Dm Om Sm Xm Cm Gm Hm Tm

/-! ### what FnStripLists asks, in plain words -/
def mhP (b a : Stp) : Prop := b.mn < a.mn ∨ (b.mn = a.mn ∧ b.ht > a.ht)
theorem bef_mh {x y : Stp} (h : befB x y = true) : ¬ mhP y x := by
  unfold befB at h
  unfold mhP
  split at h
  · rename_i h1
    have := of_decide_eq_true h
    omega
  · split at h
    · rename_i h1 h2
      have := of_decide_eq_true h
      omega
    · omega
theorem nbef_mh {x y : Stp} (h : befB x y = false) : ¬ mhP x y := by
  unfold befB at h
  unfold mhP
  split at h
  · have := of_decide_eq_false h
    omega
  · split at h
    · have := of_decide_eq_false h
      omega
    · omega
theorem pos_spec {x : Stp} {o : List Stp} : ∀ {k : Nat}, (∀ q, posTo x o k ≤ q → q < k → befB x (o.getD q default) = true) ∧ (0 < posTo x o k → befB x (o.getD (posTo x o k - 1) default) = false)
  | 0 => ⟨fun q _ h => by omega, fun h => by simp [posTo] at h⟩
  | k + 1 => by
    obtain ⟨h1, h2⟩ := pos_spec (x := x) (o := o) (k := k)
    unfold posTo
    split
    · rename_i hb
      refine ⟨fun q hq hk => ?_, h2⟩
      by_cases e : q = k
      · subst e; exact hb
      · exact h1 q hq (by omega)
    · rename_i hb
      exact ⟨fun q hq hk => by omega, fun _ => by simpa using hb⟩
theorem ins_get {x : Stp} {o : List Stp} {p j : Nat} (hp : p ≤ o.length) : (o.take p ++ x :: o.drop p).getD j default = if j < p then o.getD j default else if j = p then x else o.getD (j - 1) default := by
  simp only [List.getD_eq_getElem?_getD]
  by_cases h1 : j < p
  · rw [if_pos h1, List.getElem?_append_left (by simp; omega), List.getElem?_take, if_pos h1]
  · rw [if_neg h1, List.getElem?_append_right (by simp; omega), List.length_take, Nat.min_eq_left hp]
    by_cases h2 : j = p
    · subst h2
      rw [if_pos rfl, Nat.sub_self]
      rfl
    · obtain ⟨d, hd⟩ : ∃ d, j - p = d + 1 := ⟨j - p - 1, by omega⟩
      rw [if_neg h2, hd, List.getElem?_cons_succ, List.getElem?_drop]
      congr 2
      omega
theorem ord_sorted {xs : List Stp} : ∀ {n j : Nat}, j + 1 < n → ¬ mhP ((ordTo xs n).getD (j + 1) default) ((ordTo xs n).getD j default)
  | 0, j, h => by omega
  | n + 1, j, h => by
    have ih := fun j h => ord_sorted (xs := xs) (n := n) (j := j) h
    have hlen := ord_len (xs := xs) (i := n)
    obtain ⟨h1, h2⟩ := pos_spec (x := xs.getD n default) (o := ordTo xs n) (k := (ordTo xs n).length)
    have hp := pos_le (x := xs.getD n default) (o := ordTo xs n) (k := (ordTo xs n).length)
    rw [ordTo]
    unfold insS
    generalize posTo (xs.getD n default) (ordTo xs n) (ordTo xs n).length = p at *
    generalize ordTo xs n = o at *
    rw [ins_get hp, ins_get hp]
    by_cases a : j + 1 < p
    · rw [if_pos a, if_pos (by omega)]
      exact ih j (by omega)
    · by_cases b : j + 1 = p
      · rw [if_neg a, if_pos b, if_pos (by omega)]
        have := h2 (by omega)
        rw [show p - 1 = j from by omega] at this
        exact nbef_mh this
      · by_cases c : j = p
        · rw [if_neg a, if_neg b, if_neg (by omega), if_pos c]
          subst c
          exact bef_mh (h1 j (Nat.le_refl _) (by omega))
        · rw [if_neg a, if_neg b, if_neg (by omega), if_neg c, show j + 1 - 1 = j - 1 + 1 from by omega]
          exact ih (j - 1) (by omega)
theorem ord_mem {xs : List Stp} : ∀ {n : Nat} {x : Stp}, x ∈ ordTo xs n → n ≤ xs.length → ∃ k, k < n ∧ xs.getD k default = x
  | 0, x, h, _ => by simp [ordTo] at h
  | n + 1, x, h, hn => by
    rw [ordTo] at h
    unfold insS at h
    simp only [List.mem_append, List.mem_cons] at h
    have : x = xs.getD n default ∨ x ∈ ordTo xs n := by
      rcases h with h | h | h
      · exact .inr (List.mem_of_mem_take h)
      · exact .inl h
      · exact .inr (List.mem_of_mem_drop h)
    rcases this with rfl | h
    · exact ⟨n, by omega, rfl⟩
    · obtain ⟨k, h1, h2⟩ := ord_mem h (by omega)
      exact ⟨k, by omega, h2⟩
theorem nm_dis {xs : List Stp} {i : Nat} : ∀ {k q : Nat}, nmTo xs i k = true → q < k → (xs.getD q default).name ≠ (xs.getD i default).name
  | 0, q, _, h => by omega
  | k + 1, q, h, hq => by
    simp only [nmTo, Bool.and_eq_true, Bool.not_eq_true', decide_eq_false_iff_not] at h
    by_cases e : q = k
    · subst e; exact h.2
    · exact nm_dis h.1 (by omega)
theorem ls_nm {xs : List Stp} {i : Nat} : ∀ {n : Nat}, lsTo xs n = true → i < n → nmTo xs i i = true
  | 0, _, h => by omega
  | n + 1, h, hi => by
    simp only [lsTo, Bool.and_eq_true] at h
    by_cases h1 : i < n
    · exact ls_nm h.1.1 h1
    · obtain rfl : i = n := by omega
      exact h.2
theorem ls_inj {xs : List Stp} (h : lsB xs = true) {i k : Nat} (hi : i < xs.length) (hk : k < xs.length) (he : (xs.getD i default).name = (xs.getD k default).name) : i = k := by
  simp only [lsB, Bool.and_eq_true] at h
  rcases Nat.lt_trichotomy i k with h1 | h1 | h1
  · exact absurd he (nm_dis (ls_nm h.1 hk) h1)
  · exact h1
  · exact absurd he.symm (nm_dis (ls_nm h.1 hi) h1)
/-- the strip with the i-th name is the i-th in order -/
theorem ord_at {xs : List Stp} (h : lsB xs = true) {i k : Nat} (hi : i < xs.length) (hk : k < xs.length) (he : (xs.getD k default).name = ((ordTo xs xs.length).getD i default).name) : xs.getD k default = (ordTo xs xs.length).getD i default := by
  obtain ⟨q, h1, h2⟩ := ord_mem (xs := xs) (n := xs.length) (x := (ordTo xs xs.length).getD i default) (getD_mem (by rw [ord_len]; exact hi)) (Nat.le_refl _)
  rw [← h2] at he
  rw [ls_inj h hk h1 he, h2]
theorem ord_has {xs : List Stp} {i : Nat} (hi : i < xs.length) : ∃ k, k < xs.length ∧ (xs.getD k default).name = ((ordTo xs xs.length).getD i default).name := by
  obtain ⟨q, h1, h2⟩ := ord_mem (xs := xs) (n := xs.length) (x := (ordTo xs xs.length).getD i default) (getD_mem (by rw [ord_len]; exact hi)) (Nat.le_refl _)
  exact ⟨q, h1, by rw [h2]⟩
/-! common points -/
theorem cm_mem {xs ys : List Txt} {p : Txt} : ∀ {n : Nat}, n ≤ xs.length → (p ∈ cmTo xs ys n ↔ p ∈ xs.take n ∧ p ∈ ys)
  | 0, _ => by simp [cmTo]
  | n + 1, h => by
    have ih := cm_mem (xs := xs) (ys := ys) (p := p) (n := n) (by omega)
    have e : xs.take (n + 1) = xs.take n ++ [xs.getD n []] := by
      rw [List.take_add_one, List.getD_eq_getElem?_getD, List.getElem?_eq_getElem (show n < xs.length by omega)]
      rfl
    rw [e]
    unfold cmTo
    split
    · rename_i hc
      simp only [List.mem_append, List.mem_singleton, ih]
      constructor
      · rintro (⟨h1, h2⟩ | rfl)
        · exact ⟨.inl h1, h2⟩
        · exact ⟨.inr rfl, hc.1⟩
      · rintro ⟨h1 | rfl, h2⟩
        · exact .inl ⟨h1, h2⟩
        · exact .inr rfl
    · rename_i hc
      rw [ih]
      simp only [List.mem_append, List.mem_singleton]
      constructor
      · rintro ⟨h1, h2⟩
        exact ⟨.inl h1, h2⟩
      · rintro ⟨h1 | rfl, h2⟩
        · exact ⟨h1, h2⟩
        · have : xs.getD n [] ∈ cmTo xs ys n := Classical.byContradiction fun h => hc ⟨h2, h⟩
          have := (cm_mem (xs := xs) (ys := ys) (p := xs.getD n []) (n := n) (by omega)).1 this
          exact this
theorem cm_nodup {xs ys : List Txt} : ∀ {n : Nat}, (cmTo xs ys n).Nodup
  | 0 => List.nodup_nil
  | n + 1 => by
    have ih := cm_nodup (xs := xs) (ys := ys) (n := n)
    unfold cmTo
    split
    · rename_i hc
      rw [List.nodup_append]
      exact ⟨ih, by simp, fun a ha b hb => by
        simp only [List.mem_singleton] at hb
        subst hb
        rintro rfl
        exact hc.2 ha⟩
    · exact ih
theorem sub_len {α : Type} [DecidableEq α] : ∀ {l1 l2 : List α}, l1.Nodup → (∀ a ∈ l1, a ∈ l2) → l1.length ≤ l2.length
  | [], _, _, _ => Nat.zero_le _
  | a :: l1, l2, h, hs => by
    obtain ⟨h1, h2⟩ := List.nodup_cons.1 h
    have ha : a ∈ l2 := hs a (by simp)
    have := sub_len (l2 := l2.erase a) h2 fun b hb => by
      have hne : b ≠ a := by rintro rfl; exact h1 hb
      exact (List.mem_erase_of_ne hne).2 (hs b (by simp [hb]))
    rw [List.length_erase_of_mem ha] at this
    have hp := List.length_pos_of_mem ha
    simp only [List.length_cons]
    omega
theorem cm_sym {a b : Stp} : (cmO a b).2 = (cmO b a).2 ∧ (cmO a b).1.length = (cmO b a).1.length := by
  have key : ∀ {xs ys : List Txt}, (cmTo xs ys xs.length).length ≤ (cmTo ys xs ys.length).length := fun {xs ys} => sub_len cm_nodup fun p hp => by
    obtain ⟨h1, h2⟩ := (cm_mem (Nat.le_refl _)).1 hp
    exact (cm_mem (Nat.le_refl _)).2 ⟨by rw [List.take_length]; exact h2, List.mem_of_mem_take h1⟩
  unfold cmO
  by_cases h : stB a = true ∧ stB b = true
  · rw [if_pos h, if_pos ⟨h.2, h.1⟩]
    exact ⟨rfl, Nat.le_antisymm key key⟩
  · rw [if_neg h, if_neg fun h2 => h ⟨h2.2, h2.1⟩]
    exact ⟨rfl, rfl⟩
theorem cm_in {a b : Stp} {p : Txt} (hp : p ∈ (cmO a b).1) : p ∈ a.route ∧ p ∈ b.route ∧ p ∈ (cmO b a).1 := by
  unfold cmO at hp ⊢
  by_cases h : stB a = true ∧ stB b = true
  · rw [if_pos h] at hp
    rw [if_pos ⟨h.2, h.1⟩]
    obtain ⟨h1, h2⟩ := (cm_mem (Nat.le_refl _)).1 hp
    have h1 := List.mem_of_mem_take h1
    exact ⟨h1, h2, (cm_mem (Nat.le_refl _)).2 ⟨by rw [List.take_length]; exact h2, h1⟩⟩
  · rw [if_neg h] at hp
    simp at hp
end Go.Proofs.Ytchekagoaidlpaa

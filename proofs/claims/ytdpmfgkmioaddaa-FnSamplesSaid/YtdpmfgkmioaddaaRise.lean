import Derived.Test.YtdpmfgkmioaddaaSums
namespace Go.Proofs.Ytdpmfgkmioaddaa
open Go.Dv Go.Dv.EvL
attribute [local irreducible] Ok Rm Dm Om Sm Xm Cm Gm Hm Tm

/-- a part that rises -/
def Asc (xs : List Int) (i m : Nat) : Prop := i + m ≤ xs.length ∧ ∀ j, i < j → j < i + m → xs.getD (j - 1) 0 < xs.getD j 0
def Best (xs : List Int) (b m : Nat) : Prop := 1 ≤ m ∧ Asc xs b m ∧ (∀ i, ¬ Asc xs i (m + 1)) ∧ ∀ i, i < b → ¬ Asc xs i m

theorem asc_mono {xs : List Int} {i a b : Nat} (h : Asc xs i a) (hb : b ≤ a) : Asc xs i b := ⟨by have := h.1; omega, fun j h1 h2 => h.2 j h1 (by omega)⟩
theorem asc_one {xs : List Int} {i : Nat} (h : i < xs.length) : Asc xs i 1 := ⟨by omega, fun j h1 h2 => by omega⟩
theorem asc_step {xs : List Int} {i n : Nat} (h : Asc xs i n) (_ : 1 ≤ n) (hl : i + n < xs.length) (hx : xs.getD (i + n - 1) 0 < xs.getD (i + n) 0) : Asc xs i (n + 1) :=
  ⟨by omega, fun j h1 h2 => by
    by_cases e : j = i + n
    · subst e; exact hx
    · exact h.2 j h1 (by omega)⟩
theorem best_one {xs : List Int} {b m b' m' : Nat} (h : Best xs b m) (h' : Best xs b' m') : b = b' ∧ m = m' := by
  obtain ⟨h1, h2, h3, h4⟩ := h
  obtain ⟨k1, k2, k3, k4⟩ := h'
  have hm : m = m' := by
    rcases Nat.lt_trichotomy m m' with h | h | h
    · exact (h3 b' (asc_mono k2 (by omega))).elim
    · exact h
    · exact (k3 b (asc_mono h2 (by omega))).elim
  subst hm
  refine ⟨?_, rfl⟩
  rcases Nat.lt_trichotomy b b' with h | h | h
  · exact (k4 b h h2).elim
  · exact h
  · exact (h4 b' h k2).elim

open Classical in
noncomputable def riseO (xs : List Int) : Int × Int × Bool := if someB xs then (if h : ∃ o : Nat × Nat, Best xs o.1 o.2 then ((h.choose.1 : Int), (h.choose.2 : Int), true) else noneO) else noneO
theorem rise_of {xs : List Int} {b m : Nat} (hs : someB xs = true) (h : Best xs b m) : riseO xs = ((b : Int), (m : Int), true) := by
  have hx : ∃ o : Nat × Nat, Best xs o.1 o.2 := ⟨(b, m), h⟩
  have := best_one hx.choose_spec h
  unfold riseO
  rw [if_pos hs, dif_pos hx, this.1, this.2]

theorem getD_at {xs : List Int} {i : Nat} (h : i < xs.length) : xs[i]? = some (xs.getD i 0) := by
  rw [List.getD_eq_getElem?_getD, List.getElem?_eq_getElem h]
  rfl

set_option maxRecDepth 100000 in
set_option maxHeartbeats 16000000 in
/-- spec.LongestRise -/
theorem k_sRise (xs : List Int) (hb : xs.length ≤ 1048576) : Okv Try.prog 19 [slI .i64 xs] (tri (riseO xs)) := by
  refine ok_D hmix c_spec_LongestRise (by simp) ?_
  simp only [envOf, envFrom, go_sem, reduceIte, Nat.reduceEqDiff]
  refine Rm_v (k_l26Some xs hb) rfl trivial ?_
  cases h : someB xs
  · simp only [go_sem, reduceIte, Nat.reduceEqDiff]
    exact ret_gen (tri noneO) (tri noneO) [] rfl rfl rfl ⟨by simp [riseO, h, tri, normC], rfl⟩
  · obtain ⟨hg, hp⟩ := some_of h
    have h3 := hg.2
    simp only [go_sem, reduceIte, Nat.reduceEqDiff]
    refine Dm_loop [0, 5, 6, 7] (fun v ds H' => ∃ k b m : Nat, k ≤ xs.length ∧ v = xs.length - k ∧ ((m = 0 ∧ b = 0 ∧ k = 0) ∨ (1 ≤ m ∧ b < k ∧ Asc xs b m)) ∧ (∀ i, i < k → ¬ Asc xs i (m + 1)) ∧ (∀ i, i < b → ¬ Asc xs i m) ∧
      ds = [.p (slI .i64 xs), .p (.int .i64 b), .p (.int .i64 m), .p (.int .i64 k)] ∧ H' = []) xs.length ⟨0, 0, 0, by simp, by simp, .inl ⟨rfl, rfl, rfl⟩, by simp, by simp, rfl, rfl⟩ ?_
    rintro v ds H' ⟨k, b, m, hk, rfl, hm, hu, hf, rfl, rfl⟩ -
    simp only [go_sem, reduceIte, Nat.reduceEqDiff]
    refine Cm_split ?_ ?_ <;> intro h4 <;> simp only [decide_eq_true_eq, decide_eq_false_iff_not] at h4
    · have hlt : k < xs.length := by omega
      simp only [go_sem]
      refine Dm_loop [0, 5, 6, 7, 8] (fun v ds H' => ∃ n : Nat, v = xs.length - n ∧ 1 ≤ n ∧ Asc xs k n ∧
        ds = [.p (slI .i64 xs), .p (.int .i64 b), .p (.int .i64 m), .p (.int .i64 k), .p (.int .i64 n)] ∧ H' = []) (xs.length - 1) ⟨1, rfl, by omega, asc_one hlt, rfl, rfl⟩ ?_
      rintro v ds H' ⟨n, rfl, hn, ha, rfl, rfl⟩ -
      have hal := ha.1
      simp only [go_sem, reduceIte, Nat.reduceEqDiff, Nat.reduceBEq]
      try simp (disch := omega) only [w64]
      have up : ¬ Asc xs k (n + 1) → m < n → (∀ i, i < k + 1 → ¬ Asc xs i (n + 1)) ∧ ∀ i, i < k → ¬ Asc xs i n := fun hx hmn =>
        ⟨fun i hi hA => if e : i = k then hx (e ▸ hA) else hu i (by omega) (asc_mono hA (by omega)), fun i hi hA => hu i hi (asc_mono hA (by omega))⟩
      have same : ¬ Asc xs k (n + 1) → ¬ m < n → (∀ i, i < k + 1 → ¬ Asc xs i (m + 1)) := fun hx hmn i hi hA => if e : i = k then hx (asc_mono (e ▸ hA) (by omega)) else hu i (by omega) hA
      refine Sm_split ?_ ?_ <;> intro h5 <;> simp only [decide_eq_true_eq, decide_eq_false_iff_not] at h5
      · have h6 : k + n < xs.length := by omega
        simp only [go_sem, reduceIte, Nat.reduceEqDiff, Nat.reduceBEq]
        try simp (disch := omega) only [w64]
        refine Rm_need (by first | omega | (simp; omega)) ?_
        simp only [go_sem, reduceIte, Nat.reduceEqDiff, Nat.reduceBEq]
        refine Rm_ints (xs.getD (k + n) 0) (by rw [show ((k : Int) + n).toNat = k + n from by omega]; exact getD_at h6) ?_
        simp only [go_sem, reduceIte, Nat.reduceEqDiff, Nat.reduceBEq]
        try simp (disch := omega) only [w64]
        refine Rm_need (by first | omega | (simp; omega)) ?_
        simp only [go_sem, reduceIte, Nat.reduceEqDiff, Nat.reduceBEq]
        refine Rm_ints (xs.getD (k + n - 1) 0) (by rw [show ((k : Int) + n - 1).toNat = k + n - 1 from by omega]; exact getD_at (by omega)) ?_
        simp only [go_sem, reduceIte, Nat.reduceEqDiff, Nat.reduceBEq]
        refine Cm_split ?_ ?_ <;> intro h7 <;> simp only [decide_eq_true_eq, decide_eq_false_iff_not] at h7
        · simp only [go_sem, reduceIte, Nat.reduceEqDiff]
          try simp (disch := omega) only [w64]
          exact Xm_inv_n (xs.length - (n + 1)) (by omega) ⟨n + 1, rfl, by omega, asc_step ha hn h6 h7, rfl, rfl⟩
        · have hx : ¬ Asc xs k (n + 1) := fun hA => h7 (hA.2 (k + n) (by omega) (by omega))
          simp only [go_sem, reduceIte, Nat.reduceEqDiff]
          refine Cm_split ?_ ?_ <;> intro h8 <;> simp only [decide_eq_true_eq, decide_eq_false_iff_not] at h8
          · obtain ⟨u1, u2⟩ := up hx (by omega)
            simp only [go_sem, reduceIte, Nat.reduceEqDiff]
            try simp (disch := omega) only [w64]
            exact Xm_inv_n (xs.length - (k + 1)) (by omega) ⟨k + 1, k, n, by omega, rfl, .inr ⟨hn, by omega, ha⟩, u1, u2, rfl, rfl⟩
          · have u1 := same hx (by omega)
            simp only [go_sem, reduceIte, Nat.reduceEqDiff]
            try simp (disch := omega) only [w64]
            exact Xm_inv_n (xs.length - (k + 1)) (by omega) ⟨k + 1, b, m, by omega, rfl, .inr (by rcases hm with ⟨q, _, _⟩ | ⟨q1, q2, q3⟩; (· omega); (· exact ⟨q1, by omega, q3⟩)), u1, hf, rfl, rfl⟩
      · have hx : ¬ Asc xs k (n + 1) := fun hA => by have := hA.1; omega
        simp only [go_sem, reduceIte, Nat.reduceEqDiff]
        refine Cm_split ?_ ?_ <;> intro h8 <;> simp only [decide_eq_true_eq, decide_eq_false_iff_not] at h8
        · obtain ⟨u1, u2⟩ := up hx (by omega)
          simp only [go_sem, reduceIte, Nat.reduceEqDiff]
          try simp (disch := omega) only [w64]
          exact Xm_inv_n (xs.length - (k + 1)) (by omega) ⟨k + 1, k, n, by omega, rfl, .inr ⟨hn, by omega, ha⟩, u1, u2, rfl, rfl⟩
        · have u1 := same hx (by omega)
          simp only [go_sem, reduceIte, Nat.reduceEqDiff]
          try simp (disch := omega) only [w64]
          exact Xm_inv_n (xs.length - (k + 1)) (by omega) ⟨k + 1, b, m, by omega, rfl, .inr (by rcases hm with ⟨q, _, _⟩ | ⟨q1, q2, q3⟩; (· omega); (· exact ⟨q1, by omega, q3⟩)), u1, hf, rfl, rfl⟩
    · obtain rfl : k = xs.length := by omega
      rcases hm with ⟨_, _, h0⟩ | ⟨h1, h2, h6⟩
      · omega
      · have hB : Best xs b m := ⟨h1, h6, fun i hi => hu i (by have := hi.1; omega) hi, hf⟩
        simp only [go_sem, reduceIte, Nat.reduceEqDiff]
        exact ret_gen (tri (riseO xs)) (tri (riseO xs)) [] (by simp [rise_of h hB, tri, resD, resAll, resOne, Go.Dv.get]) rfl rfl ⟨rfl, rfl⟩

set_option maxRecDepth 100000 in
set_option maxHeartbeats 16000000 in
/-- impl.LongestRise -/
theorem k_iRise (xs : List Int) (hb : xs.length ≤ 1048576) : Okv Try.prog 20 [slI .i64 xs] (tri (riseO xs)) := by
  refine ok_D hmix c_impl_LongestRise (by simp) ?_
  simp only [envOf, envFrom, go_sem, reduceIte, Nat.reduceEqDiff]
  refine Rm_v (k_areSamples xs hb) rfl trivial ?_
  cases h : someB xs
  · simp only [go_sem, reduceIte, Nat.reduceEqDiff]
    exact ret_gen (tri noneO) (tri noneO) [] rfl rfl rfl ⟨by simp [riseO, h, tri, normC], rfl⟩
  · obtain ⟨hg, hp⟩ := some_of h
    have h3 := hg.2
    simp only [go_sem, reduceIte, Nat.reduceEqDiff]
    refine Dm_loop [0, 5, 6, 7, 13, 14, 15] (fun v ds H' => ∃ k b m f : Nat, k ≤ xs.length ∧ v = xs.length - k ∧ f ≤ k ∧ ((m = 0 ∧ b = 0 ∧ k = 0) ∨ (1 ≤ m ∧ b + m ≤ k ∧ f < k ∧ k ≤ f + m)) ∧ Asc xs b m ∧ Asc xs f (k - f) ∧ (f = 0 ∨ ¬ xs.getD (f - 1) 0 < xs.getD f 0) ∧
      (∀ i, i + (m + 1) ≤ k → ¬ Asc xs i (m + 1)) ∧ (∀ i, i < b → ¬ Asc xs i m) ∧
      ds = [.p (slI .i64 xs), .p (.int .i64 b), .p (.int .i64 m), .p (.int .i64 f), .p (slI .i64 xs), .p (.int .i64 xs.length), .p (.int .i64 k)] ∧ H' = []) xs.length
      ⟨0, 0, 0, 0, by simp, by simp, by simp, .inl ⟨rfl, rfl, rfl⟩, ⟨by omega, fun j _ _ => by omega⟩, ⟨by omega, fun j _ _ => by omega⟩, .inl rfl, by simp, by simp, rfl, rfl⟩ ?_
    rintro v ds H' ⟨k, b, m, f, hk, rfl, hf, hm, hA, hF, hs, hu, hl, rfl, rfl⟩ -
    simp only [go_sem, reduceIte, Nat.reduceEqDiff]
    refine Cm_split ?_ ?_ <;> intro h4 <;> simp only [decide_eq_true_eq, decide_eq_false_iff_not] at h4
    · have hlt : k < xs.length := by omega
      -- the step, with the new start
      have step : ∀ f' : Nat, f' ≤ k → Asc xs f' (k + 1 - f') → (f' = 0 ∨ ¬ xs.getD (f' - 1) 0 < xs.getD f' 0) →
          (m < k + 1 - f' → (∀ i, i + (k + 1 - f' + 1) ≤ k + 1 → ¬ Asc xs i (k + 1 - f' + 1)) ∧ ∀ i, i < f' → ¬ Asc xs i (k + 1 - f')) ∧ (¬ m < k + 1 - f' → ∀ i, i + (m + 1) ≤ k + 1 → ¬ Asc xs i (m + 1)) := fun f' h1 h2 h5 => by
        refine ⟨fun hlt => ⟨fun i hi hB => ?_, fun i hi hB => ?_⟩, fun hge i hi hB => ?_⟩
        · by_cases e : i + (k + 1 - f' + 1) ≤ k
          · exact hu i (by omega) (asc_mono hB (by omega))
          · rcases h5 with h5 | h5
            · omega
            · exact h5 (hB.2 f' (by omega) (by omega))
        · exact hu i (by omega) (asc_mono hB (by omega))
        · by_cases e : i + (m + 1) ≤ k
          · exact hu i e hB
          · rcases h5 with h5 | h5
            · omega
            · exact h5 (hB.2 f' (by omega) (by omega))
      simp only [go_sem, reduceIte, Nat.reduceEqDiff]
      refine Rm_need (by first | omega | (simp; omega)) ?_
      simp only [go_sem, reduceIte, Nat.reduceEqDiff]
      refine Rm_ints (xs.getD k 0) (getD_at hlt) ?_
      simp only [go_sem, reduceIte, Nat.reduceEqDiff, Nat.reduceBEq]
      refine Sm_split ?_ ?_ <;> intro h5 <;> simp only [decide_eq_true_eq, decide_eq_false_iff_not] at h5
      · have hk0 : 0 < k := by omega
        simp only [go_sem, reduceIte, Nat.reduceEqDiff, Nat.reduceBEq]
        try simp (disch := omega) only [w64]
        refine Rm_need (by first | omega | (simp; omega)) ?_
        simp only [go_sem, reduceIte, Nat.reduceEqDiff, Nat.reduceBEq]
        refine Rm_ints (xs.getD (k - 1) 0) (by rw [show ((k : Int) - 1).toNat = k - 1 from by omega]; exact getD_at (by omega)) ?_
        simp only [go_sem, reduceIte, Nat.reduceEqDiff, Nat.reduceBEq]
        refine Cm_split ?_ ?_ <;> intro h6 <;> simp only [decide_eq_true_eq, decide_eq_false_iff_not] at h6
        · obtain ⟨s1, s2⟩ := step k (Nat.le_refl _) (by rw [show k + 1 - k = 1 from by omega]; exact asc_one hlt) (.inr (by omega))
          simp only [go_sem, reduceIte, Nat.reduceEqDiff]
          try simp (disch := omega) only [w64]
          refine Cm_split ?_ ?_ <;> intro h8 <;> simp only [decide_eq_true_eq, decide_eq_false_iff_not] at h8
          · obtain ⟨u1, u2⟩ := s1 (by omega)
            simp only [go_sem, reduceIte, Nat.reduceEqDiff]
            try simp (disch := omega) only [w64]
            rw [show (k : Int) - k + 1 = ((k + 1 - k : Nat) : Int) from by omega]
            exact Xm_inv_n (xs.length - (k + 1)) (by omega) ⟨k + 1, k, k + 1 - k, k, by omega, rfl, by omega, .inr ⟨by omega, by omega, by omega, by omega⟩, by rw [show k + 1 - k = 1 from by omega]; exact asc_one hlt, by rw [show k + 1 - k = 1 from by omega]; exact asc_one hlt, .inr (by omega), u1, u2, rfl, rfl⟩
          · have u1 := s2 (by omega)
            simp only [go_sem, reduceIte, Nat.reduceEqDiff]
            try simp (disch := omega) only [w64]
            exact Xm_inv_n (xs.length - (k + 1)) (by omega) ⟨k + 1, b, m, k, by omega, rfl, by omega, .inr (by omega), hA, by rw [show k + 1 - k = 1 from by omega]; exact asc_one hlt, .inr (by omega), u1, hl, rfl, rfl⟩
        · have hF' : Asc xs f (k + 1 - f) := by
            rcases Nat.lt_or_ge f k with e | e
            · have := asc_step (n := k - f) hF (by omega) (by omega) (by rw [show f + (k - f) = k from by omega]; omega)
              rwa [show k - f + 1 = k + 1 - f from by omega] at this
            · obtain rfl : f = k := by omega
              rw [show f + 1 - f = 1 from by omega]
              exact asc_one hlt
          obtain ⟨s1, s2⟩ := step f (by omega) hF' hs
          simp only [go_sem, reduceIte, Nat.reduceEqDiff]
          try simp (disch := omega) only [w64]
          refine Cm_split ?_ ?_ <;> intro h8 <;> simp only [decide_eq_true_eq, decide_eq_false_iff_not] at h8
          · obtain ⟨u1, u2⟩ := s1 (by omega)
            simp only [go_sem, reduceIte, Nat.reduceEqDiff]
            try simp (disch := omega) only [w64]
            rw [show (k : Int) - f + 1 = ((k + 1 - f : Nat) : Int) from by omega]
            exact Xm_inv_n (xs.length - (k + 1)) (by omega) ⟨k + 1, f, k + 1 - f, f, by omega, rfl, by omega, .inr ⟨by omega, by omega, by omega, by omega⟩, hF', hF', hs, u1, u2, rfl, rfl⟩
          · have u1 := s2 (by omega)
            simp only [go_sem, reduceIte, Nat.reduceEqDiff]
            try simp (disch := omega) only [w64]
            exact Xm_inv_n (xs.length - (k + 1)) (by omega) ⟨k + 1, b, m, f, by omega, rfl, by omega, .inr (by omega), hA, hF', hs, u1, hl, rfl, rfl⟩
      · obtain rfl : k = 0 := by omega
        obtain rfl : f = 0 := by omega
        obtain ⟨rfl, rfl⟩ : m = 0 ∧ b = 0 := by omega
        have hF' : Asc xs 0 (0 + 1 - 0) := asc_one hlt
        obtain ⟨s1, s2⟩ := step 0 (by omega) hF' hs
        obtain ⟨u1, u2⟩ := s1 (by omega)
        simp only [go_sem, reduceIte, Nat.reduceEqDiff]
        try simp (disch := omega) only [w64]
        refine Cm_split ?_ ?_ <;> intro h8 <;> simp only [decide_eq_true_eq, decide_eq_false_iff_not] at h8
        · simp only [go_sem, reduceIte, Nat.reduceEqDiff]
          try simp (disch := omega) only [w64]
          exact Xm_inv_n (xs.length - 1) (by omega) ⟨1, 0, 1, 0, by omega, rfl, by omega, .inr ⟨by omega, by omega, by omega, by omega⟩, hF', hF', .inl rfl, u1, u2, rfl, rfl⟩
        · omega
    · obtain rfl : k = xs.length := by omega
      rcases hm with ⟨_, _, h0⟩ | ⟨h1, h2, h6, h7⟩
      · omega
      · have hB : Best xs b m := ⟨h1, hA, fun i hi => hu i hi.1 hi, hl⟩
        simp only [go_sem, reduceIte, Nat.reduceEqDiff]
        exact ret_gen (tri (riseO xs)) (tri (riseO xs)) [] (by simp [rise_of h hB, tri, resD, resAll, resOne, Go.Dv.get]) rfl rfl ⟨rfl, rfl⟩

set_option maxRecDepth 100000 in
set_option maxHeartbeats 16000000 in
/-- laws.FnExactLongestRise -/
theorem k_FnExactLongestRise (xs : List Int) (_ : W64s xs) : Okv Try.prog 4 [slI .i64 xs] (.p (.bool true)) := by
  refine ok_D hmix c_laws_FnExactLongestRise (by simp) ?_
  simp only [envOf, envFrom, go_sem, reduceIte, Nat.reduceEqDiff]
  refine Cm_split ?_ ?_ <;> intro h <;> simp only [decide_eq_true_eq, decide_eq_false_iff_not] at h
  · simp only [go_sem]
    exact ret_p rfl ⟨rfl, rfl⟩
  · have hb : xs.length ≤ 1048576 := by omega
    simp only [go_sem, reduceIte, Nat.reduceEqDiff]
    refine Rm_o (k_toIntS xs hb) rfl ?_
    rintro r H2 ⟨rfl, rfl⟩
    simp only [go_sem, reduceIte, Nat.reduceEqDiff]
    refine Rm_v (k_sRise xs hb) (by simp [viewOfs, viewOf, List.take_of_length_le]) tri_det ?_
    simp only [go_sem, reduceIte, Nat.reduceEqDiff]
    refine Rm_o (k_toIntS xs hb) rfl ?_
    rintro r H2 ⟨rfl, rfl⟩
    simp only [go_sem, reduceIte, Nat.reduceEqDiff]
    refine Rm_v (k_iRise xs hb) (by simp [viewOfs, viewOf, List.take_of_length_le]) tri_det ?_
    simp only [go_sem, reduceIte, Nat.reduceEqDiff, Nat.reduceBEq]
    refine Rm_o (k_toIntS xs hb) rfl ?_
    rintro r H2 ⟨rfl, rfl⟩
    simp only [go_sem, reduceIte, Nat.reduceEqDiff, Nat.reduceAdd]
    refine Rm_v (k_eqIntS xs xs hb) (by simp [viewOfs, viewOf, List.take_of_length_le]) trivial ?_
    simp only [go_sem, reduceIte, Nat.reduceEqDiff]
    exact ret_p rfl ⟨rfl, rfl⟩
end Go.Proofs.Ytdpmfgkmioaddaa

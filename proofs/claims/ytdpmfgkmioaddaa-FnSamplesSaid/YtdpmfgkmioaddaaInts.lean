import Derived.Test.YtdpmfgkmioaddaaBase
namespace Go.Proofs.Ytdpmfgkmioaddaa
open Go.Dv Go.Dv.EvL
attribute [local irreducible] Ok Rm Dm Om Sm Xm Cm Gm Hm Tm

set_option maxRecDepth 100000 in
set_option maxHeartbeats 16000000 in
/-- spec.l26Good -/
theorem k_l26Good (xs : List Int) (hb : xs.length ≤ 1048576) : Okv Try.prog 48 [slI .i64 xs] (.p (.bool (decide (∀ x ∈ xs, -100000 ≤ x ∧ x ≤ 100000) && decide (xs.length ≤ 30)))) := by
  refine ok_D hmix c_spec_l26Good (by simp) ?_
  simp only [envOf, envFrom, go_sem]
  refine Dm_loop [0, 3] (fun m ds H' => ∃ i : Nat, i ≤ xs.length ∧ m = xs.length - i ∧ (∀ x ∈ xs.take i, -100000 ≤ x ∧ x ≤ 100000) ∧ ds = [.p (slI .i64 xs), .p (.int .i64 i)] ∧ H' = []) xs.length ⟨0, by simp, by simp, by simp, rfl, rfl⟩ ?_
  rintro m ds H' ⟨i, hi, rfl, hall, rfl, rfl⟩ -
  simp only [go_sem, reduceIte, Nat.reduceEqDiff]
  refine Cm_split ?_ ?_ <;> intro h <;> simp only [decide_eq_true_eq, decide_eq_false_iff_not] at h
  · have hlt : i < xs.length := by omega
    obtain ⟨a, ha, hm⟩ := row_at hlt
    simp only [go_sem, reduceIte, Nat.reduceEqDiff]
    refine Rm_need (by first | omega | (simp; omega)) ?_
    simp only [go_sem, reduceIte, Nat.reduceEqDiff]
    refine Rm_ints a (by simpa using ha) ?_
    simp only [go_sem, reduceIte, Nat.reduceEqDiff]
    refine Rm_v (k_l1In a _ _) rfl trivial ?_
    simp only [go_sem, reduceIte, Nat.reduceEqDiff]
    refine Cm_split ?_ ?_ <;> intro h2 <;> simp only [decide_eq_true_eq, decide_eq_false_iff_not, Bool.not_eq_true', Bool.not_eq_false'] at h2
    · simp only [go_sem]
      refine ret_p rfl ⟨?_, rfl⟩
      have : ¬ ∀ x ∈ xs, -100000 ≤ x ∧ x ≤ 100000 := fun hh => by have := hh a hm; omega
      simp [this]
    · simp only [go_sem, reduceIte, Nat.reduceEqDiff]
      rw [w64 (by omega)]
      refine Xm_inv_n (xs.length - (i + 1)) (by omega) ⟨i + 1, by omega, rfl, ?_, rfl, rfl⟩
      rw [List.take_add_one, ha]
      intro x hx
      rcases List.mem_append.1 hx with hx | hx
      · exact hall x hx
      · simp at hx
        subst hx
        omega
  · obtain rfl : i = xs.length := by omega
    simp only [go_sem, reduceIte, Nat.reduceEqDiff]
    refine ret_p rfl ⟨pb ?_, rfl⟩
    rw [List.take_length] at hall
    simp only [decide_eq_true_eq, Bool.and_eq_true]
    exact ⟨fun h => ⟨hall, by omega⟩, fun h => by omega⟩
set_option maxRecDepth 100000 in
set_option maxHeartbeats 16000000 in
/-- impl.allWithin -/
theorem k_allWithin (xs : List Int) (lo hi : Int) (hb : xs.length ≤ 1048576) : Okv Try.prog 49 [slI .i64 xs, .int .i64 lo, .int .i64 hi] (.p (.bool (decide (∀ x ∈ xs, lo ≤ x ∧ x ≤ hi)))) := by
  refine ok_D hmix c_impl_allWithin (by simp) ?_
  simp only [envOf, envFrom, go_sem, reduceIte, Nat.reduceEqDiff, Nat.reduceAdd]
  refine Dm_loop [1, 2, 9, 10, 11] (fun m ds H' => ∃ i : Nat, i ≤ xs.length ∧ m = xs.length - i ∧ (∀ x ∈ xs.take i, lo ≤ x ∧ x ≤ hi) ∧ ds = [.p (.int .i64 lo), .p (.int .i64 hi), .p (slI .i64 xs), .p (.int .i64 xs.length), .p (.int .i64 i)] ∧ H' = []) xs.length ⟨0, by simp, by simp, by simp, rfl, rfl⟩ ?_
  rintro m ds H' ⟨i, hi', rfl, hall, rfl, rfl⟩ -
  simp only [go_sem, reduceIte, Nat.reduceEqDiff]
  refine Cm_split ?_ ?_ <;> intro h <;> simp only [decide_eq_true_eq, decide_eq_false_iff_not] at h
  · have hlt : i < xs.length := by omega
    obtain ⟨a, ha, hm⟩ := row_at hlt
    simp only [go_sem, reduceIte, Nat.reduceEqDiff]
    refine Rm_need (by first | omega | (simp; omega)) ?_
    simp only [go_sem, reduceIte, Nat.reduceEqDiff]
    refine Rm_ints a (by simpa using ha) ?_
    simp only [go_sem, reduceIte, Nat.reduceEqDiff]
    refine Rm_v (k_within a _ _) rfl trivial ?_
    simp only [go_sem, reduceIte, Nat.reduceEqDiff]
    refine Cm_split ?_ ?_ <;> intro h2 <;> simp only [decide_eq_true_eq, decide_eq_false_iff_not, Bool.not_eq_true', Bool.not_eq_false'] at h2
    · simp only [go_sem]
      refine ret_p rfl ⟨?_, rfl⟩
      have : ¬ ∀ x ∈ xs, lo ≤ x ∧ x ≤ hi := fun hh => by have := hh a hm; omega
      simp [this]
    · simp only [go_sem, reduceIte, Nat.reduceEqDiff]
      rw [w64 (by omega)]
      refine Xm_inv_n (xs.length - (i + 1)) (by omega) ⟨i + 1, by omega, rfl, ?_, rfl, rfl⟩
      rw [List.take_add_one, ha]
      intro x hx
      rcases List.mem_append.1 hx with hx | hx
      · exact hall x hx
      · simp at hx
        subst hx
        omega
  · obtain rfl : i = xs.length := by omega
    simp only [go_sem, reduceIte]
    refine ret_p rfl ⟨pb ?_, rfl⟩
    rw [List.take_length] at hall
    simp only [decide_eq_true_eq, true_iff]
    exact hall

/-- A row that is being filled. -/
theorem fill_step {α : Type} {xs : List α} {z a : α} {i : Nat} (h : i < xs.length) (ha : xs[i]? = some a) : (xs.take i ++ List.replicate (xs.length - i) z).set i a = xs.take (i + 1) ++ List.replicate (xs.length - (i + 1)) z := by
  have e : xs.length - i = (xs.length - (i + 1)) + 1 := by omega
  rw [List.take_add_one, ha, e, List.replicate_succ, List.set_append_right _ _ (by simp; omega)]
  have : i - (xs.take i).length = 0 := by simp; omega
  rw [this]
  simp

set_option maxRecDepth 100000 in
set_option maxHeartbeats 16000000 in
/-- laws.toIntS -/
theorem k_toIntS (xs : List Int) (hb : xs.length ≤ 1048576) : Okw Try.prog 16 [slI .i64 xs] fun d H => d = .own 0 0 xs.length ∧ H = [.arr 3 1 (xs.map (.int .i64))] := by
  refine ok_D hmix c_laws_toIntS (by simp) ?_
  simp only [envOf, envFrom, go_sem, Nat.lt_add_one, reduceIte, Nat.reduceEqDiff]
  refine Rm_need (by first | omega | (simp; omega)) ?_
  simp only [go_sem, reduceIte, Nat.reduceEqDiff]
  refine Dm_loop [0, 3, 4] (fun m ds H' => ∃ i : Nat, i ≤ xs.length ∧ m = xs.length - i ∧ ds = [.p (slI .i64 xs), .own 0 0 xs.length, .p (.int .i64 i)] ∧ H' = [.arr 3 1 ((xs.take i ++ List.replicate (xs.length - i) 0).map (.int .i64))]) xs.length ⟨0, by simp, by simp, rfl, rfl⟩ ?_
  rintro m ds H' ⟨i, hi', rfl, rfl, rfl⟩ -
  simp only [go_sem, reduceIte, Nat.reduceEqDiff]
  refine Cm_split ?_ ?_ <;> intro h <;> simp only [decide_eq_true_eq, decide_eq_false_iff_not] at h
  · have hlt : i < xs.length := by omega
    obtain ⟨a, ha, hm⟩ := row_at hlt
    simp only [go_sem, reduceIte, Nat.reduceEqDiff]
    refine Rm_need (by first | omega | (simp; omega)) ?_
    simp only [go_sem, reduceIte, Nat.reduceEqDiff]
    refine Rm_ints a (by simpa using ha) ?_
    simp only [go_sem, reduceIte, Nat.reduceEqDiff]
    refine Rm_need (by first | omega | (simp; omega)) ?_
    simp only [go_sem, reduceIte, Nat.reduceEqDiff]
    refine Rm_puti (by simp; omega) rfl ?_
    simp only [go_sem, reduceIte, Nat.reduceEqDiff]
    rw [w64 (by omega)]
    refine Xm_inv_n (xs.length - (i + 1)) (by omega) ⟨i + 1, by omega, rfl, rfl, congrArg (fun l : List Int => [OB.arr 3 1 (l.map (PV.int .i64))]) (fill_step hlt ha)⟩
  · obtain rfl : i = xs.length := by omega
    simp only [go_sem, reduceIte, Nat.reduceEqDiff]
    refine ret_gen (.own 0 0 xs.length) _ _ rfl rfl rfl ⟨rfl, ?_⟩
    show [OB.arr 3 1 (List.map (PV.int .i64) (List.take xs.length xs ++ List.replicate (xs.length - xs.length) 0))] = _
    simp

set_option maxRecDepth 100000 in
set_option maxHeartbeats 16000000 in
/-- laws.eqIntS -/
theorem k_eqIntS (xs ys : List Int) (hb : xs.length ≤ 1048576) : Okv Try.prog 18 [slI .i64 xs, slI .i64 ys] (.p (.bool (decide (xs = ys)))) := by
  refine ok_D hmix c_laws_eqIntS (by simp) ?_
  simp only [envOf, envFrom, go_sem, reduceIte, Nat.reduceEqDiff]
  refine Cm_split ?_ ?_ <;> intro h <;> simp only [bne_iff_ne, bne_eq_false_iff_eq, ne_eq] at h
  · simp only [go_sem]
    refine ret_p rfl ⟨pb ?_, rfl⟩
    simp only [Bool.false_eq_true, decide_eq_true_eq, false_iff]
    rintro rfl
    exact h rfl
  · have hl : xs.length = ys.length := by omega
    simp only [go_sem]
    refine Dm_loop [0, 1, 5] (fun m ds H' => ∃ i : Nat, i ≤ xs.length ∧ m = xs.length - i ∧ xs.take i = ys.take i ∧ ds = [.p (slI .i64 xs), .p (slI .i64 ys), .p (.int .i64 i)] ∧ H' = []) xs.length ⟨0, by simp, by simp, by simp, rfl, rfl⟩ ?_
    rintro m ds H' ⟨i, hi', rfl, hall, rfl, rfl⟩ -
    simp only [go_sem, reduceIte, Nat.reduceEqDiff]
    refine Cm_split ?_ ?_ <;> intro h <;> simp only [decide_eq_true_eq, decide_eq_false_iff_not] at h
    · have hlt : i < xs.length := by omega
      obtain ⟨a, ha, hm⟩ := row_at hlt
      obtain ⟨b, hb, hm'⟩ := row_at (xs := ys) (i := i) (by omega)
      simp only [go_sem, reduceIte, Nat.reduceEqDiff]
      refine Rm_need (by first | omega | (simp; omega)) ?_
      simp only [go_sem, reduceIte, Nat.reduceEqDiff]
      refine Rm_ints a (by simpa using ha) ?_
      simp only [go_sem, reduceIte, Nat.reduceEqDiff]
      refine Rm_need (by first | omega | (simp; omega)) ?_
      simp only [go_sem, reduceIte, Nat.reduceEqDiff]
      refine Rm_ints b (by simpa using hb) ?_
      simp only [go_sem, reduceIte, Nat.reduceEqDiff]
      refine Cm_split ?_ ?_ <;> intro h2 <;> simp only [bne_iff_ne, bne_eq_false_iff_eq, ne_eq] at h2
      · simp only [go_sem]
        refine ret_p rfl ⟨pb ?_, rfl⟩
        simp only [Bool.false_eq_true, decide_eq_true_eq, false_iff]
        rintro rfl
        rw [ha] at hb
        exact h2 (Option.some.inj hb)
      · simp only [go_sem, reduceIte, Nat.reduceEqDiff]
        rw [w64 (by omega)]
        refine Xm_inv_n (xs.length - (i + 1)) (by omega) ⟨i + 1, by omega, rfl, ?_, rfl, rfl⟩
        rw [List.take_add_one, List.take_add_one, ha, hb, hall, h2]
    · obtain rfl : i = xs.length := by omega
      simp only [go_sem, reduceIte]
      refine ret_p rfl ⟨pb ?_, rfl⟩
      simp only [decide_eq_true_eq, true_iff]
      rw [List.take_length, hl, List.take_length] at hall
      exact hall

set_option maxRecDepth 100000 in
set_option maxHeartbeats 16000000 in
/-- impl.IsValidSamples -/
theorem k_iValid (xs : List Int) (hb : xs.length ≤ 1048576) : Okv Try.prog 17 [slI .i64 xs] (.p (.bool (decide (∀ x ∈ xs, -100000 ≤ x ∧ x ≤ 100000) && decide (xs.length ≤ 30)))) := by
  refine ok_D hmix c_impl_IsValidSamples (by simp) ?_
  simp only [envOf, envFrom, go_sem, reduceIte, Nat.reduceEqDiff, Nat.reduceBEq]
  refine Sm_split ?_ ?_ <;> intro h <;> simp only [decide_eq_true_eq, decide_eq_false_iff_not] at h
  · simp only [go_sem, reduceIte, Nat.reduceEqDiff, Nat.reduceBEq]
    refine Rm_v (k_allWithin xs _ _ hb) rfl trivial ?_
    simp only [go_sem, reduceIte, Nat.reduceEqDiff]
    refine ret_p rfl ⟨pb ?_, rfl⟩
    simp only [decide_eq_true_eq, Bool.and_eq_true]
    exact ⟨fun hh => ⟨hh, by omega⟩, fun h => h.1⟩
  · simp only [go_sem, reduceIte, Nat.reduceEqDiff]
    refine ret_p rfl ⟨pb ?_, rfl⟩
    simp only [decide_eq_true_eq, Bool.and_eq_true, Bool.false_eq_true, false_iff]
    omega
set_option maxRecDepth 100000 in
set_option maxHeartbeats 16000000 in
/-- spec.IsValidSamples -/
theorem k_sValid (xs : List Int) (hb : xs.length ≤ 1048576) : Okv Try.prog 15 [slI .i64 xs] (.p (.bool (decide (∀ x ∈ xs, -100000 ≤ x ∧ x ≤ 100000) && decide (xs.length ≤ 30)))) := by
  refine ok_D hmix c_spec_IsValidSamples (by simp) ?_
  simp only [envOf, envFrom, go_sem, reduceIte, Nat.reduceEqDiff]
  refine Rm_v (k_l26Good xs hb) rfl trivial ?_
  simp only [go_sem, reduceIte, Nat.reduceEqDiff]
  exact ret_p rfl ⟨rfl, rfl⟩

set_option maxRecDepth 100000 in
set_option maxHeartbeats 16000000 in
/-- laws.FnExactIsValidSamples -/
theorem k_FnExactIsValidSamples (xs : List Int) (_ : W64s xs) : Okv Try.prog 3 [slI .i64 xs] (.p (.bool true)) := by
  refine ok_D hmix c_laws_FnExactIsValidSamples (by simp) ?_
  simp only [envOf, envFrom, go_sem, reduceIte, Nat.reduceEqDiff]
  refine Cm_split ?_ ?_ <;> intro h <;> simp only [decide_eq_true_eq, decide_eq_false_iff_not] at h
  · simp only [go_sem]
    exact ret_p rfl ⟨rfl, rfl⟩
  · have hb : xs.length ≤ 1048576 := by omega
    simp only [go_sem, reduceIte, Nat.reduceEqDiff]
    refine Rm_o (k_toIntS xs hb) rfl ?_
    rintro r H2 ⟨rfl, rfl⟩
    simp only [go_sem, reduceIte, Nat.reduceEqDiff]
    refine Rm_v (k_sValid xs hb) (by simp [viewOfs, viewOf, List.take_of_length_le]) trivial ?_
    simp only [go_sem, reduceIte, Nat.reduceEqDiff]
    refine Rm_o (k_toIntS xs hb) rfl ?_
    rintro r H2 ⟨rfl, rfl⟩
    simp only [go_sem, reduceIte, Nat.reduceEqDiff]
    refine Rm_v (k_iValid xs hb) (by simp [viewOfs, viewOf, List.take_of_length_le]) trivial ?_
    simp only [go_sem, reduceIte, Nat.reduceEqDiff]
    refine Rm_o (k_toIntS xs hb) rfl ?_
    rintro r H2 ⟨rfl, rfl⟩
    simp only [go_sem, reduceIte, Nat.reduceEqDiff, Nat.reduceAdd]
    refine Rm_v (k_eqIntS xs xs hb) (by simp [viewOfs, viewOf, List.take_of_length_le]) trivial ?_
    simp only [go_sem, reduceIte, Nat.reduceEqDiff]
    exact ret_p rfl ⟨rfl, rfl⟩
end Go.Proofs.Ytdpmfgkmioaddaa

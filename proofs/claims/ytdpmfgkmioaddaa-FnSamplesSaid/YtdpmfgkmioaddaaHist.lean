import Derived.Test.YtdpmfgkmioaddaaSums
namespace Go.Proofs.Ytdpmfgkmioaddaa
open Go.Dv Go.Dv.EvL
attribute [local irreducible] Ok Rm Dm Om Sm Xm Cm Gm Hm Tm

theorem floor_of {a b : Int} (hb : 0 < b) : a / b = if a.tmod b < 0 then a.tdiv b - 1 else a.tdiv b := by
  have h1 := Int.tmod_lt_of_pos a hb
  have h2 := Int.lt_tmod_of_pos a hb
  have h3 := Int.tmod_add_mul_tdiv a b
  split
  · exact ((Int.ediv_emod_unique (r := a.tmod b + b) hb).2 ⟨by rw [Int.mul_sub]; omega, by omega, by omega⟩).1
  · exact ((Int.ediv_emod_unique (r := a.tmod b) hb).2 ⟨by omega, by omega, by omega⟩).1

set_option maxRecDepth 100000 in
set_option maxHeartbeats 16000000 in
/-- impl.floorDiv -/
theorem k_floorDiv (a b : Int) (h0 : -4611686018427387904 ≤ a ∧ a ≤ 4611686018427387904) (hb : 0 < b ∧ b ≤ 4611686018427387904) : Okv Try.prog 57 [.int .i64 a, .int .i64 b] (.p (.int .i64 (a / b))) := by
  refine ok_D hmix c_impl_floorDiv (by simp) ?_
  have hq : -4611686018427387904 ≤ a.tdiv b ∧ a.tdiv b ≤ 4611686018427387904 := by
    have h1 : (a.tdiv b).natAbs ≤ a.natAbs := by rw [Int.natAbs_tdiv]; exact Nat.div_le_self _ _
    omega
  have hf := floor_of (a := a) hb.1
  simp only [envOf, envFrom, go_sem, reduceIte, Nat.reduceEqDiff]
  refine Rm_need (by first | omega | (simp; omega)) ?_
  simp only [go_sem, reduceIte, Nat.reduceEqDiff]
  try simp (disch := omega) only [w64]
  refine Rm_need (by first | omega | (simp; omega)) ?_
  simp only [go_sem, reduceIte, Nat.reduceEqDiff]
  refine Cm_split ?_ ?_ <;> intro h <;> simp only [decide_eq_true_eq, decide_eq_false_iff_not] at h
  · rw [if_pos h] at hf
    simp only [go_sem, reduceIte, Nat.reduceEqDiff]
    try simp (disch := omega) only [w64]
    exact ret_p rfl ⟨pi hf.symm, rfl⟩
  · rw [if_neg h] at hf
    simp only [go_sem, reduceIte, Nat.reduceEqDiff]
    exact ret_p rfl ⟨pi hf.symm, rfl⟩

/-! ### marks -/
def marks (k : Int) (n : Nat) : List Int := (List.range n).map fun i : Nat => k + i

theorem marks_len {k : Int} {n : Nat} : (marks k n).length = n := by simp [marks]
theorem marks_get {k : Int} {n i : Nat} (h : i < n) : (marks k n)[i]? = some (k + i) := by simp [marks, h]
theorem marks_succ {k : Int} {n : Nat} : marks k (n + 1) = marks k n ++ [k + n] := by simp [marks, List.range_succ]
theorem mark_step {k : Int} {ys : List Int} {i : Nat} (h : i < ys.length) : (marks k i ++ ys.drop i).set i (k + i) = marks k (i + 1) ++ ys.drop (i + 1) := by
  rw [List.set_append_right _ _ (by rw [marks_len]; omega), marks_len, Nat.sub_self, marks_succ, List.append_assoc]
  congr 1
  rw [List.drop_eq_getElem_cons h]
  rfl

set_option maxRecDepth 100000 in
set_option maxHeartbeats 16000000 in
/-- laws.markIntS -/
theorem k_markIntS (ys : List Int) (k : Int) (hb : ys.length ≤ 1048576) (hk : 0 ≤ k ∧ k ≤ 1099511627776) : Ok Try.prog 25 [.own 0 0 ys.length, .p (.int .i64 k)] [.arr 3 1 (ys.map (.int .i64))]
    fun d H => d = .p (.int .i64 (k + ys.length)) ∧ H = [.arr 3 1 ((marks k ys.length).map (.int .i64))] := by
  refine ok_D hmix c_laws_markIntS (by simp) ?_
  simp only [envOf, envFrom, go_sem]
  refine Dm_loop [0, 1, 5] (fun m ds H' => ∃ i : Nat, i ≤ ys.length ∧ m = ys.length - i ∧ ds = [.own 0 0 ys.length, .p (.int .i64 (k + i)), .p (.int .i64 i)] ∧ H' = [.arr 3 1 ((marks k i ++ ys.drop i).map (.int .i64))]) ys.length ⟨0, by simp, by simp, by simp; rfl, rfl⟩ ?_
  rintro m ds H' ⟨i, hi', rfl, rfl, rfl⟩ -
  simp only [go_sem, reduceIte, Nat.reduceEqDiff]
  refine Cm_split ?_ ?_ <;> intro h <;> simp only [decide_eq_true_eq, decide_eq_false_iff_not] at h
  · have hlt : i < ys.length := by omega
    simp only [go_sem, reduceIte, Nat.reduceEqDiff]
    refine Rm_need (by first | omega | (simp; omega)) ?_
    simp only [go_sem, reduceIte, Nat.reduceEqDiff]
    refine Rm_puti (by rw [List.length_append, marks_len, List.length_drop]; omega) rfl ?_
    simp only [go_sem, reduceIte, Nat.reduceEqDiff]
    try simp (disch := omega) only [w64]
    rw [mark_step hlt]
    exact Xm_inv_n (ys.length - (i + 1)) (by omega) ⟨i + 1, by omega, rfl, by simp only [Int.natCast_add, Int.natCast_one, ← Int.add_assoc]; rfl, rfl⟩
  · obtain rfl : i = ys.length := by omega
    simp only [go_sem, reduceIte, Nat.reduceEqDiff]
    refine ret_gen _ _ _ rfl rfl rfl ⟨rfl, ?_⟩
    show [OB.arr 3 1 ((marks k ys.length ++ ys.drop ys.length).map (PV.int .i64))] = _
    simp

set_option maxRecDepth 100000 in
set_option maxHeartbeats 16000000 in
/-- laws.markIntS, of no row -/
theorem k_markNil (k : Int) : Okv Try.prog 25 [slI .i64 [], .int .i64 k] (.p (.int .i64 k)) := by
  refine ok_D hmix c_laws_markIntS (by simp) ?_
  simp only [envOf, envFrom, go_sem]
  refine Dm_loop [0, 1, 5] (fun m ds H' => ds = [.p (slI .i64 []), .p (.int .i64 k), .p (.int .i64 0)] ∧ H' = []) 0 ⟨rfl, rfl⟩ ?_
  rintro m ds H' ⟨rfl, rfl⟩ -
  simp only [go_sem, reduceIte, Nat.reduceEqDiff]
  refine Cm_split ?_ ?_ <;> intro h <;> simp only [decide_eq_true_eq, decide_eq_false_iff_not] at h
  · simp at h
  · simp only [go_sem, reduceIte, Nat.reduceEqDiff]
    exact ret_p rfl ⟨rfl, rfl⟩

set_option maxRecDepth 100000 in
set_option maxHeartbeats 16000000 in
/-- laws.heldIntS -/
theorem k_heldIntS (n : Nat) (k : Int) (hb : n ≤ 1048576) (hk : 0 ≤ k ∧ k ≤ 1099511627776) : Okv Try.prog 26 [slI .i64 (marks k n), .int .i64 k] (.p (.int .i64 (k + n))) := by
  refine ok_D hmix c_laws_heldIntS (by simp) ?_
  simp only [envOf, envFrom, go_sem]
  refine Dm_loop [0, 1, 5] (fun m ds H' => ∃ i : Nat, i ≤ n ∧ m = n - i ∧ ds = [.p (slI .i64 (marks k n)), .p (.int .i64 (k + i)), .p (.int .i64 i)] ∧ H' = []) n ⟨0, by simp, by simp, by simp; rfl, rfl⟩ ?_
  rintro m ds H' ⟨i, hi', rfl, rfl, rfl⟩ -
  have hl : (marks k n).length = n := marks_len
  simp only [go_sem, reduceIte, Nat.reduceEqDiff]
  refine Cm_split ?_ ?_ <;> intro h <;> simp only [decide_eq_true_eq, decide_eq_false_iff_not] at h
  · have hlt : i < n := by omega
    simp only [go_sem, reduceIte, Nat.reduceEqDiff]
    refine Rm_need (by first | omega | (simp; omega)) ?_
    simp only [go_sem, reduceIte, Nat.reduceEqDiff]
    refine Rm_ints (k + i) (marks_get hlt) ?_
    simp only [go_sem, reduceIte, Nat.reduceEqDiff]
    try simp (disch := omega) only [w64]
    exact Xm_inv_n (n - (i + 1)) (by omega) ⟨i + 1, by omega, rfl, by simp only [Int.natCast_add, Int.natCast_one, ← Int.add_assoc]; rfl, rfl⟩
  · obtain rfl : i = n := by omega
    simp only [go_sem, reduceIte, Nat.reduceEqDiff]
    exact ret_p rfl ⟨rfl, rfl⟩

theorem k_heldNil (k : Int) (hk : 0 ≤ k ∧ k ≤ 1099511627776) : Okv Try.prog 26 [slI .i64 [], .int .i64 k] (.p (.int .i64 k)) := by
  have := k_heldIntS 0 k (by simp) hk
  simpa [marks] using this

/-! ### the histogram -/
def binO (low width x : Int) : Int := (x - low) / width
def hstep (low width bins : Int) (st : List Int × Int × Int) (x : Int) : List Int × Int × Int :=
  if x < low then (st.1, st.2.1 + 1, st.2.2) else if binO low width x ≥ bins then (st.1, st.2.1, st.2.2 + 1) else (st.1.set (binO low width x).toNat (st.1.getD (binO low width x).toNat 0 + 1), st.2.1, st.2.2)
def histO (xs : List Int) (low width bins : Int) : List Int × Int × Int := xs.foldl (hstep low width bins) (List.replicate bins.toNat 0, 0, 0)
def histB (xs : List Int) (low width bins : Int) : Bool := goodB xs && decide (-100000 ≤ low ∧ low ≤ 100000) && decide (1 ≤ width ∧ width ≤ 100000) && decide (1 ≤ bins ∧ bins ≤ 20)

theorem hist_step {xs : List Int} {low width bins : Int} {i : Nat} {a : Int} (h : xs[i]? = some a) : histO (xs.take (i + 1)) low width bins = hstep low width bins (histO (xs.take i) low width bins) a := by
  unfold histO
  rw [List.take_add_one, h, List.foldl_append]
  rfl

def HIn (bins : Int) (n : Nat) (st : List Int × Int × Int) : Prop := (st.1.length : Int) = bins ∧ (∀ c ∈ st.1, 0 ≤ c ∧ c ≤ n) ∧ (0 ≤ st.2.1 ∧ st.2.1 ≤ n) ∧ (0 ≤ st.2.2 ∧ st.2.2 ≤ n)
theorem hin_step {low width bins : Int} {n : Nat} {st : List Int × Int × Int} {a : Int} (h : HIn bins n st) : HIn bins (n + 1) (hstep low width bins st a) := by
  obtain ⟨h1, h2, h3, h4⟩ := h
  have h2' : ∀ c ∈ st.1, 0 ≤ c ∧ c ≤ ((n + 1 : Nat) : Int) := fun c hc => by have := h2 c hc; omega
  unfold hstep
  split
  · exact ⟨h1, h2', by simp only []; omega, by simp only []; omega⟩
  · split
    · exact ⟨h1, h2', by simp only []; omega, by simp only []; omega⟩
    · refine ⟨by simpa using h1, fun c hc => ?_, by simp only []; omega, by simp only []; omega⟩
      rcases List.mem_or_eq_of_mem_set hc with hc | rfl
      · exact h2' c hc
      · rw [List.getD_eq_getElem?_getD]
        cases hh : st.1[(binO low width a).toNat]? with
        | none => simp; omega
        | some c =>
          have := h2 c (List.mem_of_getElem? hh)
          simp
          omega
theorem hin_take {xs : List Int} {low width bins : Int} (hb : 0 ≤ bins) : ∀ i : Nat, i ≤ xs.length → HIn bins i (histO (xs.take i) low width bins)
  | 0, _ => by
    refine ⟨by simp [histO]; omega, fun c hc => ?_, by simp [histO], by simp [histO]⟩
    simp [histO] at hc
    omega
  | i + 1, h => by
    rw [hist_step (List.getElem?_eq_getElem (show i < xs.length by omega))]
    exact hin_step (hin_take hb i (by omega))

/-- what is counted, in an environment's rows -/
def histD (st : List Int × Int × Int) (n : Nat) : DV := .tup [.own 0 0 n, .p (.int .i64 st.2.1), .p (.int .i64 st.2.2), .p (.bool true)]

theorem toNat_cast {n : Int} (h : 0 ≤ n) : ((n.toNat : Nat) : Int) = n := by omega

theorem bin_neg {x low width : Int} (hw : 1 ≤ width) : binO low width x < 0 ↔ x < low := by
  unfold binO
  constructor
  · intro h
    rcases Int.lt_or_le x low with h2 | h2
    · exact h2
    · have := Int.ediv_nonneg (show 0 ≤ x - low by omega) (show 0 ≤ width by omega)
      omega
  · intro h
    exact Int.ediv_neg_of_neg_of_pos (by omega) (by omega)
theorem bin_tdiv {x low width : Int} (h : ¬ x < low) : (x - low).tdiv width = binO low width x := Int.tdiv_eq_ediv_of_nonneg (by omega)
theorem bin_in {x low width : Int} (hx : -100000 ≤ x ∧ x ≤ 100000) (hl : -100000 ≤ low ∧ low ≤ 100000) (_ : 1 ≤ width) : -200000 ≤ (x - low).tdiv width ∧ (x - low).tdiv width ≤ 200000 := by
  have h1 : ((x - low).tdiv width).natAbs ≤ (x - low).natAbs := by rw [Int.natAbs_tdiv]; exact Nat.div_le_self _ _
  omega

set_option maxRecDepth 100000 in
set_option maxHeartbeats 16000000 in
/-- spec.HistogramOf, of what is not valid -/
theorem k_sHist0 (xs : List Int) (low width bins : Int) (hb : xs.length ≤ 1048576) (h : histB xs low width bins = false) : Okw Try.prog 23 [slI .i64 xs, .int .i64 low, .int .i64 width, .int .i64 bins] fun d H => d = .tup [.own 0 0 0, .p (.int .i64 0), .p (.int .i64 0), .p (.bool false)] ∧ H = [.arr 3 1 []] := by
  refine ok_D hmix c_spec_HistogramOf (by simp) ?_
  simp only [envOf, envFrom, go_sem, reduceIte, Nat.reduceEqDiff, Nat.reduceBEq, Nat.reduceAdd]
  refine Rm_v (d0 := .p (.bool (goodB xs))) (k_l26Good xs hb) rfl trivial ?_
  cases h1 : goodB xs
  · simp only [go_sem, Nat.lt_add_one, reduceIte, Nat.reduceEqDiff, Nat.reduceBEq, Nat.reduceMul, Nat.reduceLeDiff]
    exact ret_gen _ _ _ rfl rfl rfl ⟨rfl, rfl⟩
  · simp only [go_sem, reduceIte, Nat.reduceEqDiff, Nat.reduceBEq]
    refine Rm_v (k_l1In low _ _) rfl trivial ?_
    cases h2 : decide (-100000 ≤ low ∧ low ≤ 100000)
    · simp only [go_sem, Nat.lt_add_one, reduceIte, Nat.reduceEqDiff, Nat.reduceBEq, Nat.reduceMul, Nat.reduceLeDiff]
      exact ret_gen _ _ _ rfl rfl rfl ⟨rfl, rfl⟩
    · simp only [go_sem, reduceIte, Nat.reduceEqDiff, Nat.reduceBEq]
      refine Rm_v (k_l1In width _ _) rfl trivial ?_
      cases h3 : decide (1 ≤ width ∧ width ≤ 100000)
      · simp only [go_sem, Nat.lt_add_one, reduceIte, Nat.reduceEqDiff, Nat.reduceBEq, Nat.reduceMul, Nat.reduceLeDiff]
        exact ret_gen _ _ _ rfl rfl rfl ⟨rfl, rfl⟩
      · simp only [go_sem, reduceIte, Nat.reduceEqDiff, Nat.reduceBEq]
        refine Rm_v (k_l1In bins _ _) rfl trivial ?_
        cases h4 : decide (1 ≤ bins ∧ bins ≤ 20)
        · simp only [go_sem, Nat.lt_add_one, reduceIte, Nat.reduceEqDiff, Nat.reduceBEq, Nat.reduceMul, Nat.reduceLeDiff]
          exact ret_gen _ _ _ rfl rfl rfl ⟨rfl, rfl⟩
        · simp [histB, h1, h2, h3, h4] at h
set_option maxRecDepth 100000 in
set_option maxHeartbeats 16000000 in
/-- impl.HistogramOf, of what is not valid -/
theorem k_iHist0 (xs : List Int) (low width bins : Int) (hb : xs.length ≤ 1048576) (h : histB xs low width bins = false) : Okw Try.prog 24 [slI .i64 xs, .int .i64 low, .int .i64 width, .int .i64 bins] fun d H => d = .tup [.nil, .p (.int .i64 0), .p (.int .i64 0), .p (.bool false)] ∧ H = [] := by
  refine ok_D hmix c_impl_HistogramOf (by simp) ?_
  simp only [envOf, envFrom, go_sem, reduceIte, Nat.reduceEqDiff, Nat.reduceBEq, Nat.reduceAdd]
  refine Rm_v (d0 := .p (.bool (goodB xs))) (k_iValid xs hb) rfl trivial ?_
  cases h1 : goodB xs
  · simp only [go_sem, reduceIte, Nat.reduceEqDiff, Nat.reduceBEq]
    exact ret_gen _ _ _ rfl rfl rfl ⟨rfl, rfl⟩
  · simp only [go_sem, reduceIte, Nat.reduceEqDiff, Nat.reduceBEq]
    refine Rm_v (k_within low _ _) rfl trivial ?_
    cases h2 : decide (-100000 ≤ low ∧ low ≤ 100000)
    · simp only [go_sem, reduceIte, Nat.reduceEqDiff, Nat.reduceBEq]
      exact ret_gen _ _ _ rfl rfl rfl ⟨rfl, rfl⟩
    · simp only [go_sem, reduceIte, Nat.reduceEqDiff, Nat.reduceBEq]
      refine Rm_v (k_within width _ _) rfl trivial ?_
      cases h3 : decide (1 ≤ width ∧ width ≤ 100000)
      · simp only [go_sem, reduceIte, Nat.reduceEqDiff, Nat.reduceBEq]
        exact ret_gen _ _ _ rfl rfl rfl ⟨rfl, rfl⟩
      · simp only [go_sem, reduceIte, Nat.reduceEqDiff, Nat.reduceBEq]
        refine Rm_v (k_within bins _ _) rfl trivial ?_
        cases h4 : decide (1 ≤ bins ∧ bins ≤ 20)
        · simp only [go_sem, reduceIte, Nat.reduceEqDiff, Nat.reduceBEq]
          exact ret_gen _ _ _ rfl rfl rfl ⟨rfl, rfl⟩
        · simp [histB, h1, h2, h3, h4] at h

theorem hist_parts {xs : List Int} {low width bins : Int} (h : histB xs low width bins = true) : Good xs ∧ goodB xs = true ∧ (-100000 ≤ low ∧ low ≤ 100000) ∧ (1 ≤ width ∧ width ≤ 100000) ∧ 1 ≤ bins ∧ bins ≤ 20 := by
  simp only [histB, Bool.and_eq_true, decide_eq_true_eq] at h
  exact ⟨good_of h.1.1.1, h.1.1.1, h.1.1.2, h.1.2, h.2⟩

set_option maxRecDepth 100000 in
set_option maxHeartbeats 16000000 in
/-- spec.HistogramOf -/
theorem k_sHist1 (xs : List Int) (low width bins : Int) (hb : xs.length ≤ 1048576) (h : histB xs low width bins = true) : Okw Try.prog 23 [slI .i64 xs, .int .i64 low, .int .i64 width, .int .i64 bins]
    fun d H => d = histD (histO xs low width bins) bins.toNat ∧ H = [.arr 3 1 ((histO xs low width bins).1.map (.int .i64))] := by
  refine ok_D hmix c_spec_HistogramOf (by simp) ?_
  obtain ⟨hg, h1, hl, hw, hn⟩ := hist_parts h
  have h2 : decide (-100000 ≤ low ∧ low ≤ 100000) = true := by simp only [decide_eq_true_eq]; exact hl
  have h3 : decide (1 ≤ width ∧ width ≤ 100000) = true := by simp only [decide_eq_true_eq]; exact hw
  have h4 : decide (1 ≤ bins ∧ bins ≤ 20) = true := by simp only [decide_eq_true_eq]; exact hn
  have hlen := hg.2
  simp only [envOf, envFrom, go_sem, reduceIte, Nat.reduceEqDiff, Nat.reduceBEq, Nat.reduceAdd]
  refine Rm_v (d0 := .p (.bool (goodB xs))) (k_l26Good xs hb) rfl trivial ?_
  rw [h1]
  simp only [go_sem, reduceIte, Nat.reduceEqDiff, Nat.reduceBEq]
  refine Rm_v (k_l1In low _ _) rfl trivial ?_
  rw [h2]
  simp only [go_sem, reduceIte, Nat.reduceEqDiff, Nat.reduceBEq]
  refine Rm_v (k_l1In width _ _) rfl trivial ?_
  rw [h3]
  simp only [go_sem, reduceIte, Nat.reduceEqDiff, Nat.reduceBEq]
  refine Rm_v (k_l1In bins _ _) rfl trivial ?_
  rw [h4]
  simp only [go_sem, Nat.lt_add_one, reduceIte, Nat.reduceEqDiff, Nat.reduceBEq]
  refine Rm_need (by first | omega | (simp; omega)) ?_
  simp only [go_sem, reduceIte, Nat.reduceEqDiff]
  refine Dm_loop [0, 1, 2, 3, 12, 13, 14, 15] (fun m ds H' => ∃ i : Nat, i ≤ xs.length ∧ m = xs.length - i ∧
    ds = [.p (slI .i64 xs), .p (.int .i64 low), .p (.int .i64 width), .p (.int .i64 bins), .own 0 0 bins.toNat, .p (.int .i64 (histO (xs.take i) low width bins).2.1), .p (.int .i64 (histO (xs.take i) low width bins).2.2), .p (.int .i64 i)] ∧
    H' = [.arr 3 1 ((histO (xs.take i) low width bins).1.map (.int .i64))]) xs.length ⟨0, by simp, by simp, rfl, rfl⟩ ?_
  rintro m ds H' ⟨i, hi', rfl, rfl, rfl⟩ -
  have hin := hin_take (xs := xs) (low := low) (width := width) (bins := bins) (by omega) i hi'
  generalize hst : histO (xs.take i) low width bins = st at hin ⊢
  obtain ⟨c1, c2, c3, c4⟩ := hin
  simp only [go_sem, reduceIte, Nat.reduceEqDiff]
  refine Cm_split ?_ ?_ <;> intro h5 <;> simp only [decide_eq_true_eq, decide_eq_false_iff_not] at h5
  · have hlt : i < xs.length := by omega
    obtain ⟨a, ha, hm⟩ := row_at hlt
    have hx := hg.1 a hm
    have hq := bin_in hx hl hw.1
    have hs := hist_step (low := low) (width := width) (bins := bins) ha
    rw [hst] at hs
    simp only [go_sem, reduceIte, Nat.reduceEqDiff]
    refine Rm_need (by first | omega | (simp; omega)) ?_
    simp only [go_sem, reduceIte, Nat.reduceEqDiff]
    refine Rm_ints a (by simpa using ha) ?_
    simp only [go_sem, reduceIte, Nat.reduceEqDiff]
    try simp (disch := omega) only [w64]
    refine Rm_need (by first | omega | (simp; omega)) ?_
    simp only [go_sem, reduceIte, Nat.reduceEqDiff]
    try simp (disch := omega) only [w64]
    refine Rm_need (by first | omega | (simp; omega)) ?_
    simp only [go_sem, reduceIte, Nat.reduceEqDiff]
    refine Rm_ints a (by simpa using ha) ?_
    simp only [go_sem, reduceIte, Nat.reduceEqDiff]
    refine Cm_split ?_ ?_ <;> intro h6 <;> simp only [decide_eq_true_eq, decide_eq_false_iff_not] at h6
    · rw [hstep, if_pos h6] at hs
      simp only [go_sem, reduceIte, Nat.reduceEqDiff]
      try simp (disch := omega) only [w64]
      exact Xm_inv_n (xs.length - (i + 1)) (by omega) ⟨i + 1, by omega, rfl, by rw [hs]; rfl, by rw [hs]; rfl⟩
    · rw [bin_tdiv h6]
      rw [hstep, if_neg h6] at hs
      simp only [go_sem, reduceIte, Nat.reduceEqDiff]
      refine Cm_split ?_ ?_ <;> intro h7 <;> simp only [decide_eq_true_eq, decide_eq_false_iff_not] at h7
      · rw [if_pos h7] at hs
        simp only [go_sem, reduceIte, Nat.reduceEqDiff]
        try simp (disch := omega) only [w64]
        exact Xm_inv_n (xs.length - (i + 1)) (by omega) ⟨i + 1, by omega, rfl, by rw [hs]; rfl, by rw [hs]; rfl⟩
      · rw [if_neg h7] at hs
        have h0 : 0 ≤ binO low width a := by have := bin_neg (x := a) (low := low) hw.1; omega
        have hk : (binO low width a).toNat < st.1.length := by omega
        obtain ⟨c, hc, hcm⟩ := row_at hk
        have := c2 c hcm
        simp only [go_sem, reduceIte, Nat.reduceEqDiff]
        refine Rm_need (by first | omega | (simp; omega)) ?_
        simp only [go_sem, reduceIte, Nat.reduceEqDiff]
        refine Rm_ints c hc ?_
        simp only [go_sem, reduceIte, Nat.reduceEqDiff]
        try simp (disch := omega) only [w64]
        refine Rm_need (by first | omega | (simp; omega)) ?_
        simp only [go_sem, reduceIte, Nat.reduceEqDiff]
        refine Rm_puti hk rfl ?_
        simp only [go_sem, reduceIte, Nat.reduceEqDiff]
        try simp (disch := omega) only [w64]
        rw [List.getD_eq_getElem?_getD, hc] at hs
        exact Xm_inv_n (xs.length - (i + 1)) (by omega) ⟨i + 1, by omega, rfl, by rw [hs]; rfl, by rw [hs]; rfl⟩
  · obtain rfl : i = xs.length := by omega
    rw [List.take_length] at hst
    simp only [go_sem, reduceIte, Nat.reduceEqDiff]
    exact ret_gen _ _ _ rfl rfl rfl ⟨by rw [hst]; rfl, by rw [hst]; rfl⟩

set_option maxRecDepth 100000 in
set_option maxHeartbeats 16000000 in
/-- impl.HistogramOf -/
theorem k_iHist1 (xs : List Int) (low width bins : Int) (hb : xs.length ≤ 1048576) (h : histB xs low width bins = true) : Okw Try.prog 24 [slI .i64 xs, .int .i64 low, .int .i64 width, .int .i64 bins]
    fun d H => d = histD (histO xs low width bins) bins.toNat ∧ H = [.arr 3 1 ((histO xs low width bins).1.map (.int .i64))] := by
  refine ok_D hmix c_impl_HistogramOf (by simp) ?_
  obtain ⟨hg, h1, hl, hw, hn⟩ := hist_parts h
  have h2 : decide (-100000 ≤ low ∧ low ≤ 100000) = true := by simp only [decide_eq_true_eq]; exact hl
  have h3 : decide (1 ≤ width ∧ width ≤ 100000) = true := by simp only [decide_eq_true_eq]; exact hw
  have h4 : decide (1 ≤ bins ∧ bins ≤ 20) = true := by simp only [decide_eq_true_eq]; exact hn
  have hlen := hg.2
  simp only [envOf, envFrom, go_sem, reduceIte, Nat.reduceEqDiff, Nat.reduceBEq, Nat.reduceAdd]
  refine Rm_v (d0 := .p (.bool (goodB xs))) (k_iValid xs hb) rfl trivial ?_
  rw [h1]
  simp only [go_sem, reduceIte, Nat.reduceEqDiff, Nat.reduceBEq]
  refine Rm_v (k_within low _ _) rfl trivial ?_
  rw [h2]
  simp only [go_sem, reduceIte, Nat.reduceEqDiff, Nat.reduceBEq]
  refine Rm_v (k_within width _ _) rfl trivial ?_
  rw [h3]
  simp only [go_sem, reduceIte, Nat.reduceEqDiff, Nat.reduceBEq]
  refine Rm_v (k_within bins _ _) rfl trivial ?_
  rw [h4]
  simp only [go_sem, Nat.lt_add_one, reduceIte, Nat.reduceEqDiff, Nat.reduceBEq]
  refine Rm_need (by first | omega | (simp; omega)) ?_
  simp only [go_sem, reduceIte, Nat.reduceEqDiff]
  refine Dm_loop [1, 2, 3, 12, 13, 14, 38, 39, 40] (fun m ds H' => ∃ i : Nat, i ≤ xs.length ∧ m = xs.length - i ∧
    ds = [.p (.int .i64 low), .p (.int .i64 width), .p (.int .i64 bins), .own 0 0 bins.toNat, .p (.int .i64 (histO (xs.take i) low width bins).2.1), .p (.int .i64 (histO (xs.take i) low width bins).2.2), .p (slI .i64 xs), .p (.int .i64 xs.length), .p (.int .i64 i)] ∧
    H' = [.arr 3 1 ((histO (xs.take i) low width bins).1.map (.int .i64))]) xs.length ⟨0, by simp, by simp, rfl, rfl⟩ ?_
  rintro m ds H' ⟨i, hi', rfl, rfl, rfl⟩ -
  have hin := hin_take (xs := xs) (low := low) (width := width) (bins := bins) (by omega) i hi'
  generalize hst : histO (xs.take i) low width bins = st at hin ⊢
  obtain ⟨c1, c2, c3, c4⟩ := hin
  simp only [go_sem, reduceIte, Nat.reduceEqDiff]
  refine Cm_split ?_ ?_ <;> intro h5 <;> simp only [decide_eq_true_eq, decide_eq_false_iff_not] at h5
  · have hlt : i < xs.length := by omega
    obtain ⟨a, ha, hm⟩ := row_at hlt
    have hx := hg.1 a hm
    have hq := bin_in hx hl hw.1
    have hs := hist_step (low := low) (width := width) (bins := bins) ha
    rw [hst] at hs
    simp only [go_sem, reduceIte, Nat.reduceEqDiff]
    refine Rm_need (by first | omega | (simp; omega)) ?_
    simp only [go_sem, reduceIte, Nat.reduceEqDiff]
    refine Rm_ints a (by simpa using ha) ?_
    simp only [go_sem, reduceIte, Nat.reduceEqDiff]
    try simp (disch := omega) only [w64]
    refine Rm_v (d0 := .p (.int .i64 (binO low width a))) (k_floorDiv (a - low) width (by omega) (by omega)) rfl trivial ?_
    simp only [go_sem, reduceIte, Nat.reduceEqDiff]
    have hbn := bin_neg (x := a) (low := low) hw.1
    refine Cm_split ?_ ?_ <;> intro h6 <;> simp only [decide_eq_true_eq, decide_eq_false_iff_not] at h6
    · rw [hstep, if_pos (hbn.1 h6)] at hs
      simp only [go_sem, reduceIte, Nat.reduceEqDiff]
      try simp (disch := omega) only [w64]
      exact Xm_inv_n (xs.length - (i + 1)) (by omega) ⟨i + 1, by omega, rfl, by rw [hs]; rfl, by rw [hs]; rfl⟩
    · rw [hstep, if_neg (fun h => h6 (hbn.2 h))] at hs
      simp only [go_sem, reduceIte, Nat.reduceEqDiff]
      refine Cm_split ?_ ?_ <;> intro h7 <;> simp only [decide_eq_true_eq, decide_eq_false_iff_not] at h7
      · rw [if_pos h7] at hs
        simp only [go_sem, reduceIte, Nat.reduceEqDiff]
        try simp (disch := omega) only [w64]
        exact Xm_inv_n (xs.length - (i + 1)) (by omega) ⟨i + 1, by omega, rfl, by rw [hs]; rfl, by rw [hs]; rfl⟩
      · rw [if_neg h7] at hs
        have h0 : 0 ≤ binO low width a := by have := bin_neg (x := a) (low := low) hw.1; omega
        have hk : (binO low width a).toNat < st.1.length := by omega
        obtain ⟨c, hc, hcm⟩ := row_at hk
        have := c2 c hcm
        simp only [go_sem, reduceIte, Nat.reduceEqDiff]
        refine Rm_need (by first | omega | (simp; omega)) ?_
        simp only [go_sem, reduceIte, Nat.reduceEqDiff]
        refine Rm_ints c hc ?_
        simp only [go_sem, reduceIte, Nat.reduceEqDiff]
        try simp (disch := omega) only [w64]
        refine Rm_need (by first | omega | (simp; omega)) ?_
        simp only [go_sem, reduceIte, Nat.reduceEqDiff]
        refine Rm_puti hk rfl ?_
        simp only [go_sem, reduceIte, Nat.reduceEqDiff]
        try simp (disch := omega) only [w64]
        rw [List.getD_eq_getElem?_getD, hc] at hs
        exact Xm_inv_n (xs.length - (i + 1)) (by omega) ⟨i + 1, by omega, rfl, by rw [hs]; rfl, by rw [hs]; rfl⟩
  · obtain rfl : i = xs.length := by omega
    rw [List.take_length] at hst
    simp only [go_sem, reduceIte, Nat.reduceEqDiff]
    exact ret_gen _ _ _ rfl rfl rfl ⟨by rw [hst]; rfl, by rw [hst]; rfl⟩
end Go.Proofs.Ytdpmfgkmioaddaa

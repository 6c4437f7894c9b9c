import Derived.Test.YtakpkggmhgkicaaKit
namespace Go.Proofs.Ytakpkggmhgkicaa
open Go.Dv Go.Dv.EvL
attribute [local irreducible] Ok Rm Dm Om Sm Xm Cm Gm Hm Tm

/-! ### rows of ints in laws -/
/-! ### marks -/
def marks (k : Int) (n : Nat) : List Int := (List.range n).map fun i : Nat => k + i

theorem marks_len {k : Int} {n : Nat} : (marks k n).length = n := by simp [marks]
theorem marks_get {k : Int} {n i : Nat} (h : i < n) : (marks k n)[i]? = some (k + i) := by simp [marks, h]
theorem marks_succ {k : Int} {n : Nat} : marks k (n + 1) = marks k n ++ [k + n] := by simp [marks, List.range_succ]
theorem mark_step {k : Int} {ys : List Int} {i : Nat} (h : i < ys.length) : (marks k i ++ ys.drop i).set i (k + i) = marks k (i + 1) ++ ys.drop (i + 1) := by
  rw [List.set_append_right _ _ (by rw [marks_len]; omega), marks_len, Nat.sub_self, marks_succ, List.append_assoc]
  congr 1
  rw [List.drop_eq_getElem_cons h]
  rfl

set_option maxRecDepth 100000 in
set_option maxHeartbeats 16000000 in
/-- laws.markIntS -/
theorem k_markIntS (ys : List Int) (k : Int) (hb : ys.length ≤ 1048576) (hk : 0 ≤ k ∧ k ≤ 1099511627776) : Ok Try.prog 22 [.own 0 0 ys.length, .p (.int .i64 k)] [.arr 3 1 (ys.map (.int .i64))]
    fun d H => d = .p (.int .i64 (k + ys.length)) ∧ H = [.arr 3 1 ((marks k ys.length).map (.int .i64))] := by
  refine ok_D hmix c_laws_markIntS (by simp) ?_
  simp only [envOf, envFrom, go_sem]
  refine Dm_loop [0, 1, 5] (fun m ds H' => ∃ i : Nat, i ≤ ys.length ∧ m = ys.length - i ∧ ds = [.own 0 0 ys.length, .p (.int .i64 (k + i)), .p (.int .i64 i)] ∧ H' = [.arr 3 1 ((marks k i ++ ys.drop i).map (.int .i64))]) ys.length ⟨0, by simp, by simp, by simp; rfl, rfl⟩ ?_
  rintro m ds H' ⟨i, hi', rfl, rfl, rfl⟩ -
  simp only [go_sem, reduceIte, Nat.reduceEqDiff]
  refine Cm_split ?_ ?_ <;> intro h <;> simp only [decide_eq_true_eq, decide_eq_false_iff_not] at h
  · have hlt : i < ys.length := by omega
    simp only [go_sem, reduceIte, Nat.reduceEqDiff]
    refine Rm_need (by first | omega | (simp; omega)) ?_
    simp only [go_sem, reduceIte, Nat.reduceEqDiff]
    refine Rm_puti (by rw [List.length_append, marks_len, List.length_drop]; omega) rfl ?_
    simp only [go_sem, reduceIte, Nat.reduceEqDiff]
    try simp (disch := omega) only [w64]
    rw [mark_step hlt]
    exact Xm_inv_n (ys.length - (i + 1)) (by omega) ⟨i + 1, by omega, rfl, by simp only [Int.natCast_add, Int.natCast_one, ← Int.add_assoc]; rfl, rfl⟩
  · obtain rfl : i = ys.length := by omega
    simp only [go_sem, reduceIte, Nat.reduceEqDiff]
    refine ret_gen _ _ _ rfl rfl rfl ⟨rfl, ?_⟩
    show [OB.arr 3 1 ((marks k ys.length ++ ys.drop ys.length).map (PV.int .i64))] = _
    simp

set_option maxRecDepth 100000 in
set_option maxHeartbeats 16000000 in
/-- laws.markIntS, of no row -/
theorem k_markNil (k : Int) : Okv Try.prog 22 [slI .i64 [], .int .i64 k] (.p (.int .i64 k)) := by
  refine ok_D hmix c_laws_markIntS (by simp) ?_
  simp only [envOf, envFrom, go_sem]
  refine Dm_loop [0, 1, 5] (fun m ds H' => ds = [.p (slI .i64 []), .p (.int .i64 k), .p (.int .i64 0)] ∧ H' = []) 0 ⟨rfl, rfl⟩ ?_
  rintro m ds H' ⟨rfl, rfl⟩ -
  simp only [go_sem, reduceIte, Nat.reduceEqDiff]
  refine Cm_split ?_ ?_ <;> intro h <;> simp only [decide_eq_true_eq, decide_eq_false_iff_not] at h
  · simp at h
  · simp only [go_sem, reduceIte, Nat.reduceEqDiff]
    exact ret_p rfl ⟨rfl, rfl⟩

set_option maxRecDepth 100000 in
set_option maxHeartbeats 16000000 in
/-- laws.heldIntS -/
theorem k_heldIntS (n : Nat) (k : Int) (hb : n ≤ 1048576) (hk : 0 ≤ k ∧ k ≤ 1099511627776) : Okv Try.prog 23 [slI .i64 (marks k n), .int .i64 k] (.p (.int .i64 (k + n))) := by
  refine ok_D hmix c_laws_heldIntS (by simp) ?_
  simp only [envOf, envFrom, go_sem]
  refine Dm_loop [0, 1, 5] (fun m ds H' => ∃ i : Nat, i ≤ n ∧ m = n - i ∧ ds = [.p (slI .i64 (marks k n)), .p (.int .i64 (k + i)), .p (.int .i64 i)] ∧ H' = []) n ⟨0, by simp, by simp, by simp; rfl, rfl⟩ ?_
  rintro m ds H' ⟨i, hi', rfl, rfl, rfl⟩ -
  have hl : (marks k n).length = n := marks_len
  simp only [go_sem, reduceIte, Nat.reduceEqDiff]
  refine Cm_split ?_ ?_ <;> intro h <;> simp only [decide_eq_true_eq, decide_eq_false_iff_not] at h
  · have hlt : i < n := by omega
    simp only [go_sem, reduceIte, Nat.reduceEqDiff]
    refine Rm_need (by first | omega | (simp; omega)) ?_
    simp only [go_sem, reduceIte, Nat.reduceEqDiff]
    refine Rm_ints (k + i) (marks_get hlt) ?_
    simp only [go_sem, reduceIte, Nat.reduceEqDiff]
    try simp (disch := omega) only [w64]
    exact Xm_inv_n (n - (i + 1)) (by omega) ⟨i + 1, by omega, rfl, by simp only [Int.natCast_add, Int.natCast_one, ← Int.add_assoc]; rfl, rfl⟩
  · obtain rfl : i = n := by omega
    simp only [go_sem, reduceIte, Nat.reduceEqDiff]
    exact ret_p rfl ⟨rfl, rfl⟩

theorem k_heldNil (k : Int) (hk : 0 ≤ k ∧ k ≤ 1099511627776) : Okv Try.prog 23 [slI .i64 [], .int .i64 k] (.p (.int .i64 k)) := by
  have := k_heldIntS 0 k (by simp) hk
  simpa [marks] using this

set_option maxRecDepth 100000 in
set_option maxHeartbeats 16000000 in
/-- laws.eqIntS -/
theorem k_eqIntS (xs ys : List Int) (hb : xs.length ≤ 1048576) : Okv Try.prog 16 [slI .i64 xs, slI .i64 ys] (.p (.bool (decide (xs = ys)))) := by
  refine ok_D hmix c_laws_eqIntS (by simp) ?_
  simp only [envOf, envFrom, go_sem, reduceIte, Nat.reduceEqDiff]
  refine Cm_split ?_ ?_ <;> intro h <;> simp only [bne_iff_ne, bne_eq_false_iff_eq, ne_eq] at h
  · simp only [go_sem]
    refine ret_p rfl ⟨pb ?_, rfl⟩
    simp only [Bool.false_eq_true, decide_eq_true_eq, false_iff]
    rintro rfl
    exact h rfl
  · have hl : xs.length = ys.length := by omega
    simp only [go_sem]
    refine Dm_loop [0, 1, 5] (fun m ds H' => ∃ i : Nat, i ≤ xs.length ∧ m = xs.length - i ∧ xs.take i = ys.take i ∧ ds = [.p (slI .i64 xs), .p (slI .i64 ys), .p (.int .i64 i)] ∧ H' = []) xs.length ⟨0, by simp, by simp, by simp, rfl, rfl⟩ ?_
    rintro m ds H' ⟨i, hi', rfl, hall, rfl, rfl⟩ -
    simp only [go_sem, reduceIte, Nat.reduceEqDiff]
    refine Cm_split ?_ ?_ <;> intro h <;> simp only [decide_eq_true_eq, decide_eq_false_iff_not] at h
    · have hlt : i < xs.length := by omega
      obtain ⟨a, ha, hm⟩ := row_at hlt
      obtain ⟨b, hb, hm'⟩ := row_at (xs := ys) (i := i) (by omega)
      simp only [go_sem, reduceIte, Nat.reduceEqDiff]
      refine Rm_need (by first | omega | (simp; omega)) ?_
      simp only [go_sem, reduceIte, Nat.reduceEqDiff]
      refine Rm_ints a (by simpa using ha) ?_
      simp only [go_sem, reduceIte, Nat.reduceEqDiff]
      refine Rm_need (by first | omega | (simp; omega)) ?_
      simp only [go_sem, reduceIte, Nat.reduceEqDiff]
      refine Rm_ints b (by simpa using hb) ?_
      simp only [go_sem, reduceIte, Nat.reduceEqDiff]
      refine Cm_split ?_ ?_ <;> intro h2 <;> simp only [bne_iff_ne, bne_eq_false_iff_eq, ne_eq] at h2
      · simp only [go_sem]
        refine ret_p rfl ⟨pb ?_, rfl⟩
        simp only [Bool.false_eq_true, decide_eq_true_eq, false_iff]
        rintro rfl
        rw [ha] at hb
        exact h2 (Option.some.inj hb)
      · simp only [go_sem, reduceIte, Nat.reduceEqDiff]
        rw [w64 (by omega)]
        refine Xm_inv_n (xs.length - (i + 1)) (by omega) ⟨i + 1, by omega, rfl, ?_, rfl, rfl⟩
        rw [List.take_add_one, List.take_add_one, ha, hb, hall, h2]
    · obtain rfl : i = xs.length := by omega
      simp only [go_sem, reduceIte]
      refine ret_p rfl ⟨pb ?_, rfl⟩
      simp only [decide_eq_true_eq, true_iff]
      rw [List.take_length, hl, List.take_length] at hall
      exact hall

end Go.Proofs.Ytakpkggmhgkicaa

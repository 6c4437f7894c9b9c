import Derived.Test.YtdpmfgkmioaddaaHist
namespace Go.Proofs.Ytdpmfgkmioaddaa
open Go.Dv Go.Dv.EvL
attribute [local irreducible] Ok Rm Dm Om Sm Xm Cm Gm Hm Tm

theorem histD_flat {st : List Int × Int × Int} {n : Nat} : flatD (histD st n) := by simp [histD, flatD, flatDs, flatP]

theorem lt_no {a b : Int} (h : b ≤ a) : decide (a < b) = false := by simp only [decide_eq_false_iff_not]; omega

set_option maxRecDepth 100000 in
set_option maxHeartbeats 16000000 in
/-- laws.FnExactHistogramOf -/
theorem k_FnExactHistogramOf (xs : List Int) (_ : W64s xs) (low : Int) (_ : W64 low) (width : Int) (_ : W64 width) (bins : Int) (_ : W64 bins) : Okv Try.prog 6 [slI .i64 xs, .int .i64 low, .int .i64 width, .int .i64 bins] (.p (.bool true)) := by
  refine ok_D hmix c_laws_FnExactHistogramOf (by simp) ?_
  simp only [envOf, envFrom, go_sem, reduceIte, Nat.reduceEqDiff, Nat.reduceAdd]
  refine Cm_split ?_ ?_ <;> intro h <;> simp only [decide_eq_true_eq, decide_eq_false_iff_not] at h
  · simp only [go_sem]
    exact ret_p rfl ⟨rfl, rfl⟩
  · have hb : xs.length ≤ 1048576 := by omega
    simp only [go_sem, reduceIte, Nat.reduceEqDiff]
    refine Rm_o (k_toIntS xs hb) rfl ?_
    rintro r H2 ⟨rfl, rfl⟩
    simp only [go_sem, reduceIte, Nat.reduceEqDiff]
    cases hh : histB xs low width bins
    · refine Rm_l (k_sHist0 xs low width bins hb hh) (by simp [viewOfs, viewOf, List.take_of_length_le]) ?_
      rintro r H2 ⟨rfl, rfl⟩
      refine ⟨by simp [flatD, flatDs, flatP], flatH_one trivial, ?_⟩
      simp only [go_sem, reduceIte, Nat.reduceEqDiff]
      refine Rm_o (k_toIntS xs hb) rfl ?_
      rintro r H2 ⟨rfl, rfl⟩
      simp only [go_sem, reduceIte, Nat.reduceEqDiff, Nat.reduceAdd]
      refine Rm_l (k_iHist0 xs low width bins hb hh) (by simp [viewOfs, viewOf, List.take_of_length_le]) ?_
      rintro r H2 ⟨rfl, rfl⟩
      refine ⟨by simp [flatD, flatDs, flatP], trivial, ?_⟩
      simp only [go_sem, reduceIte, Nat.reduceEqDiff, Nat.reduceBEq, Nat.reduceAdd]
      refine Rm_v (k_eqIntS [] [] (by simp)) rfl trivial ?_
      simp only [go_sem, reduceIte, Nat.reduceEqDiff, Nat.reduceBEq]
      refine Rm_o (k_toIntS xs hb) rfl ?_
      rintro r H2 ⟨rfl, rfl⟩
      simp only [go_sem, reduceIte, Nat.reduceEqDiff, Nat.reduceAdd]
      refine Rm_v (k_eqIntS xs xs hb) (by simp [viewOfs, viewOf, List.take_of_length_le]) trivial ?_
      simp only [go_sem, reduceIte, Nat.reduceEqDiff]
      refine Rm_i [2] (k_markIntS xs 1 hb (by omega)) (by simp) (by simp) ⟨_, _, rfl, .inl rfl, _, _, rfl, .inl rfl, rfl⟩ ?_
      rintro r H2 ⟨rfl, rfl⟩
      simp only [go_sem, reduceIte, Nat.reduceEqDiff, Nat.reduceBEq, Nat.reduceAdd]
      rw [lt_no (by omega)]
      simp only [go_sem, reduceIte, Nat.reduceEqDiff, Nat.reduceBEq]
      refine Rm_v (k_eqIntS [] [] (by simp)) rfl trivial ?_
      simp only [go_sem, reduceIte, Nat.reduceEqDiff, Nat.reduceBEq]
      refine Rm_v (k_markNil 1) rfl trivial ?_
      simp only [go_sem, reduceIte, Nat.reduceEqDiff]
      refine Rm_v (k_heldNil 1 (by omega)) rfl trivial ?_
      simp only [go_sem, reduceIte, Nat.reduceEqDiff]
      rw [lt_no (by omega)]
      simp only [go_sem, reduceIte, Nat.reduceEqDiff]
      refine Rm_o (k_toIntS xs hb) rfl ?_
      rintro r H2 ⟨rfl, rfl⟩
      simp only [go_sem, reduceIte, Nat.reduceEqDiff, Nat.reduceAdd]
      refine Rm_l (k_iHist0 xs low width bins hb hh) (by simp [viewOfs, viewOf, List.take_of_length_le]) ?_
      rintro r H2 ⟨rfl, rfl⟩
      refine ⟨by simp [flatD, flatDs, flatP], trivial, ?_⟩
      simp only [go_sem, reduceIte, Nat.reduceEqDiff, Nat.reduceBEq, Nat.reduceAdd]
      refine Rm_v (k_eqIntS [] [] (by simp)) rfl trivial ?_
      simp only [go_sem, reduceIte, Nat.reduceEqDiff, Nat.reduceBEq]
      refine Rm_v (k_heldNil 1 (by omega)) rfl trivial ?_
      simp only [go_sem, reduceIte, Nat.reduceEqDiff]
      rw [lt_no (by omega)]
      simp only [go_sem, reduceIte, Nat.reduceEqDiff]
      exact ret_p rfl ⟨rfl, rfl⟩
    · refine Rm_l (k_sHist1 xs low width bins hb hh) (by simp [viewOfs, viewOf, List.take_of_length_le]) ?_
      rintro r H2 ⟨rfl, rfl⟩
      refine ⟨histD_flat, flatH_one flat_int, ?_⟩
      have hin := hin_take (xs := xs) (low := low) (width := width) (bins := bins) (by have := hist_parts hh; omega) xs.length (Nat.le_refl _)
      rw [List.take_length] at hin
      have hi := k_iHist1 xs low width bins hb hh
      have hpp := hist_parts hh
      generalize histO xs low width bins = st at hin hi ⊢
      obtain ⟨ys, b, a⟩ := st
      obtain ⟨hl, -, -, -⟩ := hin
      simp only [] at hl
      have hy : ys.length ≤ 1048576 := by omega
      have hl : bins.toNat = ys.length := by omega
      unfold histD at hi ⊢
      rw [hl] at hi ⊢
      simp only [go_sem, reduceIte, Nat.reduceEqDiff]
      refine Rm_o (k_toIntS xs hb) rfl ?_
      rintro r H2 ⟨rfl, rfl⟩
      simp only [go_sem, reduceIte, Nat.reduceEqDiff, Nat.reduceAdd]
      refine Rm_l hi (by simp [viewOfs, viewOf, List.take_of_length_le]) ?_
      rintro r H2 ⟨rfl, rfl⟩
      refine ⟨by simp [flatD, flatDs, flatP], flatH_one flat_int, ?_⟩
      simp only [go_sem, reduceIte, Nat.reduceEqDiff, Nat.reduceBEq, Nat.reduceAdd]
      refine Rm_v (k_eqIntS ys ys hy) (by simp [viewOfs, viewOf, List.take_of_length_le]) trivial ?_
      simp only [go_sem, reduceIte, Nat.reduceEqDiff, Nat.reduceBEq]
      refine Rm_o (k_toIntS xs hb) rfl ?_
      rintro r H2 ⟨rfl, rfl⟩
      simp only [go_sem, reduceIte, Nat.reduceEqDiff, Nat.reduceAdd]
      refine Rm_v (k_eqIntS xs xs hb) (by simp [viewOfs, viewOf, List.take_of_length_le]) trivial ?_
      simp only [go_sem, reduceIte, Nat.reduceEqDiff]
      refine Rm_i [2] (k_markIntS xs 1 hb (by omega)) (by simp) (by simp) ⟨_, _, rfl, .inl rfl, _, _, rfl, .inl rfl, rfl⟩ ?_
      rintro r H2 ⟨rfl, rfl⟩
      simp only [go_sem, reduceIte, Nat.reduceEqDiff, Nat.reduceBEq, Nat.reduceAdd]
      rw [lt_no (by omega)]
      simp only [go_sem, reduceIte, Nat.reduceEqDiff, Nat.reduceBEq]
      refine Rm_v (k_eqIntS ys ys hy) (by simp [viewOfs, viewOf, List.take_of_length_le]) trivial ?_
      simp only [go_sem, reduceIte, Nat.reduceEqDiff, Nat.reduceBEq]
      refine Rm_i [3] (k_markIntS ys 1 hy (by omega)) (by simp) (by simp) ⟨_, _, rfl, .inl rfl, _, _, rfl, .inl rfl, rfl⟩ ?_
      rintro r H2 ⟨rfl, rfl⟩
      simp only [go_sem, reduceIte, Nat.reduceEqDiff, Nat.reduceAdd]
      refine Rm_v (k_heldIntS ys.length 1 hy (by omega)) (by simp [viewOfs, viewOf, List.take_of_length_le, marks_len]) trivial ?_
      simp only [go_sem, reduceIte, Nat.reduceEqDiff]
      rw [lt_no (by omega)]
      simp only [go_sem, reduceIte, Nat.reduceEqDiff]
      refine Rm_o (k_toIntS xs hb) rfl ?_
      rintro r H2 ⟨rfl, rfl⟩
      simp only [go_sem, reduceIte, Nat.reduceEqDiff, Nat.reduceAdd]
      refine Rm_l hi (by simp [viewOfs, viewOf, List.take_of_length_le]) ?_
      rintro r H2 ⟨rfl, rfl⟩
      refine ⟨by simp [flatD, flatDs, flatP], flatH_one flat_int, ?_⟩
      simp only [go_sem, reduceIte, Nat.reduceEqDiff, Nat.reduceBEq, Nat.reduceAdd]
      refine Rm_v (k_eqIntS ys ys hy) (by simp [viewOfs, viewOf, List.take_of_length_le]) trivial ?_
      simp only [go_sem, reduceIte, Nat.reduceEqDiff, Nat.reduceBEq]
      refine Rm_v (k_heldIntS ys.length 1 hy (by omega)) (by simp [viewOfs, viewOf, List.take_of_length_le, marks_len]) trivial ?_
      simp only [go_sem, reduceIte, Nat.reduceEqDiff]
      rw [lt_no (by omega)]
      simp only [go_sem, reduceIte, Nat.reduceEqDiff]
      exact ret_p rfl ⟨rfl, rfl⟩
end Go.Proofs.Ytdpmfgkmioaddaa

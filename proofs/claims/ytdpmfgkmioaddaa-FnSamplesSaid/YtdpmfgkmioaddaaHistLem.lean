import Derived.Test.YtdpmfgkmioaddaaDraw2
import Derived.Test.YtdpmfgkmioaddaaHistLaw
import Derived.Test.YtdpmfgkmioaddaaSlope
import Derived.Test.YtdpmfgkmioaddaaRise
namespace Go.Proofs.Ytdpmfgkmioaddaa
open Go.Dv Go.Dv.EvL
attribute [local irreducible] Ok Rm Dm Om Sm Xm Cm Gm Hm Tm

/-! ### what FnHistograms asks -/
theorem sum_set {l : List Int} {i : Nat} {a : Int} (h : i < l.length) : (l.set i a).sum = l.sum - l.getD i 0 + a := by
  induction l generalizing i with
  | nil => simp at h
  | cons x l ih =>
    cases i with
    | zero => simp; omega
    | succ i =>
      have := ih (i := i) (by simpa using h)
      simp only [List.set_cons_succ, List.sum_cons, List.getD_cons_succ]
      omega
def total (st : List Int × Int × Int) : Int := st.1.sum + st.2.1 + st.2.2
theorem total_step {low width bins : Int} {n : Nat} {st : List Int × Int × Int} {a : Int} (hw : 1 ≤ width) (h : HIn bins n st) : total (hstep low width bins st a) = total st + 1 := by
  obtain ⟨h1, -⟩ := h
  have hb := bin_neg (x := a) (low := low) (width := width) hw
  unfold hstep
  split
  · simp only [total]; omega
  · split
    · simp only [total]; omega
    · have hi : (binO low width a).toNat < st.1.length := by omega
      have := sum_set (a := st.1.getD (binO low width a).toNat 0 + 1) hi
      simp only [total]
      omega
theorem total_take {xs : List Int} {low width bins : Int} (hb : 0 ≤ bins) (hw : 1 ≤ width) : ∀ i : Nat, i ≤ xs.length → total (histO (xs.take i) low width bins) = i
  | 0, _ => by simp [histO, total]
  | i + 1, h => by
    have h1 := total_take (xs := xs) (low := low) (width := width) hb hw i (by omega)
    rw [hist_step (List.getElem?_eq_getElem (show i < xs.length by omega)), total_step hw (hin_take hb i (by omega)), h1]
    omega
theorem hist_total {xs : List Int} {low width bins : Int} (h : histB xs low width bins = true) : total (histO xs low width bins) = xs.length := by
  have hp := hist_parts h
  have := total_take (xs := xs) (low := low) (width := width) (bins := bins) (by omega) (by omega) xs.length (Nat.le_refl _)
  rwa [List.take_length] at this

theorem fr_count {xs : List Int} : ∀ (ys : List Int) (st : Int × Int), st.2 = xs.count st.1 → (ys.foldl (fstep xs) st).2 = xs.count (ys.foldl (fstep xs) st).1
  | [], st, h => h
  | y :: ys, st, h => fr_count ys _ (by
      unfold fstep
      split
      · rfl
      · exact h)
theorem freq_count {xs : List Int} (h : someB xs = true) : (fr xs (srt xs)).2 = xs.count (fr xs (srt xs)).1 := by
  have hp := (some_of h).2
  have hl := srt_len xs
  cases hs : srt xs with
  | nil => rw [hs] at hl; simp at hl; omega
  | cons y ys =>
    have hy : y ∈ xs := (srt_perm xs).mem_iff.1 (by rw [hs]; simp)
    have hc : 0 < xs.count y := List.count_pos_iff.2 hy
    unfold fr
    rw [List.foldl_cons]
    have e : fstep xs (0, 0) y = (y, (xs.count y : Int)) := by
      unfold fstep
      rw [if_pos (by simp only []; omega)]
    rw [e]
    exact fr_count ys _ rfl

theorem rise_spec (xs : List Int) : riseO xs = noneO ∨ ∃ b m : Nat, riseO xs = ((b : Int), (m : Int), true) ∧ Asc xs b m := by
  unfold riseO
  split
  · split
    · rename_i h
      exact .inr ⟨_, _, rfl, h.choose_spec.2.1⟩
    · exact .inl rfl
  · exact .inl rfl

/-- a list the other way round -/
theorem rev_getD {xs : List Int} {i : Nat} (h : i < xs.length) : xs.reverse.getD i 0 = xs.getD (xs.length - 1 - i) 0 := by
  rw [List.getD_eq_getElem?_getD, List.getElem?_reverse h, List.getD_eq_getElem?_getD]
theorem sum_snoc0 {xs : List Int} {a : Int} : (xs ++ [a]).sum = xs.sum + a := by simp [List.sum_append]
theorem six_list (xs : List Int) : ∀ (ys : List Int), sixO (xs ++ ys) xs.length = sixO xs xs.length := by
  intro ys
  have : ∀ i, i ≤ xs.length → sixO (xs ++ ys) i = sixO xs i := fun i => by
    induction i with
    | zero => intro _; rfl
    | succ i ih =>
      intro h
      have h1 := ih (by omega)
      unfold sixO at h1 ⊢
      simp only [sumTo]
      rw [h1, List.getD_eq_getElem?_getD, List.getElem?_append_left (by omega), ← List.getD_eq_getElem?_getD]
  exact this _ (Nat.le_refl _)
theorem six_snoc (xs : List Int) (a : Int) : sixO (xs ++ [a]) (xs ++ [a]).length = sixO xs xs.length + xs.length * a := by
  have h := six_list xs [a]
  rw [List.length_append]
  show sumTo _ (xs.length + 1) = _
  simp only [sumTo]
  unfold sixO at h
  rw [h, List.getD_eq_getElem?_getD, List.getElem?_append_right (by omega), Nat.sub_self]
  rfl
theorem six_cons (a : Int) (xs : List Int) : sixO (a :: xs) (a :: xs).length = sixO xs xs.length + xs.sum := by
  have key : ∀ i, sixO (a :: xs) (i + 1) = sixO xs i + sumTo (fun j => xs.getD j 0) i := fun i => by
    induction i with
    | zero => simp [sixO, sumTo]
    | succ i ih =>
      unfold sixO at ih ⊢
      rw [sumTo, ih]
      simp only [sumTo, List.getD_cons_succ]
      grind
  have ks : ∀ ys : List Int, sumTo (fun j => ys.getD j 0) ys.length = ys.sum := fun ys => by
    have : ∀ i, i ≤ ys.length → sumTo (fun j => ys.getD j 0) i = (ys.take i).sum := fun i => by
      induction i with
      | zero => intro _; rfl
      | succ i ih =>
        intro h
        rw [sumTo, ih (by omega), take_snoc (d := 0) (show i < ys.length by omega), sum_snoc0]
    rw [this _ (Nat.le_refl _), List.take_length]
  rw [List.length_cons, key, ks]
theorem six_rev : ∀ xs : List Int, sixO xs.reverse xs.length + sixO xs xs.length = (xs.length - 1) * xs.sum
  | [] => by simp [sixO, sumTo]
  | a :: xs => by
    have ih := six_rev xs
    have h1 := six_snoc xs.reverse a
    have h2 := six_cons a xs
    simp only [List.length_append, List.length_reverse, List.length_cons, List.length_nil, Nat.zero_add] at h1
    rw [List.reverse_cons, List.length_cons, h1]
    rw [List.length_cons] at h2
    rw [h2]
    simp only [List.sum_cons, Int.natCast_add, Int.natCast_one]
    grind
theorem si_two : ∀ n : Nat, 2 * siO n = n * (n - 1)
  | 0 => rfl
  | n + 1 => by
    have ih := si_two n
    unfold siO at ih ⊢
    simp only [sumTo, Int.natCast_add, Int.natCast_one]
    grind
theorem sum_rev (xs : List Int) : xs.reverse.sum = xs.sum := perm_sum (List.reverse_perm xs)
theorem slope_num_rev (xs : List Int) : (xs.length : Int) * sixO xs.reverse xs.length - siO xs.length * xs.reverse.sum = -(xs.length * sixO xs xs.length - siO xs.length * xs.sum) := by
  have h1 := six_rev xs
  have h2 := si_two xs.length
  rw [sum_rev]
  generalize sixO xs.reverse xs.length = A at *
  generalize sixO xs xs.length = B at *
  generalize siO xs.length = C at *
  generalize xs.sum = S at *
  generalize (xs.length : Int) = n at *
  have e1 : n * A = n * ((n - 1) * S) - n * B := by rw [← h1]; grind
  have e2 : 2 * C * S = n * (n - 1) * S := by rw [h2]
  grind
theorem good_rev (xs : List Int) : goodB xs.reverse = goodB xs := by
  unfold goodB
  simp only [List.mem_reverse, List.length_reverse]
theorem slope_rev {xs : List Int} : slopeO xs.reverse = (-(slopeO xs).1, (slopeO xs).2.1, (slopeO xs).2.2) := by
  have hb : slopeB xs.reverse = slopeB xs := by
    unfold slopeB
    rw [good_rev, List.length_reverse]
  unfold slopeO
  rw [hb]
  split
  · rw [List.length_reverse, slope_num_rev]
    unfold fracO
    rw [Int.natAbs_neg, Int.neg_tdiv]
  · rfl
end Go.Proofs.Ytdpmfgkmioaddaa

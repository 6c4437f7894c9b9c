import Derived.Test.YtdpmfgkmioaddaaDraw2
import Derived.Test.YtdpmfgkmioaddaaSlope
namespace Go.Proofs.Ytdpmfgkmioaddaa
open Go.Dv Go.Dv.EvL
attribute [local irreducible] Ok Rm Dm Om Sm Xm Cm Gm Hm Tm

def sqs (xs : List Int) : Int := (xs.map fun y => y * y).sum
def devs (x : Int) (xs : List Int) : Int := (xs.map fun y => (x - y) * (x - y)).sum
def vari (xs : List Int) : Int := xs.length * sqs xs - xs.sum * xs.sum
theorem sumTo_cons (f : Nat → Int) : ∀ i, sumTo f (i + 1) = f 0 + sumTo (fun j => f (j + 1)) i
  | 0 => by simp [sumTo]
  | i + 1 => by
    have := sumTo_cons f i
    simp only [sumTo] at this ⊢
    omega
theorem sq_list : ∀ xs : List Int, sqO xs xs.length = sqs xs
  | [] => rfl
  | x :: xs => by
    have := sq_list xs
    unfold sqO at this ⊢
    rw [List.length_cons, sumTo_cons]
    simp only [List.getD_cons_zero, List.getD_cons_succ, sqs, List.map_cons, List.sum_cons]
    rw [this]
    rfl
theorem devs_eq (x : Int) : ∀ xs : List Int, devs x xs = sqs xs + xs.length * (x * x) - 2 * x * xs.sum
  | [] => by simp [devs, sqs]
  | y :: xs => by
    have ih := devs_eq x xs
    unfold devs sqs at ih ⊢
    simp only [List.map_cons, List.sum_cons, List.length_cons, Int.natCast_add, Int.natCast_one]
    rw [ih]
    grind
theorem vari_cons (x : Int) (xs : List Int) : vari (x :: xs) = vari xs + devs x xs := by
  rw [devs_eq]
  unfold vari sqs
  simp only [List.map_cons, List.sum_cons, List.length_cons, Int.natCast_add, Int.natCast_one]
  grind
theorem sq_pos (x : Int) : 0 ≤ x * x := by
  rcases Int.le_total 0 x with h | h
  · exact Int.mul_nonneg h h
  · exact Int.mul_nonneg_of_nonpos_of_nonpos h h
theorem devs_pos (x : Int) : ∀ xs : List Int, 0 ≤ devs x xs ∧ (devs x xs = 0 → ∀ y ∈ xs, y = x)
  | [] => by simp [devs]
  | y :: xs => by
    obtain ⟨h1, h2⟩ := devs_pos x xs
    have h3 := sq_pos (x - y)
    have e : devs x (y :: xs) = (x - y) * (x - y) + devs x xs := by simp [devs]
    refine ⟨by omega, fun h z hz => ?_⟩
    rcases List.mem_cons.1 hz with rfl | hz
    · have h4 : (x - z) * (x - z) = 0 := by omega
      rcases Int.mul_eq_zero.1 h4 with h | h <;> omega
    · exact h2 (by omega) z hz
theorem vari_pos : ∀ xs : List Int, 0 ≤ vari xs ∧ (vari xs = 0 → ∀ x ∈ xs, ∀ y ∈ xs, x = y)
  | [] => by simp [vari, sqs]
  | x :: xs => by
    obtain ⟨h1, h2⟩ := vari_pos xs
    obtain ⟨h3, h4⟩ := devs_pos x xs
    have e := vari_cons x xs
    refine ⟨by omega, fun h y hy z hz => ?_⟩
    have h5 := h4 (by omega)
    have key : ∀ y ∈ x :: xs, y = x := fun y hy => by
      rcases List.mem_cons.1 hy with rfl | hy
      · rfl
      · exact h5 y hy
    rw [key y hy, key z hz]
theorem vari_zero {c : Int} : ∀ {xs : List Int}, (∀ x ∈ xs, x = c) → vari xs = 0
  | [], _ => by simp [vari, sqs]
  | x :: xs, h => by
    rw [vari_cons, vari_zero (c := c) fun y hy => h y (by simp [hy])]
    have : ∀ zs : List Int, (∀ z ∈ zs, z = x) → devs x zs = 0 := fun zs => by
      induction zs with
      | nil => intro _; rfl
      | cons z zs ih =>
        intro hz
        have h1 := ih fun w hw => hz w (by simp [hw])
        have h2 := hz z (by simp)
        subst h2
        simp only [devs, List.map_cons, List.sum_cons, Int.sub_self, Int.mul_zero, Int.zero_add] at h1 ⊢
        exact h1
    rw [this xs fun z hz => by rw [h z (by simp [hz]), h x (by simp)]]
    rfl

/-- the smallest and the greatest -/
theorem low_le {xs : List Int} {x : Int} (hx : x ∈ xs) : (srt xs).getD 0 0 ≤ x ∧ x ≤ (srt xs).getD (xs.length - 1) 0 := by
  obtain ⟨i, hi, rfl⟩ := mem_getD ((srt_perm xs).mem_iff.2 hx)
  have hl := srt_len xs
  exact ⟨pw_get (srt_sorted xs) (by omega) hi, pw_get (srt_sorted xs) (by omega) (by omega)⟩
theorem low_mem {xs : List Int} (h : 0 < xs.length) : (srt xs).getD 0 0 ∈ xs ∧ (srt xs).getD (xs.length - 1) 0 ∈ xs := by
  have hl := srt_len xs
  exact ⟨(srt_perm xs).mem_iff.1 (getD_mem (by omega)), (srt_perm xs).mem_iff.1 (getD_mem (by omega))⟩

/-- all that FnSamples asks of samples -/
structure Asked (xs : List Int) (c : Int) : Prop where
  mean : ∃ n d : Int, meanO xs = (n, d, true) ∧ (srt xs).getD 0 0 * d ≤ n ∧ n ≤ (srt xs).getD (xs.length - 1) 0 * d ∧ 0 < d ∧ d ≤ 30 ∧ (c = 0 → trimO xs c = (n, d, true))
  med : ∃ n d : Int, medO xs = (n, d, true) ∧ (srt xs).getD 0 0 * d ≤ n ∧ n ≤ (srt xs).getD (xs.length - 1) 0 * d ∧ 0 < d ∧ d ≤ 2
  var : ∃ n d : Int, varO xs = (n, d, true) ∧ 0 ≤ n ∧ (n = 0 ↔ (srt xs).getD 0 0 = (srt xs).getD (xs.length - 1) 0)
  lo : percO xs 1 = ((srt xs).getD 0 0, true)
  hi : percO xs 100 = ((srt xs).getD (xs.length - 1) 0, true)
theorem asked {xs : List Int} (h : someB xs = true) (c : Int) : Asked xs c := by
  obtain ⟨hg, hp⟩ := some_of h
  have hl := hg.2
  have hsl := srt_len xs
  generalize hA : (srt xs).getD 0 0 = A
  generalize hB : (srt xs).getD (xs.length - 1) 0 = B
  have hlow : ∀ x ∈ xs, A ≤ x ∧ x ≤ B := fun x hx => by rw [← hA, ← hB]; exact low_le hx
  have hsum1 := sum_ge fun x hx => (hlow x hx).1
  have hsum2 := sum_le fun x hx => (hlow x hx).2
  refine ⟨?_, ?_, ?_, ?_, ?_⟩
  · obtain ⟨g, n', d', hg0, e1, e2, hd, hd2, e3⟩ := frac_parts (num := xs.sum) (den := xs.length) hp
    rw [hA, hB]
    refine ⟨n', d', by rw [meanO, if_pos h, e3], scale_le hg0 (by rw [Int.mul_assoc, ← e2, ← e1]; exact hsum1), scale_le hg0 (by rw [Int.mul_assoc, ← e2, ← e1]; exact hsum2), hd, by omega, ?_⟩
    rintro rfl
    rw [trimO, if_pos ⟨h, by omega, by omega, by omega⟩]
    have : cutL (srt xs) (0 : Int).toNat (xs.length - (0 : Int).toNat) = srt xs := by
      simp only [Int.toNat_zero, Nat.sub_zero, cutL, List.drop_zero]
      exact List.take_of_length_le (by omega)
    rw [this, srt_sum, Int.toNat_zero, Nat.mul_zero, Nat.sub_zero, e3]
  · have m1 := hlow _ ((srt_perm xs).mem_iff.1 (getD_mem (d := 0) (show (xs.length - 1) / 2 < (srt xs).length by omega)))
    have m2 := hlow _ ((srt_perm xs).mem_iff.1 (getD_mem (d := 0) (show xs.length / 2 < (srt xs).length by omega)))
    obtain ⟨g, n', d', hg0, e1, e2, hd, hd2, e3⟩ := frac_parts (num := (srt xs).getD ((xs.length - 1) / 2) 0 + (srt xs).getD (xs.length / 2) 0) (den := 2) (by omega)
    rw [hA, hB]
    exact ⟨n', d', by rw [medO, if_pos h, e3], scale_le hg0 (by rw [Int.mul_assoc, ← e2, ← e1]; omega), scale_le hg0 (by rw [Int.mul_assoc, ← e2, ← e1]; omega), hd, by omega⟩
  · have hv := vari_pos xs
    have e0 : (xs.length : Int) * sqO xs xs.length - xs.sum * xs.sum = vari xs := by rw [sq_list]; rfl
    obtain ⟨g, n', d', hg0, e1, e2, hd, hd2, e3⟩ := frac_parts (num := vari xs) (den := xs.length * xs.length) (Nat.mul_pos hp hp)
    rw [hA, hB]
    have hn : 0 ≤ n' := scale_le hg0 (by rw [Int.zero_mul, ← e1]; exact hv.1)
    refine ⟨n', d', by rw [varO, if_pos h, e0, e3], hn, ?_⟩
    obtain ⟨q1, q2⟩ := low_mem hp
    rw [hA] at q1
    rw [hB] at q2
    constructor
    · rintro rfl
      rw [Int.zero_mul] at e1
      exact hv.2 e1 _ q1 _ q2
    · rintro rfl
      have := vari_zero (c := A) (xs := xs) fun x hx => by have := hlow x hx; omega
      rw [this] at e1
      rcases Int.mul_eq_zero.1 e1.symm with h | h <;> omega
  · rw [percO, if_pos ⟨h, by omega, by omega⟩, hA, show (percI xs.length 1).toNat = 0 from by unfold percI; omega, hA]
  · rw [percO, if_pos ⟨h, by omega, by omega⟩, hB, show (percI xs.length 100).toNat = xs.length - 1 from by unfold percI; omega, hB]
end Go.Proofs.Ytdpmfgkmioaddaa

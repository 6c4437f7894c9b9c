import Derived.Test.YtdpmfgkmioaddaaInts
namespace Go.Proofs.Ytdpmfgkmioaddaa
open Go.Dv Go.Dv.EvL
attribute [local irreducible] Ok Rm Dm Om Sm Xm Cm Gm Hm Tm

set_option maxRecDepth 100000 in
set_option maxHeartbeats 16000000 in
/-- impl.gcd -/
theorem k_gcd (m n : Nat) (hm : m ≤ 4611686018427387904) (hn : n ≤ 4611686018427387904) : Okv Try.prog 68 [.int .i64 m, .int .i64 n] (.p (.int .i64 (Nat.gcd m n))) := by
  refine ok_D hmix c_impl_gcd (by simp) ?_
  simp only [envOf, envFrom, go_sem]
  refine Dm_loop [0, 1] (fun v ds H' => ∃ a b : Nat, v = b ∧ a ≤ 4611686018427387904 ∧ b ≤ 4611686018427387904 ∧ Nat.gcd a b = Nat.gcd m n ∧ ds = [.p (.int .i64 a), .p (.int .i64 b)] ∧ H' = []) n ⟨m, n, rfl, hm, hn, rfl, rfl, rfl⟩ ?_
  rintro v ds H' ⟨a, b, rfl, ha, hb, hg, rfl, rfl⟩ -
  simp only [go_sem, reduceIte, Nat.reduceEqDiff]
  refine Cm_split ?_ ?_ <;> intro h <;> simp only [bne_iff_ne, bne_eq_false_iff_eq, ne_eq] at h
  · simp only [go_sem, reduceIte, Nat.reduceEqDiff]
    refine Rm_need h ?_
    simp only [go_sem, reduceIte, Nat.reduceEqDiff]
    rw [tmod_nat]
    have hp : 0 < v := by omega
    refine Xm_inv_n (a % v) (Nat.mod_lt _ hp) ⟨v, a % v, rfl, hb, by have := Nat.mod_lt a hp; omega, ?_, rfl, rfl⟩
    · rw [Nat.gcd_comm, ← Nat.gcd_rec, Nat.gcd_comm, hg]
  · obtain rfl : v = 0 := by omega
    simp only [go_sem, reduceIte, Nat.reduceEqDiff]
    refine ret_p rfl ⟨pi ?_, rfl⟩
    rw [Nat.gcd_zero_right] at hg
    rw [hg]

set_option maxRecDepth 100000 in
set_option maxHeartbeats 16000000 in
/-- spec.l1Most -/
theorem k_most (a b : Int) : Okv Try.prog 67 [.int .i64 a, .int .i64 b] (.p (.int .i64 (max a b))) := by
  refine ok_D hmix c_spec_l1Most (by simp) ?_
  simp only [envOf, envFrom, go_sem, reduceIte, Nat.reduceEqDiff]
  refine Cm_split ?_ ?_ <;> intro h <;> simp only [decide_eq_true_eq, decide_eq_false_iff_not] at h
  · simp only [go_sem, reduceIte, Nat.reduceEqDiff]
    exact ret_p rfl ⟨pi (by omega), rfl⟩
  · simp only [go_sem, reduceIte, Nat.reduceEqDiff]
    exact ret_p rfl ⟨pi (by omega), rfl⟩

/-- a fraction in lowest terms -/
def frac (num : Int) (den : Nat) : DV := .tup [.p (.int .i64 (num.tdiv (Nat.gcd num.natAbs den))), .p (.int .i64 ((den : Int).tdiv (Nat.gcd num.natAbs den)))]

theorem tdiv_in {a : Int} {g : Nat} (h : -4611686018427387904 ≤ a ∧ a ≤ 4611686018427387904) : -9223372036854775808 ≤ a.tdiv g ∧ a.tdiv g ≤ 9223372036854775807 := by
  have h1 : (a.tdiv g).natAbs ≤ a.natAbs := by rw [Int.natAbs_tdiv]; exact Nat.div_le_self _ _
  omega

set_option maxRecDepth 100000 in
set_option maxHeartbeats 16000000 in
/-- impl.fraction -/
theorem k_fraction (num : Int) (den : Nat) (h0 : -4611686018427387904 ≤ num ∧ num ≤ 4611686018427387904) (hd : 0 < den ∧ den ≤ 4611686018427387904) : Okv Try.prog 60 [.int .i64 num, .int .i64 den] (frac num den) := by
  refine ok_D hmix c_impl_fraction (by simp) ?_
  have hg : 0 < Nat.gcd num.natAbs den := Nat.gcd_pos_of_pos_right _ hd.1
  simp only [envOf, envFrom, go_sem, reduceIte, Nat.reduceEqDiff]
  refine Rm_v (k_abs num h0) rfl trivial ?_
  simp only [go_sem, reduceIte, Nat.reduceEqDiff]
  refine Rm_v (k_gcd num.natAbs den (by omega) (by omega)) rfl trivial ?_
  simp only [go_sem, reduceIte, Nat.reduceEqDiff]
  refine Rm_need (by first | omega | (simp; omega)) ?_
  simp only [go_sem, reduceIte, Nat.reduceEqDiff]
  refine Rm_need (by first | omega | (simp; omega)) ?_
  simp only [go_sem, reduceIte, Nat.reduceEqDiff]
  rw [w64 (tdiv_in h0), w64 (tdiv_in (by omega))]
  exact ret_gen (frac num den) (frac num den) [] rfl rfl rfl ⟨rfl, rfl⟩

set_option maxRecDepth 100000 in
set_option maxHeartbeats 16000000 in
/-- spec.l6Reduce -/
theorem k_reduce (num : Int) (den : Nat) (h0 : -4611686018427387904 ≤ num ∧ num ≤ 4611686018427387904) (hd : 0 < den ∧ den ≤ 4611686018427387904) : Okv Try.prog 58 [.int .i64 num, .int .i64 den] (frac num den) := by
  refine ok_D hmix c_spec_l6Reduce (by simp) ?_
  have hg0 : 0 < Nat.gcd num.natAbs den := Nat.gcd_pos_of_pos_right _ hd.1
  simp only [envOf, envFrom, go_sem, reduceIte, Nat.reduceEqDiff]
  rw [w64 (by omega)]
  refine Rm_v (k_most num (0 - num)) rfl trivial ?_
  rw [show max num (0 - num) = (num.natAbs : Int) from by omega]
  simp only [go_sem, reduceIte, Nat.reduceEqDiff]
  refine Dm_loop [0, 1, 6, 7] (fun v ds H' => ∃ a b : Nat, v = b ∧ a ≤ 4611686018427387904 ∧ b ≤ 4611686018427387904 ∧ Nat.gcd a b = Nat.gcd num.natAbs den ∧ ds = [.p (.int .i64 num), .p (.int .i64 den), .p (.int .i64 a), .p (.int .i64 b)] ∧ H' = []) den ⟨num.natAbs, den, rfl, by omega, hd.2, rfl, rfl, rfl⟩ ?_
  rintro v ds H' ⟨a, b, rfl, ha, hb, hg, rfl, rfl⟩ -
  simp only [go_sem, reduceIte, Nat.reduceEqDiff]
  refine Cm_split ?_ ?_ <;> intro h <;> simp only [bne_iff_ne, bne_eq_false_iff_eq, ne_eq] at h
  · simp only [go_sem, reduceIte, Nat.reduceEqDiff]
    refine Rm_need h ?_
    simp only [go_sem, reduceIte, Nat.reduceEqDiff]
    rw [tmod_nat]
    have hp : 0 < v := by omega
    refine Xm_inv_n (a % v) (Nat.mod_lt _ hp) ⟨v, a % v, rfl, hb, by have := Nat.mod_lt a hp; omega, ?_, rfl, rfl⟩
    · rw [Nat.gcd_comm, ← Nat.gcd_rec, Nat.gcd_comm, hg]
  · obtain rfl : v = 0 := by omega
    rw [Nat.gcd_zero_right] at hg
    subst hg
    simp only [go_sem, reduceIte, Nat.reduceEqDiff]
    refine Rm_need (by first | omega | (simp; omega)) ?_
    simp only [go_sem, reduceIte, Nat.reduceEqDiff]
    refine Rm_need (by first | omega | (simp; omega)) ?_
    simp only [go_sem, reduceIte, Nat.reduceEqDiff]
    rw [w64 (tdiv_in h0), w64 (tdiv_in (by omega))]
    exact ret_gen (frac num den) (frac num den) [] rfl rfl rfl ⟨rfl, rfl⟩

theorem sum_in {c : Int} : ∀ {xs : List Int}, (∀ x ∈ xs, -c ≤ x ∧ x ≤ c) → -(c * xs.length) ≤ xs.sum ∧ xs.sum ≤ c * xs.length
  | [], _ => by simp
  | x :: xs, h => by
    have h1 := h x (by simp)
    have h2 := sum_in (xs := xs) fun y hy => h y (by simp [hy])
    simp only [List.sum_cons, List.length_cons, Int.natCast_add, Int.natCast_one, Int.mul_add, Int.mul_one]
    omega

theorem sum_step {xs : List Int} {i : Nat} {a : Int} (h : xs[i]? = some a) : (xs.take (i + 1)).sum = (xs.take i).sum + a := by
  rw [List.take_add_one, h]
  simp

theorem take_in {c : Int} {xs : List Int} (h : ∀ x ∈ xs, -c ≤ x ∧ x ≤ c) (i : Nat) : ∀ x ∈ xs.take i, -c ≤ x ∧ x ≤ c := fun x hx => h x (List.mem_of_mem_take hx)

/-- samples -/
def Good (xs : List Int) : Prop := (∀ x ∈ xs, -100000 ≤ x ∧ x ≤ 100000) ∧ xs.length ≤ 30

set_option maxRecDepth 100000 in
set_option maxHeartbeats 16000000 in
/-- impl.sum -/
theorem k_sum (xs : List Int) (hg : Good xs) : Okv Try.prog 61 [slI .i64 xs] (.p (.int .i64 xs.sum)) := by
  refine ok_D hmix c_impl_sum (by simp) ?_
  obtain ⟨hg, hl⟩ := hg
  simp only [envOf, envFrom, go_sem, reduceIte, Nat.reduceEqDiff]
  refine Dm_loop [3, 6, 7, 8] (fun m ds H' => ∃ i : Nat, i ≤ xs.length ∧ m = xs.length - i ∧ ds = [.p (.int .i64 (xs.take i).sum), .p (slI .i64 xs), .p (.int .i64 xs.length), .p (.int .i64 i)] ∧ H' = []) xs.length ⟨0, by simp, by simp, rfl, rfl⟩ ?_
  rintro m ds H' ⟨i, hi', rfl, rfl, rfl⟩ -
  simp only [go_sem, reduceIte, Nat.reduceEqDiff]
  refine Cm_split ?_ ?_ <;> intro h <;> simp only [decide_eq_true_eq, decide_eq_false_iff_not] at h
  · have hlt : i < xs.length := by omega
    obtain ⟨a, ha, hm⟩ := row_at hlt
    have hs := sum_in (take_in hg (i + 1))
    have h3 : (xs.take (i + 1)).length ≤ 30 := by rw [List.length_take]; omega
    simp only [go_sem, reduceIte, Nat.reduceEqDiff]
    refine Rm_need (by first | omega | (simp; omega)) ?_
    simp only [go_sem, reduceIte, Nat.reduceEqDiff]
    refine Rm_ints a (by simpa using ha) ?_
    simp only [go_sem, reduceIte, Nat.reduceEqDiff]
    rw [← sum_step ha, w64 (by omega), w64 (by omega)]
    exact Xm_inv_n (xs.length - (i + 1)) (by omega) ⟨i + 1, by omega, rfl, rfl, rfl⟩
  · obtain rfl : i = xs.length := by omega
    simp only [go_sem, reduceIte, Nat.reduceEqDiff]
    rw [List.take_length]
    exact ret_p rfl ⟨rfl, rfl⟩

set_option maxRecDepth 100000 in
set_option maxHeartbeats 16000000 in
/-- spec.l26Sum -/
theorem k_l26Sum (xs : List Int) (hg : Good xs) : Okv Try.prog 59 [slI .i64 xs] (.p (.int .i64 xs.sum)) := by
  refine ok_D hmix c_spec_l26Sum (by simp) ?_
  obtain ⟨hg, hl⟩ := hg
  simp only [envOf, envFrom, go_sem]
  refine Dm_loop [0, 3, 4] (fun m ds H' => ∃ i : Nat, i ≤ xs.length ∧ m = xs.length - i ∧ ds = [.p (slI .i64 xs), .p (.int .i64 (xs.take i).sum), .p (.int .i64 i)] ∧ H' = []) xs.length ⟨0, by simp, by simp, rfl, rfl⟩ ?_
  rintro m ds H' ⟨i, hi', rfl, rfl, rfl⟩ -
  simp only [go_sem, reduceIte, Nat.reduceEqDiff]
  refine Cm_split ?_ ?_ <;> intro h <;> simp only [decide_eq_true_eq, decide_eq_false_iff_not] at h
  · have hlt : i < xs.length := by omega
    obtain ⟨a, ha, hm⟩ := row_at hlt
    have hs := sum_in (take_in hg (i + 1))
    have h3 : (xs.take (i + 1)).length ≤ 30 := by rw [List.length_take]; omega
    simp only [go_sem, reduceIte, Nat.reduceEqDiff]
    refine Rm_need (by first | omega | (simp; omega)) ?_
    simp only [go_sem, reduceIte, Nat.reduceEqDiff]
    refine Rm_ints a (by simpa using ha) ?_
    simp only [go_sem, reduceIte, Nat.reduceEqDiff]
    rw [← sum_step ha, w64 (by omega), w64 (by omega)]
    exact Xm_inv_n (xs.length - (i + 1)) (by omega) ⟨i + 1, by omega, rfl, rfl, rfl⟩
  · obtain rfl : i = xs.length := by omega
    simp only [go_sem, reduceIte, Nat.reduceEqDiff]
    rw [List.take_length]
    exact ret_p rfl ⟨rfl, rfl⟩

def goodB (xs : List Int) : Bool := decide (∀ x ∈ xs, -100000 ≤ x ∧ x ≤ 100000) && decide (xs.length ≤ 30)
def someB (xs : List Int) : Bool := goodB xs && decide (0 < xs.length)
theorem good_of {xs : List Int} (h : goodB xs = true) : Good xs := by
  simp only [goodB, Bool.and_eq_true, decide_eq_true_eq] at h
  exact h
theorem some_of {xs : List Int} (h : someB xs = true) : Good xs ∧ 0 < xs.length := by
  simp only [someB, Bool.and_eq_true, decide_eq_true_eq] at h
  exact ⟨good_of h.1, h.2⟩

set_option maxRecDepth 100000 in
set_option maxHeartbeats 16000000 in
/-- spec.l26Some -/
theorem k_l26Some (xs : List Int) (hb : xs.length ≤ 1048576) : Okv Try.prog 50 [slI .i64 xs] (.p (.bool (someB xs))) := by
  refine ok_D hmix c_spec_l26Some (by simp) ?_
  simp only [envOf, envFrom, go_sem, reduceIte, Nat.reduceEqDiff, Nat.reduceBEq]
  refine Rm_v (d0 := .p (.bool (goodB xs))) (k_l26Good xs hb) rfl trivial ?_
  simp only [go_sem, reduceIte, Nat.reduceEqDiff, Nat.reduceBEq]
  refine Sm_split ?_ ?_ <;> intro h
  · simp only [go_sem, reduceIte, Nat.reduceEqDiff, Nat.reduceBEq]
    refine ret_p rfl ⟨pb ?_, rfl⟩
    simp only [someB, h, Bool.true_and, decide_eq_true_eq]
    omega
  · simp only [go_sem, reduceIte, Nat.reduceEqDiff]
    refine ret_p rfl ⟨pb ?_, rfl⟩
    simp [someB, h]

set_option maxRecDepth 100000 in
set_option maxHeartbeats 16000000 in
/-- impl.areSamples -/
theorem k_areSamples (xs : List Int) (hb : xs.length ≤ 1048576) : Okv Try.prog 51 [slI .i64 xs] (.p (.bool (someB xs))) := by
  refine ok_D hmix c_impl_areSamples (by simp) ?_
  simp only [envOf, envFrom, go_sem, reduceIte, Nat.reduceEqDiff, Nat.reduceBEq]
  refine Rm_v (d0 := .p (.bool (goodB xs))) (k_iValid xs hb) rfl trivial ?_
  simp only [go_sem, reduceIte, Nat.reduceEqDiff, Nat.reduceBEq]
  refine Sm_split ?_ ?_ <;> intro h
  · simp only [go_sem, reduceIte, Nat.reduceEqDiff, Nat.reduceBEq]
    refine ret_p rfl ⟨pb ?_, rfl⟩
    simp only [someB, h, Bool.true_and, decide_eq_true_eq]
    omega
  · simp only [go_sem, reduceIte, Nat.reduceEqDiff]
    refine ret_p rfl ⟨pb ?_, rfl⟩
    simp [someB, h]

/-- two numbers, and whether there are any -/
def tri (o : Int × Int × Bool) : DV := .tup [.p (.int .i64 o.1), .p (.int .i64 o.2.1), .p (.bool o.2.2)]
theorem tri_det {o : Int × Int × Bool} : detD (tri o) := ⟨trivial, trivial, trivial, trivial⟩
def fracO (num : Int) (den : Nat) : Int × Int × Bool := (num.tdiv (Nat.gcd num.natAbs den), (den : Int).tdiv (Nat.gcd num.natAbs den), true)
theorem frac_det {num : Int} {den : Nat} : detD (frac num den) := ⟨trivial, trivial, trivial⟩
def noneO : Int × Int × Bool := (0, 0, false)
attribute [go_sem] frac tri

def meanO (xs : List Int) : Int × Int × Bool := if someB xs then fracO xs.sum xs.length else noneO

set_option maxRecDepth 100000 in
set_option maxHeartbeats 16000000 in
/-- spec.SampleMean -/
theorem k_sMean (xs : List Int) (hb : xs.length ≤ 1048576) : Okv Try.prog 27 [slI .i64 xs] (tri (meanO xs)) := by
  refine ok_D hmix c_spec_SampleMean (by simp) ?_
  simp only [envOf, envFrom, go_sem, reduceIte, Nat.reduceEqDiff]
  refine Rm_v (k_l26Some xs hb) rfl trivial ?_
  cases h : someB xs
  · simp only [go_sem, reduceIte, Nat.reduceEqDiff]
    exact ret_gen (tri noneO) (tri noneO) [] rfl rfl rfl ⟨by simp [meanO, h, tri, normC], rfl⟩
  · obtain ⟨hg, hp⟩ := some_of h
    have hs := sum_in hg.1
    have h3 := hg.2
    simp only [go_sem, reduceIte, Nat.reduceEqDiff]
    refine Rm_v (k_l26Sum xs hg) rfl trivial ?_
    simp only [go_sem, reduceIte, Nat.reduceEqDiff]
    refine Rm_v (k_reduce xs.sum xs.length (by omega) (by omega)) rfl frac_det ?_
    simp only [go_sem, reduceIte, Nat.reduceEqDiff]
    exact ret_gen (tri (fracO xs.sum xs.length)) (tri (fracO xs.sum xs.length)) [] rfl rfl rfl ⟨by simp [meanO, h, tri, normC], rfl⟩
set_option maxRecDepth 100000 in
set_option maxHeartbeats 16000000 in
/-- impl.SampleMean -/
theorem k_iMean (xs : List Int) (hb : xs.length ≤ 1048576) : Okv Try.prog 28 [slI .i64 xs] (tri (meanO xs)) := by
  refine ok_D hmix c_impl_SampleMean (by simp) ?_
  simp only [envOf, envFrom, go_sem, reduceIte, Nat.reduceEqDiff]
  refine Rm_v (k_areSamples xs hb) rfl trivial ?_
  cases h : someB xs
  · simp only [go_sem, reduceIte, Nat.reduceEqDiff]
    exact ret_gen (tri noneO) (tri noneO) [] rfl rfl rfl ⟨by simp [meanO, h, tri, normC], rfl⟩
  · obtain ⟨hg, hp⟩ := some_of h
    have hs := sum_in hg.1
    have h3 := hg.2
    simp only [go_sem, reduceIte, Nat.reduceEqDiff]
    refine Rm_v (k_sum xs hg) rfl trivial ?_
    simp only [go_sem, reduceIte, Nat.reduceEqDiff]
    refine Rm_v (k_fraction xs.sum xs.length (by omega) (by omega)) rfl frac_det ?_
    simp only [go_sem, reduceIte, Nat.reduceEqDiff]
    exact ret_gen (tri (fracO xs.sum xs.length)) (tri (fracO xs.sum xs.length)) [] rfl rfl rfl ⟨by simp [meanO, h, tri, normC], rfl⟩

set_option maxRecDepth 100000 in
set_option maxHeartbeats 16000000 in
/-- laws.FnExactSampleMean -/
theorem k_FnExactSampleMean (xs : List Int) (_ : W64s xs) : Okv Try.prog 7 [slI .i64 xs] (.p (.bool true)) := by
  refine ok_D hmix c_laws_FnExactSampleMean (by simp) ?_
  simp only [envOf, envFrom, go_sem, reduceIte, Nat.reduceEqDiff]
  refine Cm_split ?_ ?_ <;> intro h <;> simp only [decide_eq_true_eq, decide_eq_false_iff_not] at h
  · simp only [go_sem]
    exact ret_p rfl ⟨rfl, rfl⟩
  · have hb : xs.length ≤ 1048576 := by omega
    simp only [go_sem, reduceIte, Nat.reduceEqDiff]
    refine Rm_o (k_toIntS xs hb) rfl ?_
    rintro r H2 ⟨rfl, rfl⟩
    simp only [go_sem, reduceIte, Nat.reduceEqDiff]
    refine Rm_v (k_sMean xs hb) (by simp [viewOfs, viewOf, List.take_of_length_le]) tri_det ?_
    simp only [go_sem, reduceIte, Nat.reduceEqDiff]
    refine Rm_o (k_toIntS xs hb) rfl ?_
    rintro r H2 ⟨rfl, rfl⟩
    simp only [go_sem, reduceIte, Nat.reduceEqDiff]
    refine Rm_v (k_iMean xs hb) (by simp [viewOfs, viewOf, List.take_of_length_le]) tri_det ?_
    simp only [go_sem, reduceIte, Nat.reduceEqDiff, Nat.reduceBEq]
    refine Rm_o (k_toIntS xs hb) rfl ?_
    rintro r H2 ⟨rfl, rfl⟩
    simp only [go_sem, reduceIte, Nat.reduceEqDiff, Nat.reduceAdd]
    refine Rm_v (k_eqIntS xs xs hb) (by simp [viewOfs, viewOf, List.take_of_length_le]) trivial ?_
    simp only [go_sem, reduceIte, Nat.reduceEqDiff]
    exact ret_p rfl ⟨rfl, rfl⟩
end Go.Proofs.Ytdpmfgkmioaddaa

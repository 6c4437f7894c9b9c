import Derived.Test.YtdpmfgkmioaddaaSums
namespace Go.Proofs.Ytdpmfgkmioaddaa
open Go.Dv Go.Dv.EvL
attribute [local irreducible] Ok Rm Dm Om Sm Xm Cm Gm Hm Tm

theorem mul_in {a b : Int} {A B : Nat} (ha : -(A : Int) ≤ a ∧ a ≤ A) (hb : -(B : Int) ≤ b ∧ b ≤ B) : -((A * B : Nat) : Int) ≤ a * b ∧ a * b ≤ (A * B : Nat) := by
  have h := Nat.mul_le_mul (show a.natAbs ≤ A by omega) (show b.natAbs ≤ B by omega)
  rw [← Int.natAbs_mul] at h
  omega

/-- a sum of the first i -/
def sumTo (f : Nat → Int) : Nat → Int
  | 0 => 0
  | i + 1 => sumTo f i + f i

theorem sumTo_in {f : Nat → Int} {C n : Nat} (h : ∀ j, j < n → -(C : Int) ≤ f j ∧ f j ≤ C) : ∀ i, i ≤ n → -((C * i : Nat) : Int) ≤ sumTo f i ∧ sumTo f i ≤ (C * i : Nat)
  | 0, _ => by simp [sumTo]
  | i + 1, hi => by
    have h1 := sumTo_in h i (by omega)
    have h2 := h i (by omega)
    rw [Nat.mul_add]
    simp only [sumTo]
    omega

def sqO (xs : List Int) (i : Nat) : Int := sumTo (fun j => xs.getD j 0 * xs.getD j 0) i

theorem getD_of {xs : List Int} {i : Nat} {a : Int} (h : xs[i]? = some a) : xs.getD i 0 = a := by rw [List.getD_eq_getElem?_getD, h]; rfl

theorem getD_in {xs : List Int} (hg : Good xs) (j : Nat) : -((100000 : Nat) : Int) ≤ xs.getD j 0 ∧ xs.getD j 0 ≤ (100000 : Nat) := by
  cases h : xs[j]? with
  | none => rw [List.getD_eq_getElem?_getD, h]; simp
  | some a =>
    rw [getD_of h]
    have := hg.1 a (List.mem_of_getElem? h)
    omega

theorem sq_in {xs : List Int} (hg : Good xs) {i : Nat} (hi : i ≤ 30) : -((300000000000 : Nat) : Int) ≤ sqO xs i ∧ sqO xs i ≤ (300000000000 : Nat) := by
  have := sumTo_in (f := fun j => xs.getD j 0 * xs.getD j 0) (C := 10000000000) (n := 30) (fun j _ => mul_in (getD_in hg j) (getD_in hg j)) i hi
  unfold sqO
  omega

def varO (xs : List Int) : Int × Int × Bool := if someB xs then fracO (xs.length * sqO xs xs.length - xs.sum * xs.sum) (xs.length * xs.length) else noneO

theorem var_in {xs : List Int} (hg : Good xs) : -((9000000000000 : Nat) : Int) ≤ xs.length * sqO xs xs.length ∧ xs.length * sqO xs xs.length ≤ (9000000000000 : Nat) ∧ -((9000000000000 : Nat) : Int) ≤ xs.sum * xs.sum ∧ xs.sum * xs.sum ≤ (9000000000000 : Nat) := by
  have h1 := mul_in (a := xs.length) (A := 30) (by have := hg.2; omega) (sq_in hg hg.2)
  have h2 := sum_in hg.1
  have h3 : -((3000000 : Nat) : Int) ≤ xs.sum ∧ xs.sum ≤ (3000000 : Nat) := by have := hg.2; omega
  have h4 := mul_in h3 h3
  omega

set_option maxRecDepth 100000 in
set_option maxHeartbeats 16000000 in
/-- spec.SampleVariance -/
theorem k_sVar (xs : List Int) (hb : xs.length ≤ 1048576) : Okv Try.prog 31 [slI .i64 xs] (tri (varO xs)) := by
  refine ok_D hmix c_spec_SampleVariance (by simp) ?_
  simp only [envOf, envFrom, go_sem, reduceIte, Nat.reduceEqDiff]
  refine Rm_v (k_l26Some xs hb) rfl trivial ?_
  cases h : someB xs
  · simp only [go_sem, reduceIte, Nat.reduceEqDiff]
    exact ret_gen (tri noneO) (tri noneO) [] rfl rfl rfl ⟨by simp [varO, h, tri, normC], rfl⟩
  · obtain ⟨hg, hp⟩ := some_of h
    have h3 := hg.2
    simp only [go_sem, reduceIte, Nat.reduceEqDiff]
    refine Rm_v (k_l26Sum xs hg) rfl trivial ?_
    simp only [go_sem, reduceIte, Nat.reduceEqDiff]
    refine Dm_loop [0, 5, 6, 7, 8] (fun m ds H' => ∃ i : Nat, i ≤ xs.length ∧ m = xs.length - i ∧ ds = [.p (slI .i64 xs), .p (.int .i64 (sqO xs i)), .p (.int .i64 xs.sum), .p (.int .i64 xs.length), .p (.int .i64 i)] ∧ H' = []) xs.length ⟨0, by simp, by simp, rfl, rfl⟩ ?_
    rintro m ds H' ⟨i, hi', rfl, rfl, rfl⟩ -
    simp only [go_sem, reduceIte, Nat.reduceEqDiff]
    refine Cm_split ?_ ?_ <;> intro h4 <;> simp only [decide_eq_true_eq, decide_eq_false_iff_not] at h4
    · have hlt : i < xs.length := by omega
      obtain ⟨a, ha, hm⟩ := row_at hlt
      have hs := sq_in hg (i := i + 1) (by omega)
      have hq := mul_in (getD_in hg i) (getD_in hg i)
      have e : sqO xs (i + 1) = sqO xs i + xs.getD i 0 * xs.getD i 0 := rfl
      rw [getD_of ha] at hq e
      simp only [go_sem, reduceIte, Nat.reduceEqDiff]
      refine Rm_need (by first | omega | (simp; omega)) ?_
      simp only [go_sem, reduceIte, Nat.reduceEqDiff]
      refine Rm_ints a (by simpa using ha) ?_
      simp only [go_sem, reduceIte, Nat.reduceEqDiff]
      refine Rm_need (by first | omega | (simp; omega)) ?_
      simp only [go_sem, reduceIte, Nat.reduceEqDiff]
      refine Rm_ints a (by simpa using ha) ?_
      simp only [go_sem, reduceIte, Nat.reduceEqDiff]
      rw [w64 (n := a * a) (by omega), ← e, w64 (by omega), w64 (by omega)]
      exact Xm_inv_n (xs.length - (i + 1)) (by omega) ⟨i + 1, by omega, rfl, rfl, rfl⟩
    · obtain rfl : i = xs.length := by omega
      have hv := var_in hg
      simp only [go_sem, reduceIte, Nat.reduceEqDiff]
      rw [w64 (n := xs.length * sqO xs xs.length) (by omega), w64 (n := xs.sum * xs.sum) (by omega), w64 (by omega), ← Int.natCast_mul, w64 (by have := Nat.mul_le_mul h3 h3; omega)]
      refine Rm_v (k_reduce _ (xs.length * xs.length) (by omega) (by have := Nat.mul_le_mul h3 h3; have := Nat.mul_pos hp hp; omega)) rfl frac_det ?_
      simp only [go_sem, reduceIte, Nat.reduceEqDiff]
      exact ret_gen (tri (varO xs)) (tri (varO xs)) [] (by simp [varO, h, fracO, tri, resD, resAll, resOne, Go.Dv.get]) rfl rfl ⟨rfl, rfl⟩

set_option maxRecDepth 100000 in
set_option maxHeartbeats 16000000 in
/-- impl.SampleVariance -/
theorem k_iVar (xs : List Int) (hb : xs.length ≤ 1048576) : Okv Try.prog 32 [slI .i64 xs] (tri (varO xs)) := by
  refine ok_D hmix c_impl_SampleVariance (by simp) ?_
  simp only [envOf, envFrom, go_sem, reduceIte, Nat.reduceEqDiff]
  refine Rm_v (k_areSamples xs hb) rfl trivial ?_
  cases h : someB xs
  · simp only [go_sem, reduceIte, Nat.reduceEqDiff]
    exact ret_gen (tri noneO) (tri noneO) [] rfl rfl rfl ⟨by simp [varO, h, tri, normC], rfl⟩
  · obtain ⟨hg, hp⟩ := some_of h
    have h3 := hg.2
    simp only [go_sem, reduceIte, Nat.reduceEqDiff]
    refine Dm_loop [0, 5, 6, 16, 17, 18] (fun m ds H' => ∃ i : Nat, i ≤ xs.length ∧ m = xs.length - i ∧ ds = [.p (slI .i64 xs), .p (.int .i64 (sqO xs i)), .p (.int .i64 xs.length), .p (slI .i64 xs), .p (.int .i64 xs.length), .p (.int .i64 i)] ∧ H' = []) xs.length ⟨0, by simp, by simp, rfl, rfl⟩ ?_
    rintro m ds H' ⟨i, hi', rfl, rfl, rfl⟩ -
    simp only [go_sem, reduceIte, Nat.reduceEqDiff]
    refine Cm_split ?_ ?_ <;> intro h4 <;> simp only [decide_eq_true_eq, decide_eq_false_iff_not] at h4
    · have hlt : i < xs.length := by omega
      obtain ⟨a, ha, hm⟩ := row_at hlt
      have hs := sq_in hg (i := i + 1) (by omega)
      have hq := mul_in (getD_in hg i) (getD_in hg i)
      have e : sqO xs (i + 1) = sqO xs i + xs.getD i 0 * xs.getD i 0 := rfl
      rw [getD_of ha] at hq e
      simp only [go_sem, reduceIte, Nat.reduceEqDiff]
      refine Rm_need (by first | omega | (simp; omega)) ?_
      simp only [go_sem, reduceIte, Nat.reduceEqDiff]
      refine Rm_ints a (by simpa using ha) ?_
      simp only [go_sem, reduceIte, Nat.reduceEqDiff]
      rw [w64 (n := a * a) (by omega), ← e, w64 (by omega), w64 (by omega)]
      exact Xm_inv_n (xs.length - (i + 1)) (by omega) ⟨i + 1, by omega, rfl, rfl, rfl⟩
    · obtain rfl : i = xs.length := by omega
      have hv := var_in hg
      simp only [go_sem, reduceIte, Nat.reduceEqDiff]
      refine Rm_v (k_sum xs hg) rfl trivial ?_
      simp only [go_sem, reduceIte, Nat.reduceEqDiff]
      refine Rm_v (k_sum xs hg) rfl trivial ?_
      simp only [go_sem, reduceIte, Nat.reduceEqDiff]
      rw [w64 (n := xs.length * sqO xs xs.length) (by omega), w64 (n := xs.sum * xs.sum) (by omega), w64 (by omega), ← Int.natCast_mul, w64 (by have := Nat.mul_le_mul h3 h3; omega)]
      refine Rm_v (k_fraction _ (xs.length * xs.length) (by omega) (by have := Nat.mul_le_mul h3 h3; have := Nat.mul_pos hp hp; omega)) rfl frac_det ?_
      simp only [go_sem, reduceIte, Nat.reduceEqDiff]
      exact ret_gen (tri (varO xs)) (tri (varO xs)) [] (by simp [varO, h, fracO, tri, resD, resAll, resOne, Go.Dv.get]) rfl rfl ⟨rfl, rfl⟩

set_option maxRecDepth 100000 in
set_option maxHeartbeats 16000000 in
/-- laws.FnExactSampleVariance -/
theorem k_FnExactSampleVariance (xs : List Int) (_ : W64s xs) : Okv Try.prog 9 [slI .i64 xs] (.p (.bool true)) := by
  refine ok_D hmix c_laws_FnExactSampleVariance (by simp) ?_
  simp only [envOf, envFrom, go_sem, reduceIte, Nat.reduceEqDiff]
  refine Cm_split ?_ ?_ <;> intro h <;> simp only [decide_eq_true_eq, decide_eq_false_iff_not] at h
  · simp only [go_sem]
    exact ret_p rfl ⟨rfl, rfl⟩
  · have hb : xs.length ≤ 1048576 := by omega
    simp only [go_sem, reduceIte, Nat.reduceEqDiff]
    refine Rm_o (k_toIntS xs hb) rfl ?_
    rintro r H2 ⟨rfl, rfl⟩
    simp only [go_sem, reduceIte, Nat.reduceEqDiff]
    refine Rm_v (k_sVar xs hb) (by simp [viewOfs, viewOf, List.take_of_length_le]) tri_det ?_
    simp only [go_sem, reduceIte, Nat.reduceEqDiff]
    refine Rm_o (k_toIntS xs hb) rfl ?_
    rintro r H2 ⟨rfl, rfl⟩
    simp only [go_sem, reduceIte, Nat.reduceEqDiff]
    refine Rm_v (k_iVar xs hb) (by simp [viewOfs, viewOf, List.take_of_length_le]) tri_det ?_
    simp only [go_sem, reduceIte, Nat.reduceEqDiff, Nat.reduceBEq]
    refine Rm_o (k_toIntS xs hb) rfl ?_
    rintro r H2 ⟨rfl, rfl⟩
    simp only [go_sem, reduceIte, Nat.reduceEqDiff, Nat.reduceAdd]
    refine Rm_v (k_eqIntS xs xs hb) (by simp [viewOfs, viewOf, List.take_of_length_le]) trivial ?_
    simp only [go_sem, reduceIte, Nat.reduceEqDiff]
    exact ret_p rfl ⟨rfl, rfl⟩

def siO (i : Nat) : Int := sumTo (fun j => (j : Int)) i
def siiO (i : Nat) : Int := sumTo (fun j => (j : Int) * j) i
def sixO (xs : List Int) (i : Nat) : Int := sumTo (fun j => (j : Int) * xs.getD j 0) i
theorem si_in {i : Nat} (hi : i ≤ 30) : -((900 : Nat) : Int) ≤ siO i ∧ siO i ≤ (900 : Nat) := by
  have := sumTo_in (f := fun j => (j : Int)) (C := 30) (n := 30) (fun j _ => by omega) i hi
  unfold siO
  omega
theorem jj_in {j : Nat} (hj : j ≤ 30) : -((900 : Nat) : Int) ≤ (j : Int) * j ∧ (j : Int) * j ≤ (900 : Nat) := mul_in (a := j) (b := j) (A := 30) (B := 30) (by omega) (by omega)
theorem sii_in {i : Nat} (hi : i ≤ 30) : -((27000 : Nat) : Int) ≤ siiO i ∧ siiO i ≤ (27000 : Nat) := by
  have := sumTo_in (f := fun j => (j : Int) * j) (C := 900) (n := 30) (fun j hj => jj_in (by omega)) i hi
  unfold siiO
  omega
theorem jx_in {xs : List Int} (hg : Good xs) {j : Nat} (hj : j ≤ 30) : -((3000000 : Nat) : Int) ≤ (j : Int) * xs.getD j 0 ∧ (j : Int) * xs.getD j 0 ≤ (3000000 : Nat) := mul_in (a := j) (A := 30) (by omega) (getD_in hg j)
theorem six_in {xs : List Int} (hg : Good xs) {i : Nat} (hi : i ≤ 30) : -((90000000 : Nat) : Int) ≤ sixO xs i ∧ sixO xs i ≤ (90000000 : Nat) := by
  have := sumTo_in (f := fun j => (j : Int) * xs.getD j 0) (C := 3000000) (n := 30) (fun j hj => jx_in hg (by omega)) i hi
  unfold sixO
  omega
theorem den_pos : ∀ n : Nat, n ≤ 30 → 2 ≤ n → 0 < (n : Int) * siiO n - siO n * siO n ∧ (n : Int) * siiO n - siO n * siO n ≤ 1000000 := by decide +kernel

def slopeB (xs : List Int) : Bool := goodB xs && decide (2 ≤ xs.length)
def denO (n : Nat) : Nat := ((n : Int) * siiO n - siO n * siO n).toNat
def slopeO (xs : List Int) : Int × Int × Bool := if slopeB xs then fracO (xs.length * sixO xs xs.length - siO xs.length * xs.sum) (denO xs.length) else noneO

theorem slope_in {xs : List Int} (hg : Good xs) : -((2700000000 : Nat) : Int) ≤ xs.length * sixO xs xs.length ∧ xs.length * sixO xs xs.length ≤ (2700000000 : Nat) ∧ -((2700000000 : Nat) : Int) ≤ siO xs.length * xs.sum ∧ siO xs.length * xs.sum ≤ (2700000000 : Nat) ∧
    -((810000 : Nat) : Int) ≤ xs.length * siiO xs.length ∧ xs.length * siiO xs.length ≤ (810000 : Nat) ∧ -((810000 : Nat) : Int) ≤ siO xs.length * siO xs.length ∧ siO xs.length * siO xs.length ≤ (810000 : Nat) := by
  have h0 := hg.2
  have h1 := mul_in (a := xs.length) (A := 30) (by omega) (six_in hg hg.2)
  have h2 := sum_in hg.1
  have h3 : -((3000000 : Nat) : Int) ≤ xs.sum ∧ xs.sum ≤ (3000000 : Nat) := by omega
  have h4 := mul_in (si_in hg.2) h3
  have h5 := mul_in (a := xs.length) (A := 30) (by omega) (sii_in hg.2)
  have h6 := mul_in (si_in hg.2) (si_in hg.2)
  omega

set_option maxRecDepth 100000 in
set_option maxHeartbeats 16000000 in
/-- spec.SlopeOf -/
theorem k_sSlope (xs : List Int) (hb : xs.length ≤ 1048576) : Okv Try.prog 33 [slI .i64 xs] (tri (slopeO xs)) := by
  refine ok_D hmix c_spec_SlopeOf (by simp) ?_
  simp only [envOf, envFrom, go_sem, reduceIte, Nat.reduceEqDiff, Nat.reduceBEq]
  refine Rm_v (d0 := .p (.bool (goodB xs))) (k_l26Good xs hb) rfl trivial ?_
  have hnone : slopeB xs = false → tri noneO = tri (slopeO xs) := fun h => by simp [slopeO, h]
  cases h : goodB xs
  · simp only [go_sem, reduceIte, Nat.reduceEqDiff, Nat.reduceBEq]
    exact ret_gen (tri noneO) (tri noneO) [] rfl rfl rfl ⟨hnone (by simp [slopeB, h]), rfl⟩
  · simp only [go_sem, reduceIte, Nat.reduceEqDiff, Nat.reduceBEq]
    refine Cm_split ?_ ?_ <;> intro h2 <;> simp only [decide_eq_true_eq, decide_eq_false_iff_not] at h2
    · simp only [go_sem]
      exact ret_gen (tri noneO) (tri noneO) [] rfl rfl rfl ⟨hnone (by simp [slopeB]; omega), rfl⟩
    · have hg := good_of h
      have h3 := hg.2
      have hs : slopeB xs = true := by simp only [slopeB, h, Bool.true_and, decide_eq_true_eq]; omega
      simp only [go_sem]
      refine Dm_loop [0, 5, 6, 7, 8, 9] (fun m ds H' => ∃ i : Nat, i ≤ xs.length ∧ m = xs.length - i ∧ ds = [.p (slI .i64 xs), .p (.int .i64 xs.length), .p (.int .i64 (siO i)), .p (.int .i64 (sixO xs i)), .p (.int .i64 (siiO i)), .p (.int .i64 i)] ∧ H' = []) xs.length ⟨0, by simp, by simp, rfl, rfl⟩ ?_
      rintro m ds H' ⟨i, hi', rfl, rfl, rfl⟩ -
      simp only [go_sem, reduceIte, Nat.reduceEqDiff]
      refine Cm_split ?_ ?_ <;> intro h4 <;> simp only [decide_eq_true_eq, decide_eq_false_iff_not] at h4
      · have hlt : i < xs.length := by omega
        obtain ⟨a, ha, hm⟩ := row_at hlt
        have q1 := si_in (i := i + 1) (by omega)
        have q2 := sii_in (i := i + 1) (by omega)
        have q3 := six_in hg (i := i + 1) (by omega)
        have q4 := jj_in (j := i) (by omega)
        have q5 := jx_in hg (j := i) (by omega)
        have e1 : siO (i + 1) = siO i + i := rfl
        have e2 : siiO (i + 1) = siiO i + (i : Int) * i := rfl
        have e3 : sixO xs (i + 1) = sixO xs i + (i : Int) * xs.getD i 0 := rfl
        rw [getD_of ha] at q5 e3
        simp only [go_sem, reduceIte, Nat.reduceEqDiff]
        refine Rm_need (by first | omega | (simp; omega)) ?_
        simp only [go_sem, reduceIte, Nat.reduceEqDiff]
        refine Rm_ints a (by simpa using ha) ?_
        simp only [go_sem, reduceIte, Nat.reduceEqDiff]
        rw [w64 (n := (i : Int) * a) (by omega), w64 (n := (i : Int) * i) (by omega), ← e1, ← e2, ← e3, w64 (by omega), w64 (by omega), w64 (by omega), w64 (by omega)]
        exact Xm_inv_n (xs.length - (i + 1)) (by omega) ⟨i + 1, by omega, rfl, rfl, rfl⟩
      · obtain rfl : i = xs.length := by omega
        have hv := slope_in hg
        have hd := den_pos xs.length h3 (by omega)
        have hd2 : ((denO xs.length : Nat) : Int) = xs.length * siiO xs.length - siO xs.length * siO xs.length := by unfold denO; omega
        simp only [go_sem, reduceIte, Nat.reduceEqDiff]
        refine Rm_v (k_l26Sum xs hg) rfl trivial ?_
        simp only [go_sem, reduceIte, Nat.reduceEqDiff]
        rw [w64 (n := xs.length * sixO xs xs.length) (by omega), w64 (n := siO xs.length * xs.sum) (by omega), w64 (n := xs.length * siiO xs.length) (by omega), w64 (n := siO xs.length * siO xs.length) (by omega), ← hd2, w64 (by omega), w64 (by omega)]
        refine Rm_v (k_reduce _ (denO xs.length) (by omega) (by omega)) rfl frac_det ?_
        simp only [go_sem, reduceIte, Nat.reduceEqDiff]
        exact ret_gen (tri (slopeO xs)) (tri (slopeO xs)) [] (by simp [slopeO, hs, fracO, tri, resD, resAll, resOne, Go.Dv.get]) rfl rfl ⟨rfl, rfl⟩

set_option maxRecDepth 100000 in
set_option maxHeartbeats 16000000 in
/-- impl.SlopeOf -/
theorem k_iSlope (xs : List Int) (hb : xs.length ≤ 1048576) : Okv Try.prog 34 [slI .i64 xs] (tri (slopeO xs)) := by
  refine ok_D hmix c_impl_SlopeOf (by simp) ?_
  simp only [envOf, envFrom, go_sem, reduceIte, Nat.reduceEqDiff, Nat.reduceBEq]
  refine Rm_v (k_areSamples xs hb) rfl trivial ?_
  have hnone : slopeB xs = false → tri noneO = tri (slopeO xs) := fun h => by simp [slopeO, h]
  cases h : someB xs
  · simp only [go_sem, reduceIte, Nat.reduceEqDiff, Nat.reduceBEq]
    refine ret_gen (tri noneO) (tri noneO) [] rfl rfl rfl ⟨hnone ?_, rfl⟩
    simp only [someB, Bool.and_eq_false_iff, decide_eq_false_iff_not] at h
    rcases h with h | h
    · simp [slopeB, h]
    · simp only [slopeB, Bool.and_eq_false_iff, decide_eq_false_iff_not]
      omega
  · obtain ⟨hg, hp⟩ := some_of h
    have hgb : goodB xs = true := by simp only [someB, Bool.and_eq_true] at h; exact h.1
    simp only [go_sem, reduceIte, Nat.reduceEqDiff, Nat.reduceBEq]
    refine Cm_split ?_ ?_ <;> intro h2 <;> simp only [beq_iff_eq, beq_eq_false_iff_ne, ne_eq] at h2
    · simp only [go_sem]
      exact ret_gen (tri noneO) (tri noneO) [] rfl rfl rfl ⟨hnone (by simp [slopeB]; omega), rfl⟩
    · have h3 := hg.2
      have hs : slopeB xs = true := by simp only [slopeB, hgb, Bool.true_and, decide_eq_true_eq]; omega
      simp only [go_sem, reduceIte, Nat.reduceEqDiff]
      refine Dm_loop [0, 5, 6, 7, 8, 23, 24, 25] (fun m ds H' => ∃ i : Nat, i ≤ xs.length ∧ m = xs.length - i ∧ ds = [.p (slI .i64 xs), .p (.int .i64 xs.length), .p (.int .i64 (siO i)), .p (.int .i64 (siiO i)), .p (.int .i64 (sixO xs i)), .p (slI .i64 xs), .p (.int .i64 xs.length), .p (.int .i64 i)] ∧ H' = []) xs.length ⟨0, by simp, by simp, rfl, rfl⟩ ?_
      rintro m ds H' ⟨i, hi', rfl, rfl, rfl⟩ -
      simp only [go_sem, reduceIte, Nat.reduceEqDiff]
      refine Cm_split ?_ ?_ <;> intro h4 <;> simp only [decide_eq_true_eq, decide_eq_false_iff_not] at h4
      · have hlt : i < xs.length := by omega
        obtain ⟨a, ha, hm⟩ := row_at hlt
        have q1 := si_in (i := i + 1) (by omega)
        have q2 := sii_in (i := i + 1) (by omega)
        have q3 := six_in hg (i := i + 1) (by omega)
        have q4 := jj_in (j := i) (by omega)
        have q5 := jx_in hg (j := i) (by omega)
        have e1 : siO (i + 1) = siO i + i := rfl
        have e2 : siiO (i + 1) = siiO i + (i : Int) * i := rfl
        have e3 : sixO xs (i + 1) = sixO xs i + (i : Int) * xs.getD i 0 := rfl
        rw [getD_of ha] at q5 e3
        simp only [go_sem, reduceIte, Nat.reduceEqDiff]
        refine Rm_need (by first | omega | (simp; omega)) ?_
        simp only [go_sem, reduceIte, Nat.reduceEqDiff]
        refine Rm_ints a (by simpa using ha) ?_
        simp only [go_sem, reduceIte, Nat.reduceEqDiff]
        rw [w64 (n := (i : Int) * a) (by omega), w64 (n := (i : Int) * i) (by omega), ← e1, ← e2, ← e3, w64 (by omega), w64 (by omega), w64 (by omega), w64 (by omega)]
        exact Xm_inv_n (xs.length - (i + 1)) (by omega) ⟨i + 1, by omega, rfl, rfl, rfl⟩
      · obtain rfl : i = xs.length := by omega
        have hv := slope_in hg
        have hd := den_pos xs.length h3 (by omega)
        have hd2 : ((denO xs.length : Nat) : Int) = xs.length * siiO xs.length - siO xs.length * siO xs.length := by unfold denO; omega
        simp only [go_sem, reduceIte, Nat.reduceEqDiff]
        refine Rm_v (k_sum xs hg) rfl trivial ?_
        simp only [go_sem, reduceIte, Nat.reduceEqDiff]
        rw [w64 (n := xs.length * sixO xs xs.length) (by omega), w64 (n := siO xs.length * xs.sum) (by omega), w64 (n := xs.length * siiO xs.length) (by omega), w64 (n := siO xs.length * siO xs.length) (by omega), ← hd2, w64 (by omega), w64 (by omega)]
        refine Rm_v (k_fraction _ (denO xs.length) (by omega) (by omega)) rfl frac_det ?_
        simp only [go_sem, reduceIte, Nat.reduceEqDiff]
        exact ret_gen (tri (slopeO xs)) (tri (slopeO xs)) [] (by simp [slopeO, hs, fracO, tri, resD, resAll, resOne, Go.Dv.get]) rfl rfl ⟨rfl, rfl⟩

set_option maxRecDepth 100000 in
set_option maxHeartbeats 16000000 in
/-- laws.FnExactSlopeOf -/
theorem k_FnExactSlopeOf (xs : List Int) (_ : W64s xs) : Okv Try.prog 10 [slI .i64 xs] (.p (.bool true)) := by
  refine ok_D hmix c_laws_FnExactSlopeOf (by simp) ?_
  simp only [envOf, envFrom, go_sem, reduceIte, Nat.reduceEqDiff]
  refine Cm_split ?_ ?_ <;> intro h <;> simp only [decide_eq_true_eq, decide_eq_false_iff_not] at h
  · simp only [go_sem]
    exact ret_p rfl ⟨rfl, rfl⟩
  · have hb : xs.length ≤ 1048576 := by omega
    simp only [go_sem, reduceIte, Nat.reduceEqDiff]
    refine Rm_o (k_toIntS xs hb) rfl ?_
    rintro r H2 ⟨rfl, rfl⟩
    simp only [go_sem, reduceIte, Nat.reduceEqDiff]
    refine Rm_v (k_sSlope xs hb) (by simp [viewOfs, viewOf, List.take_of_length_le]) tri_det ?_
    simp only [go_sem, reduceIte, Nat.reduceEqDiff]
    refine Rm_o (k_toIntS xs hb) rfl ?_
    rintro r H2 ⟨rfl, rfl⟩
    simp only [go_sem, reduceIte, Nat.reduceEqDiff]
    refine Rm_v (k_iSlope xs hb) (by simp [viewOfs, viewOf, List.take_of_length_le]) tri_det ?_
    simp only [go_sem, reduceIte, Nat.reduceEqDiff, Nat.reduceBEq]
    refine Rm_o (k_toIntS xs hb) rfl ?_
    rintro r H2 ⟨rfl, rfl⟩
    simp only [go_sem, reduceIte, Nat.reduceEqDiff, Nat.reduceAdd]
    refine Rm_v (k_eqIntS xs xs hb) (by simp [viewOfs, viewOf, List.take_of_length_le]) trivial ?_
    simp only [go_sem, reduceIte, Nat.reduceEqDiff]
    exact ret_p rfl ⟨rfl, rfl⟩
end Go.Proofs.Ytdpmfgkmioaddaa

import Derived.Test.YtgpalnoopmjlpaaBits6
namespace Go.Proofs.Ytgpalnoopmjlpaa
open Go.Dv Go.Dv.EvL
attribute [local irreducible] Ok Rm Dm Om Sm Xm Cm Gm Hm Tm

/-- the syndrome's number -/
def synN (s : List UInt8) : Nat := valB (s.drop (s.length - 12)) ^^^ parN (s.take (s.length - 12))
def sndB (s : List UInt8) : Bool := decide (synN s = 0)
theorem parN_lt (s : List UInt8) : parN s < 4096 := parTo_lt s _
theorem synN_lt {s : List UInt8} (hb : s.all bitP = true) (hl : 12 ≤ s.length) : synN s < 2 ^ 12 := by
  have h1 := valB_lt 12 (s.drop (s.length - 12)) (by rw [List.length_drop]; omega) (drop_bits hb)
  have h2 := parN_lt (s.take (s.length - 12))
  exact Nat.xor_lt_two_pow h1 (by omega)
theorem bits_none : ∀ (d v : Nat), (bitsN v d).count 49 = 0 → ∀ j, j < d → v.testBit j = false
  | 0, _, _, _, h => by omega
  | d + 1, v, h, j, hj => by
    rw [bitsN, List.count_cons] at h
    have h1 : v.testBit d = false := by
      cases hv : v.testBit d
      · rfl
      · rw [hv] at h
        exact absurd h (by show ¬ (_ + 1 = 0); omega)
    rcases Nat.lt_or_ge j d with h2 | h2
    · exact bits_none d v (by omega) j h2
    · obtain rfl : j = d := by omega
      exact h1
theorem count_zero {v : Nat} (h : v < 2 ^ 12) : (bitsN v 12).count 49 = 0 ↔ v = 0 := by
  constructor
  · intro h1
    have h2 := bits_none 12 v h1
    refine Nat.eq_of_testBit_eq fun j => ?_
    rw [Nat.zero_testBit]
    rcases Nat.lt_or_ge j 12 with h3 | h3
    · exact h2 j h3
    · exact Nat.testBit_lt_two_pow (Nat.lt_of_lt_of_le h (Nat.pow_le_pow_right (by omega) h3))
  · rintro rfl
    decide
theorem syn_text {s : List UInt8} (hb : s.all bitP = true) (hl : 12 ≤ s.length) : xorB (s.drop (s.length - 12)) (bitsN (parN (s.take (s.length - 12))) 12) = bitsN (synN s) 12 := by
  have e := bitsN_val 12 (s.drop (s.length - 12)) (by rw [List.length_drop]; omega) (drop_bits hb)
  have := xor_bitsN (valB (s.drop (s.length - 12))) (parN (s.take (s.length - 12))) 12
  rw [e] at this
  exact this
set_option maxRecDepth 100000 in
set_option maxHeartbeats 16000000 in
/-- impl.syndromeOf -/
theorem k_syndromeOf (s : List UInt8) (hb : s.all bitP = true) (h1 : 12 ≤ s.length) (hl : s.length ≤ 900) : Okv Try.prog 108 [.str s] (.p (.str (bitsN (synN s) 12))) := by
  refine ok_D hmix c_impl_syndromeOf (by simp) ?_
  have h2 := k_parityOf (s.take (s.length - 12)) (take_bits hb) (by rw [List.length_take]; omega)
  have h3 := k_xorBits (s.drop (s.length - 12)) (bitsN (parN (s.take (s.length - 12))) 12) (by rw [List.length_drop]; omega) (by rw [bits_len, List.length_drop]; omega)
  rw [syn_text hb h1] at h3
  have hn : (s.length : Int) - 12 = ((s.length - 12 : Nat) : Int) := by omega
  have hd : (s.drop (s.length - 12)).take (s.length - (s.length - 12)) = s.drop (s.length - 12) := List.take_of_length_le (by rw [List.length_drop]; omega)
  have hn1 : s.length - 12 ≤ s.length := by omega
  generalize hk : s.length - 12 = k at *
  simp only [envOf, envFrom, go_sem, reduceIte, Nat.reduceEqDiff]
  repeat' (first
    | (simp only [go_sem, reduceIte, Nat.reduceEqDiff])
    | (simp (disch := omega) only [w64])
    | (refine Rm_need (by first | exact True.intro | omega | (simp; omega)) ?_)
    | (rw [hn])
    | (refine Rm_w rfl (h2) (by trivial) ?_)
    | (refine Rm_w ?_ (h2) (by trivial) ?_; · (simp [viewOfs, viewOf, List.take_of_length_le, cutL]; done))
    | (refine Rm_w rfl (h3) (by trivial) ?_)
    | (refine Rm_w ?_ (h3) (by trivial) ?_; · (simp [viewOfs, viewOf, List.take_of_length_le, cutL]; done))
    | (rw [hd])
    | (refine Rm_gi (by first | omega | (simp; omega)) ?_)
    | (refine Rm_gb (by first | omega | (simp; omega)) ?_)
    | (refine Rm_ga (by first | omega | (simp; omega)) _ rfl (Nat.le_of_ble_eq_true rfl) ?_)
    | (refine Rm_gm (by first | omega | (simp; omega)) _ rfl ?_)
    | (refine Rm_part _ _ rfl rfl ?_)
    | (refine Rm_puti (by first | omega | (simp; omega)) rfl ?_)
    | (refine Dm_draw [] (by simp) ?_)
    | (refine Tm_both ?_ ?_)
    | (refine Tm_fin (by simp only [hideOK, newsE]; simp []) ?_)
    | (refine Cm_split (fun h => ?_) (fun h => ?_) <;> (try (simp only [decide_eq_true_eq, decide_eq_false_iff_not, bne_iff_ne, beq_iff_eq, bne_eq_false_iff_eq, beq_eq_false_iff_ne, Bool.not_eq_true, Bool.not_eq_true', Bool.not_eq_false, Bool.not_eq_false', ne_eq, Bool.and_eq_true, Bool.or_eq_true, true_eq_decide_iff, false_eq_decide_iff] at h)) <;> (try omega))
    | (refine Gm_split (fun h => ?_) (fun h => ?_) <;> (try simp only [ne_eq, Bool.not_eq_true, Bool.not_eq_false] at h) <;> (try rw [h]) <;> (try (simp only [decide_eq_true_eq, decide_eq_false_iff_not, bne_iff_ne, beq_iff_eq, bne_eq_false_iff_eq, beq_eq_false_iff_ne, Bool.not_eq_true, Bool.not_eq_true', Bool.not_eq_false, Bool.not_eq_false', ne_eq, Bool.and_eq_true, Bool.or_eq_true, true_eq_decide_iff, false_eq_decide_iff] at h)) <;> (try omega))
    | (refine Sm_split (fun h => ?_) (fun h => ?_) <;> (try (simp only [decide_eq_true_eq, decide_eq_false_iff_not, bne_iff_ne, beq_iff_eq, bne_eq_false_iff_eq, beq_eq_false_iff_ne, Bool.not_eq_true, Bool.not_eq_true', Bool.not_eq_false, Bool.not_eq_false', ne_eq, Bool.and_eq_true, Bool.or_eq_true, true_eq_decide_iff, false_eq_decide_iff] at h)) <;> (try omega))
    | (exact ret_p rfl ⟨rfl, rfl⟩)
    | (refine ret_okv (by first | trivial | simp only [go_sem, detD, detDs, detP, and_self, and_true]) ?_)
    | (exact ret_gen _ _ _ rfl rfl rfl ⟨rfl, rfl⟩)
    | (simp only [Option.some.injEq, DV.tup.injEq, DV.p.injEq, List.cons.injEq, PV.int.injEq, PV.bool.injEq, PV.str.injEq, and_true, true_and])
    | rfl
    | (refine Bool.eq_iff_iff.2 ?_; simp only [decide_eq_true_eq, Bool.and_eq_true, Bool.or_eq_true, Bool.not_eq_true', decide_eq_false_iff_not, Bool.false_eq_true, beq_iff_eq, bne_iff_ne, ne_eq, false_iff, iff_false, true_iff, iff_true]; omega)
    | omega)
  all_goals skip
set_option maxRecDepth 100000 in
set_option maxHeartbeats 16000000 in
/-- impl.isSound -/
theorem k_isSound (s : List UInt8) (hb : s.all bitP = true) (h1 : 12 ≤ s.length) (hl : s.length ≤ 900) : Okv Try.prog 100 [.str s] (.p (.bool (sndB s))) := by
  refine ok_D hmix c_impl_isSound (by simp) ?_
  have h2 := k_syndromeOf s hb h1 hl
  have h3 := k_ones (bitsN (synN s) 12) (by rw [bits_len]; omega)
  have h4 := count_zero (synN_lt hb h1)
  have h5 : (decide (((bitsN (synN s) 12).count 49 : Int) = 0)) = sndB s := by
    unfold sndB
    rw [decide_eq_decide, ← h4]
    omega
  generalize bitsN (synN s) 12 = Y at *
  simp only [envOf, envFrom, go_sem, reduceIte, Nat.reduceEqDiff]
  repeat' (first
    | (simp only [go_sem, reduceIte, Nat.reduceEqDiff])
    | (simp (disch := omega) only [w64, w8, bytesOf_cons, tmod10, tdiv10, tn48, nsub1, nadd1, nsub, nadd, nmul, List.take_length, Int.toNat_zero, Int.reduceAdd, Int.reduceSub, Int.reduceToNat, Int.reduceMul, Nat.sub_zero, Nat.min_self])
    | (refine Rm_need (by first | exact True.intro | omega | (simp; omega)) ?_)
    | (refine Rm_w rfl (h2) (by trivial) ?_)
    | (refine Rm_w ?_ (h2) (by trivial) ?_; · (simp [viewOfs, viewOf, List.take_of_length_le, cutL]; done))
    | (refine Rm_w rfl (h3) (by trivial) ?_)
    | (refine Rm_w ?_ (h3) (by trivial) ?_; · (simp [viewOfs, viewOf, List.take_of_length_le, cutL]; done))
    | (refine Rm_gi (by first | omega | (simp; omega)) ?_)
    | (refine Rm_gb (by first | omega | (simp; omega)) ?_)
    | (refine Rm_ga (by first | omega | (simp; omega)) _ rfl (Nat.le_of_ble_eq_true rfl) ?_)
    | (refine Rm_gm (by first | omega | (simp; omega)) _ rfl ?_)
    | (refine Rm_part _ _ rfl rfl ?_)
    | (refine Rm_puti (by first | omega | (simp; omega)) rfl ?_)
    | (refine Dm_draw [] (by simp) ?_)
    | (refine Tm_both ?_ ?_)
    | (refine Tm_fin (by simp only [hideOK, newsE]; simp []) ?_)
    | (refine Cm_split (fun h => ?_) (fun h => ?_) <;> (try (simp only [decide_eq_true_eq, decide_eq_false_iff_not, bne_iff_ne, beq_iff_eq, bne_eq_false_iff_eq, beq_eq_false_iff_ne, Bool.not_eq_true, Bool.not_eq_true', Bool.not_eq_false, Bool.not_eq_false', ne_eq, Bool.and_eq_true, Bool.or_eq_true, true_eq_decide_iff, false_eq_decide_iff] at h)) <;> (try omega))
    | (refine Gm_split (fun h => ?_) (fun h => ?_) <;> (try simp only [ne_eq, Bool.not_eq_true, Bool.not_eq_false] at h) <;> (try rw [h]) <;> (try (simp only [decide_eq_true_eq, decide_eq_false_iff_not, bne_iff_ne, beq_iff_eq, bne_eq_false_iff_eq, beq_eq_false_iff_ne, Bool.not_eq_true, Bool.not_eq_true', Bool.not_eq_false, Bool.not_eq_false', ne_eq, Bool.and_eq_true, Bool.or_eq_true, true_eq_decide_iff, false_eq_decide_iff] at h)) <;> (try omega))
    | (refine Sm_split (fun h => ?_) (fun h => ?_) <;> (try (simp only [decide_eq_true_eq, decide_eq_false_iff_not, bne_iff_ne, beq_iff_eq, bne_eq_false_iff_eq, beq_eq_false_iff_ne, Bool.not_eq_true, Bool.not_eq_true', Bool.not_eq_false, Bool.not_eq_false', ne_eq, Bool.and_eq_true, Bool.or_eq_true, true_eq_decide_iff, false_eq_decide_iff] at h)) <;> (try omega))
    | (exact ret_p rfl ⟨rfl, rfl⟩)
    | (refine ret_okv (by first | trivial | simp only [go_sem, detD, detDs, detP, and_self, and_true]) ?_)
    | (exact ret_gen _ _ _ rfl rfl rfl ⟨rfl, rfl⟩)
    | (simp only [Option.some.injEq, DV.p.injEq, PV.bool.injEq])
    | rfl
    | (refine Bool.eq_iff_iff.2 ?_; simp only [beq_iff_eq]; omega)
    | omega)
  all_goals skip
set_option maxRecDepth 100000 in
set_option maxHeartbeats 16000000 in
/-- spec.l4Syndrome -/
theorem k_l4Syndrome (s : List UInt8) (hb : s.all bitP = true) (h1 : 12 ≤ s.length) (hl : s.length ≤ 900) : Okv Try.prog 83 [.str s] (.p (.int .i64 (synN s : Nat))) := by
  refine ok_D hmix c_spec_l4Syndrome (by simp) ?_
  have h2 := k_l4Parity (s.take (s.length - 12)) (by rw [List.length_take]; omega)
  have h3 := k_l2Number (s.drop (s.length - 12)) (drop_bits hb) (by rw [List.length_drop]; omega)
  have hv := valB_lt 12 (s.drop (s.length - 12)) (by rw [List.length_drop]; omega) (drop_bits hb)
  have hp := parN_lt (s.take (s.length - 12))
  have hx : bitsV .xor .i64 (parN (s.take (s.length - 12)) : Nat) (valB (s.drop (s.length - 12)) : Nat) = ((synN s : Nat) : Int) := by
    rw [xor_nat (by omega) (by omega), Nat.xor_comm]
    rfl
  have hn : (s.length : Int) - 12 = ((s.length - 12 : Nat) : Int) := by omega
  have hd : (s.drop (s.length - 12)).take (s.length - (s.length - 12)) = s.drop (s.length - 12) := List.take_of_length_le (by rw [List.length_drop]; omega)
  have hn1 : s.length - 12 ≤ s.length := by omega
  generalize hk : s.length - 12 = k at *
  simp only [envOf, envFrom, go_sem, reduceIte, Nat.reduceEqDiff]
  repeat' (first
    | (simp only [go_sem, reduceIte, Nat.reduceEqDiff])
    | (simp (disch := omega) only [w64])
    | (refine Rm_need (by first | exact True.intro | omega | (simp; omega)) ?_)
    | (rw [hn])
    | (refine Rm_w rfl (h2) (by trivial) ?_)
    | (refine Rm_w ?_ (h2) (by trivial) ?_; · (simp [viewOfs, viewOf, List.take_of_length_le, cutL]; done))
    | (refine Rm_w rfl (h3) (by trivial) ?_)
    | (refine Rm_w ?_ (h3) (by trivial) ?_; · (simp [viewOfs, viewOf, List.take_of_length_le, cutL]; done))
    | (rw [hd])
    | (rw [hx])
    | (refine Rm_gi (by first | omega | (simp; omega)) ?_)
    | (refine Rm_gb (by first | omega | (simp; omega)) ?_)
    | (refine Rm_ga (by first | omega | (simp; omega)) _ rfl (Nat.le_of_ble_eq_true rfl) ?_)
    | (refine Rm_gm (by first | omega | (simp; omega)) _ rfl ?_)
    | (refine Rm_part _ _ rfl rfl ?_)
    | (refine Rm_puti (by first | omega | (simp; omega)) rfl ?_)
    | (refine Dm_draw [] (by simp) ?_)
    | (refine Tm_both ?_ ?_)
    | (refine Tm_fin (by simp only [hideOK, newsE]; simp []) ?_)
    | (refine Cm_split (fun h => ?_) (fun h => ?_) <;> (try (simp only [decide_eq_true_eq, decide_eq_false_iff_not, bne_iff_ne, beq_iff_eq, bne_eq_false_iff_eq, beq_eq_false_iff_ne, Bool.not_eq_true, Bool.not_eq_true', Bool.not_eq_false, Bool.not_eq_false', ne_eq, Bool.and_eq_true, Bool.or_eq_true, true_eq_decide_iff, false_eq_decide_iff] at h)) <;> (try omega))
    | (refine Gm_split (fun h => ?_) (fun h => ?_) <;> (try simp only [ne_eq, Bool.not_eq_true, Bool.not_eq_false] at h) <;> (try rw [h]) <;> (try (simp only [decide_eq_true_eq, decide_eq_false_iff_not, bne_iff_ne, beq_iff_eq, bne_eq_false_iff_eq, beq_eq_false_iff_ne, Bool.not_eq_true, Bool.not_eq_true', Bool.not_eq_false, Bool.not_eq_false', ne_eq, Bool.and_eq_true, Bool.or_eq_true, true_eq_decide_iff, false_eq_decide_iff] at h)) <;> (try omega))
    | (refine Sm_split (fun h => ?_) (fun h => ?_) <;> (try (simp only [decide_eq_true_eq, decide_eq_false_iff_not, bne_iff_ne, beq_iff_eq, bne_eq_false_iff_eq, beq_eq_false_iff_ne, Bool.not_eq_true, Bool.not_eq_true', Bool.not_eq_false, Bool.not_eq_false', ne_eq, Bool.and_eq_true, Bool.or_eq_true, true_eq_decide_iff, false_eq_decide_iff] at h)) <;> (try omega))
    | (exact ret_p rfl ⟨rfl, rfl⟩)
    | (refine ret_okv (by first | trivial | simp only [go_sem, detD, detDs, detP, and_self, and_true]) ?_)
    | (exact ret_gen _ _ _ rfl rfl rfl ⟨rfl, rfl⟩)
    | (simp only [Option.some.injEq, DV.tup.injEq, DV.p.injEq, List.cons.injEq, PV.int.injEq, PV.bool.injEq, PV.str.injEq, and_true, true_and])
    | rfl
    | (refine Bool.eq_iff_iff.2 ?_; simp only [decide_eq_true_eq, Bool.and_eq_true, Bool.or_eq_true, Bool.not_eq_true', decide_eq_false_iff_not, Bool.false_eq_true, beq_iff_eq, bne_iff_ne, ne_eq, false_iff, iff_false, true_iff, iff_true]; omega)
    | omega)
  all_goals skip
end Go.Proofs.Ytgpalnoopmjlpaa

import Derived.Test.YtgpalnoopmjlpaaBits
namespace Go.Proofs.Ytgpalnoopmjlpaa
open Go.Dv Go.Dv.EvL
attribute [local irreducible] Ok Rm Dm Om Sm Xm Cm Gm Hm Tm

/-! ### texts of bits as numbers -/
def bitP (c : UInt8) : Bool := decide (c = 48) || decide (c = 49)
def valB (s : List UInt8) : Nat := s.foldl (fun n c => 2 * n + (c.toNat - 48)) 0
theorem valB_snoc (s : List UInt8) (c : UInt8) : valB (s ++ [c]) = 2 * valB s + (c.toNat - 48) := by
  unfold valB
  rw [List.foldl_append]
  rfl
theorem valB_step {s : List UInt8} {i : Nat} (h : i < s.length) : valB (s.take (i + 1)) = 2 * valB (s.take i) + ((s.getD i default).toNat - 48) := by
  rw [take_snoc (d := default) h, valB_snoc]
theorem bitP_in {c : UInt8} (h : bitP c = true) : 48 ≤ c.toNat ∧ c.toNat ≤ 49 := by
  unfold bitP at h
  simp only [Bool.or_eq_true, decide_eq_true_eq] at h
  rcases h with rfl | rfl <;> decide
theorem bits_at {s : List UInt8} {i : Nat} (h : s.all bitP = true) (hi : i < s.length) : 48 ≤ (s.getD i default).toNat ∧ (s.getD i default).toNat ≤ 49 := bitP_in (List.all_eq_true.1 h _ (getD_mem hi))
theorem valB_lt : ∀ (k : Nat) (s : List UInt8), s.length = k → s.all bitP = true → valB s < 2 ^ k
  | 0, s, hl, _ => by
    rw [List.eq_nil_of_length_eq_zero hl]
    simp [valB]
  | k + 1, s, hl, hd => by
    obtain ⟨t, c, rfl⟩ : ∃ t c, s = t ++ [c] := by
      rcases List.eq_nil_or_concat s with rfl | ⟨t, c, e⟩
      · simp at hl
      · exact ⟨t, c, by simpa using e⟩
    rw [List.all_append] at hd
    simp only [List.all_cons, List.all_nil, Bool.and_true, Bool.and_eq_true] at hd
    have hc := bitP_in hd.2
    simp only [List.length_append, List.length_cons, List.length_nil] at hl
    have ih := valB_lt k t (by omega) hd.1
    rw [valB_snoc, Nat.pow_succ]
    omega
theorem bitsN_bits (n : Nat) : ∀ d, (bitsN n d).all bitP = true
  | 0 => rfl
  | d + 1 => by
    rw [bitsN, List.all_cons, bitsN_bits n d]
    cases n.testBit d <;> decide
theorem take_bits {s : List UInt8} {i : Nat} (h : s.all bitP = true) : (s.take i).all bitP = true := by
  rw [List.all_eq_true] at h ⊢
  exact fun c hc => h c (List.mem_of_mem_take hc)
theorem drop_bits {s : List UInt8} {i : Nat} (h : s.all bitP = true) : (s.drop i).all bitP = true := by
  rw [List.all_eq_true] at h ⊢
  exact fun c hc => h c (List.mem_of_mem_drop hc)
theorem valB_small {s : List UInt8} {i : Nat} (h : s.all bitP = true) (hl : s.length ≤ 60) : valB (s.take i) < 1152921504606846976 := by
  have h1 := valB_lt _ (s.take i) rfl (take_bits h)
  have h2 : (s.take i).length ≤ 60 := by rw [List.length_take]; omega
  exact Nat.lt_of_lt_of_le h1 (Nat.le_trans (Nat.pow_le_pow_right (by omega) h2) (by decide))
set_option maxRecDepth 100000 in
set_option maxHeartbeats 16000000 in
/-- impl.numberOf -/
theorem k_numberOf (s : List UInt8) (hb : s.all bitP = true) (hl : s.length ≤ 60) : Okv Try.prog 102 [.str s] (.p (.int .i64 (valB s))) := by
  refine ok_D hmix c_impl_numberOf (by simp) ?_
  simp only [envOf, envFrom, go_sem]
  refine Dm_loop [0, 3, 4] (fun m ds H' => ∃ i : Nat, i ≤ s.length ∧ m = s.length - i ∧ ds = [.p (.str s), .p (.int .i64 (valB (s.take i))), .p (.int .i64 i)] ∧ H' = []) s.length ⟨0, by omega, by omega, rfl, rfl⟩ ?_
  rintro m ds H' ⟨i, hi, rfl, rfl, rfl⟩ -
  have h1 := fun h : i < s.length => valB_step h
  have h2 := valB_small (i := i) hb hl
  have e0 : s.getD i 0 = s.getD i default := rfl
  rcases Nat.lt_or_ge i s.length with hlt | hge
  · have h1 := h1 hlt
    have h3 := bits_at hb hlt
    repeat' (first
      | (simp only [go_sem, reduceIte, Nat.reduceEqDiff])
      | (simp (disch := omega) only [w64, w8, nadd1])
      | (refine Rm_need (by first | exact True.intro | omega | (simp; omega)) ?_)
      | (rw [e0])
      | (refine Rm_gi (by first | omega | (simp; omega)) ?_)
      | (refine Rm_gb (by first | omega | (simp; omega)) ?_)
      | (refine Rm_ga (by first | omega | (simp; omega)) _ rfl (Nat.le_of_ble_eq_true rfl) ?_)
      | (refine Rm_gm (by first | omega | (simp; omega)) _ rfl ?_)
      | (refine Rm_part _ _ rfl rfl ?_)
      | (refine Rm_puti (by first | omega | (simp; omega)) rfl ?_)
      | (refine Dm_draw [] (by simp) ?_)
      | (refine Tm_both ?_ ?_)
      | (refine Tm_fin (by simp only [hideOK, newsE]; simp []) ?_)
      | (refine Cm_split (fun h => ?_) (fun h => ?_) <;> (try (simp only [decide_eq_true_eq, decide_eq_false_iff_not] at h)) <;> (try omega))
      | (refine Gm_split (fun h => ?_) (fun h => ?_) <;> (try simp only [ne_eq, Bool.not_eq_true, Bool.not_eq_false] at h) <;> (try rw [h]) <;> (try (simp only [decide_eq_true_eq, decide_eq_false_iff_not, bne_iff_ne, beq_iff_eq, bne_eq_false_iff_eq, beq_eq_false_iff_ne, Bool.not_eq_true, Bool.not_eq_true', Bool.not_eq_false, Bool.not_eq_false', ne_eq, Bool.and_eq_true, Bool.or_eq_true, true_eq_decide_iff, false_eq_decide_iff] at h)) <;> (try omega))
      | (refine Sm_split (fun h => ?_) (fun h => ?_) <;> (try (simp only [decide_eq_true_eq, decide_eq_false_iff_not, bne_iff_ne, beq_iff_eq, bne_eq_false_iff_eq, beq_eq_false_iff_ne, Bool.not_eq_true, Bool.not_eq_true', Bool.not_eq_false, Bool.not_eq_false', ne_eq, Bool.and_eq_true, Bool.or_eq_true, true_eq_decide_iff, false_eq_decide_iff] at h)) <;> (try omega))
      | (exact ret_p rfl ⟨rfl, rfl⟩)
      | (refine ret_okv (by first | trivial | simp only [go_sem, detD, detDs, detP, and_self, and_true]) ?_)
      | (exact ret_gen _ _ _ rfl rfl rfl ⟨rfl, rfl⟩)
      | (simp only [Option.some.injEq, DV.tup.injEq, DV.p.injEq, List.cons.injEq, PV.int.injEq, PV.bool.injEq, PV.str.injEq, and_true, true_and])
      | rfl
      | (refine Bool.eq_iff_iff.2 ?_; simp only [decide_eq_true_eq, Bool.and_eq_true, Bool.or_eq_true, Bool.not_eq_true', decide_eq_false_iff_not, Bool.false_eq_true, beq_iff_eq, bne_iff_ne, ne_eq, false_iff, iff_false, true_iff, iff_true]; omega)
      | omega)
    all_goals first
      | (refine Xm_inv_n (s.length - (i + 1)) (by omega) ⟨i + 1, by omega, rfl, ?_, rfl⟩
         rw [h1, show ((2 * valB (s.take i) + ((s.getD i default).toNat - 48) : Nat) : Int) = 2 * (valB (s.take i) : Int) + (((s.getD i default).toNat : Int) - 48) from by omega]; rfl)
      | skip
  · rw [List.take_of_length_le hge]
    repeat' (first
      | (simp only [go_sem, reduceIte, Nat.reduceEqDiff])
      | (simp (disch := omega) only [w64, w8, bytesOf_cons, tmod10, tdiv10, tn48, nsub1, nadd1, nsub, nadd, nmul, List.take_length, Int.toNat_zero, Int.reduceAdd, Int.reduceSub, Int.reduceToNat, Int.reduceMul, Nat.sub_zero, Nat.min_self])
      | (refine Rm_need (by first | exact True.intro | omega | (simp; omega)) ?_)
      | (refine Rm_gi (by first | omega | (simp; omega)) ?_)
      | (refine Rm_gb (by first | omega | (simp; omega)) ?_)
      | (refine Rm_ga (by first | omega | (simp; omega)) _ rfl (Nat.le_of_ble_eq_true rfl) ?_)
      | (refine Rm_gm (by first | omega | (simp; omega)) _ rfl ?_)
      | (refine Rm_part _ _ rfl rfl ?_)
      | (refine Rm_puti (by first | omega | (simp; omega)) rfl ?_)
      | (refine Dm_draw [] (by simp) ?_)
      | (refine Tm_both ?_ ?_)
      | (refine Tm_fin (by simp only [hideOK, newsE]; simp []) ?_)
      | (refine Cm_split (fun h => ?_) (fun h => ?_) <;> (try (simp only [decide_eq_true_eq, decide_eq_false_iff_not] at h)) <;> (try omega))
      | (refine Gm_split (fun h => ?_) (fun h => ?_) <;> (try simp only [ne_eq, Bool.not_eq_true, Bool.not_eq_false] at h) <;> (try rw [h]) <;> (try (simp only [decide_eq_true_eq, decide_eq_false_iff_not, bne_iff_ne, beq_iff_eq, bne_eq_false_iff_eq, beq_eq_false_iff_ne, Bool.not_eq_true, Bool.not_eq_true', Bool.not_eq_false, Bool.not_eq_false', ne_eq, Bool.and_eq_true, Bool.or_eq_true, true_eq_decide_iff, false_eq_decide_iff] at h)) <;> (try omega))
      | (refine Sm_split (fun h => ?_) (fun h => ?_) <;> (try (simp only [decide_eq_true_eq, decide_eq_false_iff_not, bne_iff_ne, beq_iff_eq, bne_eq_false_iff_eq, beq_eq_false_iff_ne, Bool.not_eq_true, Bool.not_eq_true', Bool.not_eq_false, Bool.not_eq_false', ne_eq, Bool.and_eq_true, Bool.or_eq_true, true_eq_decide_iff, false_eq_decide_iff] at h)) <;> (try omega))
      | (exact ret_p rfl ⟨rfl, rfl⟩)
      | (refine ret_okv (by first | trivial | simp only [go_sem, detD, detDs, detP, and_self, and_true]) ?_)
      | (exact ret_gen _ _ _ rfl rfl rfl ⟨rfl, rfl⟩)
      | (simp only [Option.some.injEq, DV.tup.injEq, DV.p.injEq, List.cons.injEq, PV.int.injEq, PV.bool.injEq, PV.str.injEq, and_true, true_and])
      | rfl
      | (refine Bool.eq_iff_iff.2 ?_; simp only [decide_eq_true_eq, Bool.and_eq_true, Bool.or_eq_true, Bool.not_eq_true', decide_eq_false_iff_not, Bool.false_eq_true, beq_iff_eq, bne_iff_ne, ne_eq, false_iff, iff_false, true_iff, iff_true]; omega)
      | omega)
set_option maxRecDepth 100000 in
set_option maxHeartbeats 16000000 in
/-- spec.l2Number -/
theorem k_l2Number (s : List UInt8) (hb : s.all bitP = true) (hl : s.length ≤ 60) : Okv Try.prog 94 [.str s] (.p (.int .i64 (valB s))) := by
  refine ok_D hmix c_spec_l2Number (by simp) ?_
  simp only [envOf, envFrom, go_sem]
  refine Dm_loop [0, 3, 4] (fun m ds H' => ∃ i : Nat, i ≤ s.length ∧ m = s.length - i ∧ ds = [.p (.str s), .p (.int .i64 (valB (s.take i))), .p (.int .i64 i)] ∧ H' = []) s.length ⟨0, by omega, by omega, rfl, rfl⟩ ?_
  rintro m ds H' ⟨i, hi, rfl, rfl, rfl⟩ -
  have h1 := fun h : i < s.length => valB_step h
  have h2 := valB_small (i := i) hb hl
  have e0 : s.getD i 0 = s.getD i default := rfl
  rcases Nat.lt_or_ge i s.length with hlt | hge
  · have h1 := h1 hlt
    have h3 := bits_at hb hlt
    repeat' (first
      | (simp only [go_sem, reduceIte, Nat.reduceEqDiff])
      | (simp (disch := omega) only [w64, nadd1])
      | (refine Rm_need (by first | exact True.intro | omega | (simp; omega)) ?_)
      | (rw [e0])
      | (refine Rm_gi (by first | omega | (simp; omega)) ?_)
      | (refine Rm_gb (by first | omega | (simp; omega)) ?_)
      | (refine Rm_ga (by first | omega | (simp; omega)) _ rfl (Nat.le_of_ble_eq_true rfl) ?_)
      | (refine Rm_gm (by first | omega | (simp; omega)) _ rfl ?_)
      | (refine Rm_part _ _ rfl rfl ?_)
      | (refine Rm_puti (by first | omega | (simp; omega)) rfl ?_)
      | (refine Dm_draw [] (by simp) ?_)
      | (refine Tm_both ?_ ?_)
      | (refine Tm_fin (by simp only [hideOK, newsE]; simp []) ?_)
      | (refine Cm_split (fun h => ?_) (fun h => ?_) <;> (try (simp only [decide_eq_true_eq, decide_eq_false_iff_not] at h)) <;> (try omega))
      | (refine Gm_split (fun h => ?_) (fun h => ?_) <;> (try simp only [ne_eq, Bool.not_eq_true, Bool.not_eq_false] at h) <;> (try rw [h]) <;> (try (simp only [decide_eq_true_eq, decide_eq_false_iff_not, bne_iff_ne, beq_iff_eq, bne_eq_false_iff_eq, beq_eq_false_iff_ne, Bool.not_eq_true, Bool.not_eq_true', Bool.not_eq_false, Bool.not_eq_false', ne_eq, Bool.and_eq_true, Bool.or_eq_true, true_eq_decide_iff, false_eq_decide_iff] at h)) <;> (try omega))
      | (refine Sm_split (fun h => ?_) (fun h => ?_) <;> (try (simp only [decide_eq_true_eq, decide_eq_false_iff_not, bne_iff_ne, beq_iff_eq, bne_eq_false_iff_eq, beq_eq_false_iff_ne, Bool.not_eq_true, Bool.not_eq_true', Bool.not_eq_false, Bool.not_eq_false', ne_eq, Bool.and_eq_true, Bool.or_eq_true, true_eq_decide_iff, false_eq_decide_iff] at h)) <;> (try omega))
      | (exact ret_p rfl ⟨rfl, rfl⟩)
      | (refine ret_okv (by first | trivial | simp only [go_sem, detD, detDs, detP, and_self, and_true]) ?_)
      | (exact ret_gen _ _ _ rfl rfl rfl ⟨rfl, rfl⟩)
      | (simp only [Option.some.injEq, DV.tup.injEq, DV.p.injEq, List.cons.injEq, PV.int.injEq, PV.bool.injEq, PV.str.injEq, and_true, true_and])
      | rfl
      | (refine Bool.eq_iff_iff.2 ?_; simp only [decide_eq_true_eq, Bool.and_eq_true, Bool.or_eq_true, Bool.not_eq_true', decide_eq_false_iff_not, Bool.false_eq_true, beq_iff_eq, bne_iff_ne, ne_eq, false_iff, iff_false, true_iff, iff_true]; omega)
      | omega)
    all_goals first
      | (refine Xm_inv_n (s.length - (i + 1)) (by omega) ⟨i + 1, by omega, rfl, ?_, rfl⟩
         rw [h1, show ((2 * valB (s.take i) + ((s.getD i default).toNat - 48) : Nat) : Int) = 2 * (valB (s.take i) : Int) + ((s.getD i default).toNat : Int) - 48 from by omega]; rfl)
      | skip
  · rw [List.take_of_length_le hge]
    repeat' (first
      | (simp only [go_sem, reduceIte, Nat.reduceEqDiff])
      | (simp (disch := omega) only [w64, w8, bytesOf_cons, tmod10, tdiv10, tn48, nsub1, nadd1, nsub, nadd, nmul, List.take_length, Int.toNat_zero, Int.reduceAdd, Int.reduceSub, Int.reduceToNat, Int.reduceMul, Nat.sub_zero, Nat.min_self])
      | (refine Rm_need (by first | exact True.intro | omega | (simp; omega)) ?_)
      | (refine Rm_gi (by first | omega | (simp; omega)) ?_)
      | (refine Rm_gb (by first | omega | (simp; omega)) ?_)
      | (refine Rm_ga (by first | omega | (simp; omega)) _ rfl (Nat.le_of_ble_eq_true rfl) ?_)
      | (refine Rm_gm (by first | omega | (simp; omega)) _ rfl ?_)
      | (refine Rm_part _ _ rfl rfl ?_)
      | (refine Rm_puti (by first | omega | (simp; omega)) rfl ?_)
      | (refine Dm_draw [] (by simp) ?_)
      | (refine Tm_both ?_ ?_)
      | (refine Tm_fin (by simp only [hideOK, newsE]; simp []) ?_)
      | (refine Cm_split (fun h => ?_) (fun h => ?_) <;> (try (simp only [decide_eq_true_eq, decide_eq_false_iff_not] at h)) <;> (try omega))
      | (refine Gm_split (fun h => ?_) (fun h => ?_) <;> (try simp only [ne_eq, Bool.not_eq_true, Bool.not_eq_false] at h) <;> (try rw [h]) <;> (try (simp only [decide_eq_true_eq, decide_eq_false_iff_not, bne_iff_ne, beq_iff_eq, bne_eq_false_iff_eq, beq_eq_false_iff_ne, Bool.not_eq_true, Bool.not_eq_true', Bool.not_eq_false, Bool.not_eq_false', ne_eq, Bool.and_eq_true, Bool.or_eq_true, true_eq_decide_iff, false_eq_decide_iff] at h)) <;> (try omega))
      | (refine Sm_split (fun h => ?_) (fun h => ?_) <;> (try (simp only [decide_eq_true_eq, decide_eq_false_iff_not, bne_iff_ne, beq_iff_eq, bne_eq_false_iff_eq, beq_eq_false_iff_ne, Bool.not_eq_true, Bool.not_eq_true', Bool.not_eq_false, Bool.not_eq_false', ne_eq, Bool.and_eq_true, Bool.or_eq_true, true_eq_decide_iff, false_eq_decide_iff] at h)) <;> (try omega))
      | (exact ret_p rfl ⟨rfl, rfl⟩)
      | (refine ret_okv (by first | trivial | simp only [go_sem, detD, detDs, detP, and_self, and_true]) ?_)
      | (exact ret_gen _ _ _ rfl rfl rfl ⟨rfl, rfl⟩)
      | (simp only [Option.some.injEq, DV.tup.injEq, DV.p.injEq, List.cons.injEq, PV.int.injEq, PV.bool.injEq, PV.str.injEq, and_true, true_and])
      | rfl
      | (refine Bool.eq_iff_iff.2 ?_; simp only [decide_eq_true_eq, Bool.and_eq_true, Bool.or_eq_true, Bool.not_eq_true', decide_eq_false_iff_not, Bool.false_eq_true, beq_iff_eq, bne_iff_ne, ne_eq, false_iff, iff_false, true_iff, iff_true]; omega)
      | omega)
/-! ### where bits differ -/
def xorB (a b : List UInt8) : List UInt8 := List.zipWith (fun x y => if x = y then 48 else 49) a b
theorem xorB_step {a b : List UInt8} {i : Nat} (ha : i < a.length) (hb : i < b.length) : xorB (a.take (i + 1)) (b.take (i + 1)) = xorB (a.take i) (b.take i) ++ [if a.getD i default = b.getD i default then 48 else 49] := by
  unfold xorB
  rw [take_snoc (d := default) ha, take_snoc (d := default) hb, List.zipWith_append (by simp; omega)]
  rfl
theorem xorB_len (a b : List UInt8) (h : a.length = b.length) : (xorB a b).length = a.length := by simp [xorB, h]
set_option maxRecDepth 100000 in
set_option maxHeartbeats 16000000 in
/-- impl.ones -/
theorem k_ones (s : List UInt8) (hl : s.length ≤ 1099511627776) : Okv Try.prog 107 [.str s] (.p (.int .i64 (s.count 49 : Nat))) := by
  refine ok_D hmix c_impl_ones (by simp) ?_
  have h49 : ∀ c : UInt8, (c.toNat : Int) = 49 ↔ c = 49 := fun c => u8_lit (n := 49) (by omega)
  simp only [envOf, envFrom, go_sem]
  refine Dm_loop [0, 3, 4] (fun m ds H' => ∃ i : Nat, i ≤ s.length ∧ m = s.length - i ∧ ds = [.p (.str s), .p (.int .i64 ((s.take i).count 49 : Nat)), .p (.int .i64 i)] ∧ H' = []) s.length ⟨0, by omega, by omega, rfl, rfl⟩ ?_
  rintro m ds H' ⟨i, hi, rfl, rfl, rfl⟩ -
  have h1 : i < s.length → (s.take (i + 1)).count 49 = (s.take i).count 49 + (if s.getD i default = 49 then 1 else 0) := fun h => by
    rw [take_snoc (d := default) h, List.count_append, List.count_singleton]
    simp only [beq_iff_eq]
  have h2 := List.count_le_length (a := (49 : UInt8)) (l := s.take i)
  have h3 : (s.take i).length ≤ s.length := by rw [List.length_take]; omega
  repeat' (first
    | (simp only [go_sem, reduceIte, Nat.reduceEqDiff])
    | (simp (disch := omega) only [w64, nadd1])
    | (refine Rm_need (by first | exact True.intro | omega | (simp; omega)) ?_)
    | (refine Rm_gi (by first | omega | (simp; omega)) ?_)
    | (refine Rm_gb (by first | omega | (simp; omega)) ?_)
    | (refine Rm_ga (by first | omega | (simp; omega)) _ rfl (Nat.le_of_ble_eq_true rfl) ?_)
    | (refine Rm_gm (by first | omega | (simp; omega)) _ rfl ?_)
    | (refine Rm_part _ _ rfl rfl ?_)
    | (refine Rm_puti (by first | omega | (simp; omega)) rfl ?_)
    | (refine Dm_draw [] (by simp) ?_)
    | (refine Tm_both ?_ ?_)
    | (refine Tm_fin (by simp only [hideOK, newsE]; simp []) ?_)
    | (refine Cm_split (fun h => ?_) (fun h => ?_) <;> (try (simp only [decide_eq_true_eq, decide_eq_false_iff_not, beq_iff_eq, beq_eq_false_iff_ne, ne_eq] at h)) <;> (try omega))
    | (refine Gm_split (fun h => ?_) (fun h => ?_) <;> (try simp only [ne_eq, Bool.not_eq_true, Bool.not_eq_false] at h) <;> (try rw [h]) <;> (try (simp only [decide_eq_true_eq, decide_eq_false_iff_not, bne_iff_ne, beq_iff_eq, bne_eq_false_iff_eq, beq_eq_false_iff_ne, Bool.not_eq_true, Bool.not_eq_true', Bool.not_eq_false, Bool.not_eq_false', ne_eq, Bool.and_eq_true, Bool.or_eq_true, true_eq_decide_iff, false_eq_decide_iff] at h)) <;> (try omega))
    | (refine Sm_split (fun h => ?_) (fun h => ?_) <;> (try (simp only [decide_eq_true_eq, decide_eq_false_iff_not, bne_iff_ne, beq_iff_eq, bne_eq_false_iff_eq, beq_eq_false_iff_ne, Bool.not_eq_true, Bool.not_eq_true', Bool.not_eq_false, Bool.not_eq_false', ne_eq, Bool.and_eq_true, Bool.or_eq_true, true_eq_decide_iff, false_eq_decide_iff] at h)) <;> (try omega))
    | (exact ret_p rfl ⟨rfl, rfl⟩)
    | (refine ret_okv (by first | trivial | simp only [go_sem, detD, detDs, detP, and_self, and_true]) ?_)
    | (exact ret_gen _ _ _ rfl rfl rfl ⟨rfl, rfl⟩)
    | (simp only [Option.some.injEq, DV.p.injEq, PV.int.injEq, true_and])
    | rfl
    | (refine Bool.eq_iff_iff.2 ?_; simp only [decide_eq_true_eq, Bool.and_eq_true, Bool.or_eq_true, Bool.not_eq_true', decide_eq_false_iff_not, Bool.false_eq_true, beq_iff_eq, bne_iff_ne, ne_eq, false_iff, iff_false, true_iff, iff_true]; omega)
    | omega)
  all_goals first
    | (refine Xm_inv_n (s.length - (i + 1)) (by omega) ⟨i + 1, by omega, rfl, ?_, rfl⟩
       rw [h1 (by omega), if_pos ((h49 _).1 (by assumption))]; rfl)
    | (refine Xm_inv_n (s.length - (i + 1)) (by omega) ⟨i + 1, by omega, rfl, ?_, rfl⟩
       rw [h1 (by omega), if_neg (fun e => (by assumption : ¬ ((s.getD i default).toNat : Int) = 49) ((h49 _).2 e))]; rfl)
    | (rw [List.take_of_length_le (by omega)])
    | skip
/-! ### the parity -/
def stepP (r : Nat) (b : Bool) : Nat := if 2 * r + b.toNat ≥ 4096 then (2 * r + b.toNat) ^^^ 6159 else 2 * r + b.toNat
def parTo (s : List UInt8) : Nat → Nat
  | 0 => 0
  | i + 1 => stepP (parTo s i) (decide (i < s.length ∧ s.getD i default = 49))
def parN (s : List UInt8) : Nat := parTo s (s.length + 12)
theorem xor_top (v : Nat) (h : v < 4096) : (4096 + v) ^^^ 6159 < 4096 := by
  refine Nat.lt_pow_two_of_testBit (n := 12) _ fun i hi => ?_
  rw [Nat.testBit_xor]
  by_cases h12 : i = 12
  · subst h12
    have e1 : (4096 + v).testBit 12 = true := by
      rw [Nat.testBit_eq_decide_div_mod_eq]
      simp only [decide_eq_true_eq]
      omega
    have e2 : (6159 : Nat).testBit 12 = true := by decide
    rw [e1, e2]
    rfl
  · have hp : (2 : Nat) ^ 13 ≤ 2 ^ i := Nat.pow_le_pow_right (by omega) (by omega)
    rw [Nat.testBit_lt_two_pow (by omega), Nat.testBit_lt_two_pow (by omega)]
    rfl
theorem stepP_lt {r : Nat} (h : r < 4096) (b : Bool) : stepP r b < 4096 := by
  unfold stepP
  have hb : b.toNat ≤ 1 := by cases b <;> decide
  split
  · have := xor_top (2 * r + b.toNat - 4096) (by omega)
    rwa [show 4096 + (2 * r + b.toNat - 4096) = 2 * r + b.toNat from by omega] at this
  · omega
theorem parTo_lt (s : List UInt8) : ∀ i, parTo s i < 4096
  | 0 => by show 0 < 4096; decide
  | i + 1 => stepP_lt (parTo_lt s i) _
theorem xor_nat {a b : Nat} (ha : a < 9223372036854775808) (hb : b < 9223372036854775808) : bitsV .xor .i64 (a : Int) (b : Int) = ((a ^^^ b : Nat) : Int) := by
  have h1 : (BitVec.ofInt 64 (a : Int) ^^^ BitVec.ofInt 64 (b : Int)).toNat = a ^^^ b := by
    rw [BitVec.ofInt_natCast, BitVec.ofInt_natCast, BitVec.toNat_xor, BitVec.toNat_ofNat, BitVec.toNat_ofNat, Nat.mod_eq_of_lt (by omega), Nat.mod_eq_of_lt (by omega)]
  have h2 : a ^^^ b < 2 ^ 63 := Nat.xor_lt_two_pow (by omega) (by omega)
  show IntKind.wrap .i64 ((BitVec.ofInt 64 (a : Int) ^^^ BitVec.ofInt 64 (b : Int)).toNat : Int) = _
  rw [h1, w64 (by omega)]
theorem xor_lit {a : Nat} (ha : a < 9223372036854775808) : bitsV .xor .i64 (a : Int) 6159 = ((a ^^^ 6159 : Nat) : Int) := xor_nat (b := 6159) ha (by decide)
set_option maxRecDepth 100000 in
set_option maxHeartbeats 16000000 in
/-- spec.l4Parity -/
theorem k_l4Parity (s : List UInt8) (hl : s.length ≤ 1099511627776) : Okv Try.prog 93 [.str s] (.p (.int .i64 (parN s : Nat))) := by
  refine ok_D hmix c_spec_l4Parity (by simp) ?_
  have h49 : ∀ c : UInt8, (c.toNat : Int) = 49 ↔ c = 49 := fun c => u8_lit (n := 49) (by omega)
  simp only [envOf, envFrom, go_sem]
  refine Dm_loop [0, 3, 4] (fun m ds H' => ∃ i : Nat, i ≤ s.length + 12 ∧ m = s.length + 12 - i ∧ ds = [.p (.str s), .p (.int .i64 (parTo s i : Nat)), .p (.int .i64 i)] ∧ H' = []) (s.length + 12) ⟨0, by omega, by omega, rfl, rfl⟩ ?_
  rintro m ds H' ⟨i, hi, rfl, rfl, rfl⟩ -
  have hp := parTo_lt s i
  have hst : parTo s (i + 1) = stepP (parTo s i) (decide (i < s.length ∧ s.getD i default = 49)) := rfl
  have e0 : s.getD i 0 = s.getD i default := rfl
  obtain ⟨bt, hbt⟩ : ∃ bt : Bool, decide (i < s.length ∧ s.getD i default = 49) = bt := ⟨_, rfl⟩
  rw [hbt] at hst
  unfold stepP at hst
  generalize hr : parTo s i = r at *
  cases bt
  · have hno : i < s.length → ¬ ((s.getD i default).toNat : Int) = 49 := fun h1 h2 => by
      have := of_decide_eq_false hbt
      exact this ⟨h1, (h49 _).1 h2⟩
    simp only [Bool.toNat_false, Nat.add_zero] at hst
    have hc0 : (2 : Int) * (r : Int) = ((2 * r : Nat) : Int) := by omega
    repeat' (first
      | (simp only [go_sem, reduceIte, Nat.reduceEqDiff, Nat.reduceBEq])
      | (simp (disch := omega) only [w64, nadd1])
      | (refine Rm_need (by first | exact True.intro | omega | (simp; omega)) ?_)
      | (rw [e0])
      | (rw [hc0])
      | (rw [Int.add_zero])
      | (rw [xor_lit (by omega)])
      | (refine Rm_gi (by first | omega | (simp; omega)) ?_)
      | (refine Rm_gb (by first | omega | (simp; omega)) ?_)
      | (refine Rm_ga (by first | omega | (simp; omega)) _ rfl (Nat.le_of_ble_eq_true rfl) ?_)
      | (refine Rm_gm (by first | omega | (simp; omega)) _ rfl ?_)
      | (refine Rm_part _ _ rfl rfl ?_)
      | (refine Rm_puti (by first | omega | (simp; omega)) rfl ?_)
      | (refine Dm_draw [] (by simp) ?_)
      | (refine Tm_both ?_ ?_)
      | (refine Tm_fin (by simp only [hideOK, newsE]; simp []) ?_)
      | (refine Cm_split (fun h => ?_) (fun h => ?_) <;> (try (simp only [decide_eq_true_eq, decide_eq_false_iff_not, beq_iff_eq, beq_eq_false_iff_ne, ne_eq] at h)) <;> (try omega))
      | (refine Gm_split (fun h => ?_) (fun h => ?_) <;> (try simp only [ne_eq, Bool.not_eq_true, Bool.not_eq_false] at h) <;> (try rw [h]) <;> (try (simp only [decide_eq_true_eq, decide_eq_false_iff_not, bne_iff_ne, beq_iff_eq, bne_eq_false_iff_eq, beq_eq_false_iff_ne, Bool.not_eq_true, Bool.not_eq_true', Bool.not_eq_false, Bool.not_eq_false', ne_eq, Bool.and_eq_true, Bool.or_eq_true, true_eq_decide_iff, false_eq_decide_iff] at h)) <;> (try omega))
      | (refine Sm_split (fun h => ?_) (fun h => ?_) <;> (try (simp only [decide_eq_true_eq, decide_eq_false_iff_not] at h)) <;> (try omega))
      | (exact ret_p rfl ⟨rfl, rfl⟩)
      | (refine ret_okv (by first | trivial | simp only [go_sem, detD, detDs, detP, and_self, and_true]) ?_)
      | (exact ret_gen _ _ _ rfl rfl rfl ⟨rfl, rfl⟩)
      | (simp only [Option.some.injEq, DV.p.injEq, PV.int.injEq, true_and])
      | rfl
      | (refine Bool.eq_iff_iff.2 ?_; simp only [decide_eq_true_eq, Bool.and_eq_true, Bool.or_eq_true, Bool.not_eq_true', decide_eq_false_iff_not, Bool.false_eq_true, beq_iff_eq, bne_iff_ne, ne_eq, false_iff, iff_false, true_iff, iff_true]; omega)
      | omega)
    all_goals first
      | (exfalso; exact hno (by omega) (by assumption))
      | (refine Xm_inv_n (s.length + 12 - (i + 1)) (by omega) ⟨i + 1, by omega, by omega, ?_, rfl⟩
         rw [hst, if_pos (by omega)]; rfl)
      | (refine Xm_inv_n (s.length + 12 - (i + 1)) (by omega) ⟨i + 1, by omega, by omega, ?_, rfl⟩
         rw [hst, if_neg (by omega)]; rfl)
      | (unfold parN; rw [show s.length + 12 = i from by omega, hr])
      | skip
  · have hyes := of_decide_eq_true hbt
    have hy2 : ((s.getD i default).toNat : Int) = 49 := by rw [hyes.2]; rfl
    simp only [Bool.toNat_true] at hst
    have hc1 : (2 : Int) * (r : Int) + 1 = ((2 * r + 1 : Nat) : Int) := by omega
    repeat' (first
      | (simp only [go_sem, reduceIte, Nat.reduceEqDiff, Nat.reduceBEq])
      | (simp (disch := omega) only [w64, nadd1])
      | (refine Rm_need (by first | exact True.intro | omega | (simp; omega)) ?_)
      | (rw [e0])
      | (rw [hy2])
      | (rw [hc1])
      | (rw [xor_lit (by omega)])
      | (refine Rm_gi (by first | omega | (simp; omega)) ?_)
      | (refine Rm_gb (by first | omega | (simp; omega)) ?_)
      | (refine Rm_ga (by first | omega | (simp; omega)) _ rfl (Nat.le_of_ble_eq_true rfl) ?_)
      | (refine Rm_gm (by first | omega | (simp; omega)) _ rfl ?_)
      | (refine Rm_part _ _ rfl rfl ?_)
      | (refine Rm_puti (by first | omega | (simp; omega)) rfl ?_)
      | (refine Dm_draw [] (by simp) ?_)
      | (refine Tm_both ?_ ?_)
      | (refine Tm_fin (by simp only [hideOK, newsE]; simp []) ?_)
      | (refine Cm_split (fun h => ?_) (fun h => ?_) <;> (try (simp only [decide_eq_true_eq, decide_eq_false_iff_not] at h)) <;> (try omega))
      | (refine Gm_split (fun h => ?_) (fun h => ?_) <;> (try simp only [ne_eq, Bool.not_eq_true, Bool.not_eq_false] at h) <;> (try rw [h]) <;> (try (simp only [decide_eq_true_eq, decide_eq_false_iff_not, bne_iff_ne, beq_iff_eq, bne_eq_false_iff_eq, beq_eq_false_iff_ne, Bool.not_eq_true, Bool.not_eq_true', Bool.not_eq_false, Bool.not_eq_false', ne_eq, Bool.and_eq_true, Bool.or_eq_true, true_eq_decide_iff, false_eq_decide_iff] at h)) <;> (try omega))
      | (refine Sm_split (fun h => ?_) (fun h => ?_) <;> (try (simp only [decide_eq_true_eq, decide_eq_false_iff_not] at h)) <;> (try omega))
      | (exact ret_p rfl ⟨rfl, rfl⟩)
      | (refine ret_okv (by first | trivial | simp only [go_sem, detD, detDs, detP, and_self, and_true]) ?_)
      | (exact ret_gen _ _ _ rfl rfl rfl ⟨rfl, rfl⟩)
      | (simp only [Option.some.injEq, DV.tup.injEq, DV.p.injEq, List.cons.injEq, PV.int.injEq, PV.bool.injEq, PV.str.injEq, and_true, true_and])
      | rfl
      | (refine Bool.eq_iff_iff.2 ?_; simp only [decide_eq_true_eq, Bool.and_eq_true, Bool.or_eq_true, Bool.not_eq_true', decide_eq_false_iff_not, Bool.false_eq_true, beq_iff_eq, bne_iff_ne, ne_eq, false_iff, iff_false, true_iff, iff_true]; omega)
      | omega)
    all_goals first
      | (refine Xm_inv_n (s.length + 12 - (i + 1)) (by omega) ⟨i + 1, by omega, by omega, ?_, rfl⟩
         rw [hst, if_pos (by omega)]; rfl)
      | (refine Xm_inv_n (s.length + 12 - (i + 1)) (by omega) ⟨i + 1, by omega, by omega, ?_, rfl⟩
         rw [hst, if_neg (by omega)]; rfl)
      | (unfold parN; rw [show s.length + 12 = i from by omega, hr])
      | skip
end Go.Proofs.Ytgpalnoopmjlpaa

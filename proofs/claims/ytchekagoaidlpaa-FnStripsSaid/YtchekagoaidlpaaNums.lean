import Derived.Test.YtchekagoaidlpaaBase
namespace Go.Proofs.Ytchekagoaidlpaa
open Go.Dv Go.Dv.EvL
attribute [local irreducible] Ok Rm Dm Om Sm Xm Cm Gm Hm Tm

/-! ### numbers read -/
def digP (c : UInt8) : Bool := decide (48 ≤ c.toNat ∧ c.toNat ≤ 57)
def valN (s : List UInt8) : Nat := s.foldl (fun n c => 10 * n + (c.toNat - 48)) 0
theorem val_snoc (s : List UInt8) (c : UInt8) : valN (s ++ [c]) = 10 * valN s + (c.toNat - 48) := by
  unfold valN
  rw [List.foldl_append]
  rfl
theorem ofNat_toNat {n : Nat} (h : n < 256) : (UInt8.ofNat n).toNat = n := UInt8.toNat_ofNat_of_lt' (by show n < 256; exact h)
theorem dec_ok : ∀ n : Nat, (dec n).all digP = true ∧ valN (dec n) = n := fun n => by
  induction n using Nat.strongRecOn with
  | ind n ih =>
    by_cases h : n < 10
    · rw [dec_small h]
      have e := ofNat_toNat (n := 48 + n) (by omega)
      refine ⟨?_, ?_⟩
      · simp only [List.all_cons, List.all_nil, Bool.and_true, digP, e, decide_eq_true_eq]
        omega
      · simp only [valN, List.foldl_cons, List.foldl_nil, e]
        omega
    · obtain ⟨h1, h2⟩ := ih (n / 10) (by omega)
      have e := ofNat_toNat (n := 48 + n % 10) (by omega)
      rw [dec_big h]
      refine ⟨?_, ?_⟩
      · rw [List.all_append, h1]
        simp only [List.all_cons, List.all_nil, Bool.and_true, digP, e, decide_eq_true_eq, Bool.true_and]
        omega
      · rw [val_snoc, h2, e]
        omega
theorem dec_head {n : Nat} (h : 0 < n) : (dec n).getD 0 0 ≠ 48 := by
  induction n using Nat.strongRecOn with
  | ind n ih =>
    by_cases h1 : n < 10
    · rw [dec_small h1]
      simp only [List.getD_cons_zero]
      intro e
      have := congrArg UInt8.toNat e
      rw [ofNat_toNat (by omega)] at this
      have : (48 : UInt8).toNat = 48 := rfl
      omega
    · rw [dec_big h1, List.getD_eq_getElem?_getD, List.getElem?_append_left (dec_pos _), ← List.getD_eq_getElem?_getD]
      exact ih (n / 10) (by omega) (by omega)
theorem val_lt : ∀ (k : Nat) (s : List UInt8), s.length = k → s.all digP = true → valN s < 10 ^ k
  | 0, s, hl, _ => by
    rw [List.eq_nil_of_length_eq_zero hl]
    simp [valN]
  | k + 1, s, hl, hd => by
    obtain ⟨t, c, rfl⟩ : ∃ t c, s = t ++ [c] := by
      rcases List.eq_nil_or_concat s with rfl | ⟨t, c, e⟩
      · simp at hl
      · exact ⟨t, c, by simpa using e⟩
    rw [List.all_append] at hd
    simp only [List.all_cons, List.all_nil, Bool.and_true, Bool.and_eq_true] at hd
    have hc : 48 ≤ c.toNat ∧ c.toNat ≤ 57 := of_decide_eq_true hd.2
    simp only [List.length_append, List.length_cons, List.length_nil] at hl
    have ih := val_lt k t (by omega) hd.1
    rw [val_snoc, Nat.pow_succ]
    omega
theorem val_step {s : List UInt8} {i : Nat} (h : i < s.length) : valN (s.take (i + 1)) = 10 * valN (s.take i) + ((s.getD i default).toNat - 48) := by
  rw [take_snoc (d := default) h, val_snoc]
theorem dig_step {s : List UInt8} {i : Nat} (h : i < s.length) (h1 : (s.take i).all digP = true) : (s.take (i + 1)).all digP = digP (s.getD i default) := by
  rw [take_snoc (d := default) h, List.all_append, h1]
  simp
theorem dig_no {s : List UInt8} {i : Nat} (h : i < s.length) (h1 : digP (s.getD i default) = false) : s.all digP = false := by
  rw [Bool.eq_false_iff]
  intro h2
  rw [List.all_eq_true.1 h2 _ (getD_mem h)] at h1
  cases h1
theorem w8sub {c : UInt8} (h : 48 ≤ c.toNat) : IntKind.wrap .u8 ((c.toNat : Int) - 48) = ((c.toNat - 48 : Nat) : Int) := by
  have := c.toNat_lt
  rw [w8 (by omega)]
  omega

/-- the number of a text without a sign -/
def numB (s : List UInt8) : Bool := decide (1 ≤ s.length ∧ s.length ≤ 9) && s.all digP && (decide (s.getD 0 0 ≠ 48) || decide (s.length = 1))
def numO (s : List UInt8) : Int × Bool := if numB s = true then ((valN s : Int), true) else (0, false)
set_option maxRecDepth 100000 in
set_option maxHeartbeats 16000000 in
/-- impl.number -/
theorem k_number (s : List UInt8) (hl : s.length ≤ 1099511627776) : Okv Try.prog 101 [.str s] (.tup [.p (.int .i64 (numO s).1), .p (.bool (numO s).2)]) := by
  refine ok_D hmix c_impl_number (by simp) ?_
  have hd : numB s = (decide (1 ≤ s.length ∧ s.length ≤ 9) && s.all digP && (decide (s.getD 0 0 ≠ 48) || decide (s.length = 1))) := rfl
  have h00 : s.getD 0 0 = s.getD 0 default := rfl
  have h48 : ∀ c : UInt8, (c.toNat : Int) = 48 ↔ c = 48 := fun c => u8_lit (n := 48) (by omega)
  by_cases hc : (1 ≤ s.length ∧ s.length ≤ 9) ∧ (s.getD 0 default ≠ 48 ∨ s.length = 1)
  · simp only [envOf, envFrom, go_sem, reduceIte, Nat.reduceEqDiff, Nat.reduceBEq]
    repeat' (first
      | (simp only [go_sem, reduceIte, Nat.reduceEqDiff, Nat.reduceBEq])
      | (simp (disch := omega) only [Int.toNat_zero])
      | (refine Rm_need (by first | exact True.intro | omega | (simp; omega)) ?_)
      | (refine Rm_gi (by first | omega | (simp; omega)) ?_)
      | (refine Rm_gb (by first | omega | (simp; omega)) ?_)
      | (refine Rm_ga (by first | omega | (simp; omega)) _ rfl (Nat.le_of_ble_eq_true rfl) ?_)
      | (refine Rm_gm (by first | omega | (simp; omega)) _ rfl ?_)
      | (refine Rm_part _ _ rfl rfl ?_)
      | (refine Rm_puti (by first | omega | (simp; omega)) rfl ?_)
      | (refine Dm_draw [] (by simp) ?_)
      | (refine Tm_both ?_ ?_)
      | (refine Tm_fin (by simp only [hideOK, newsE]; simp []) ?_)
      | (refine Cm_split (fun h => ?_) (fun h => ?_) <;> (try (simp only [decide_eq_true_eq, decide_eq_false_iff_not] at h)) <;> (try omega))
      | (refine Gm_split (fun h => ?_) (fun h => ?_) <;> (try simp only [ne_eq, Bool.not_eq_true, Bool.not_eq_false] at h) <;> (try rw [h]) <;> (try (simp only [decide_eq_true_eq, decide_eq_false_iff_not, bne_iff_ne, beq_iff_eq, bne_eq_false_iff_eq, beq_eq_false_iff_ne, Bool.not_eq_true, Bool.not_eq_true', Bool.not_eq_false, Bool.not_eq_false', ne_eq, Bool.and_eq_true, Bool.or_eq_true, true_eq_decide_iff, false_eq_decide_iff] at h)) <;> (try omega))
      | (refine Sm_split (fun h => ?_) (fun h => ?_) <;> (try (simp only [decide_eq_true_eq, decide_eq_false_iff_not, beq_iff_eq, beq_eq_false_iff_ne, ne_eq] at h)) <;> (try omega))
      | (exact ret_p rfl ⟨rfl, rfl⟩)
      | (refine ret_okv (by first | trivial | simp only [go_sem, detD, detDs, detP, and_self, and_true]) ?_)
      | (exact ret_gen _ _ _ rfl rfl rfl ⟨rfl, rfl⟩)
      | (simp only [Option.some.injEq, DV.tup.injEq, DV.p.injEq, List.cons.injEq, PV.int.injEq, PV.bool.injEq, and_true, true_and])
      | rfl
      | (refine Bool.eq_iff_iff.2 ?_; simp only [decide_eq_true_eq, Bool.and_eq_true, Bool.or_eq_true, Bool.not_eq_true', decide_eq_false_iff_not, Bool.false_eq_true, beq_iff_eq, bne_iff_ne, ne_eq, false_iff, iff_false, true_iff, iff_true]; omega)
      | omega)
    all_goals try (have := (h48 _).1 (by assumption); grind)
    all_goals (
      refine Dm_loop [0, 4, 5] (fun m ds H' => ∃ i : Nat, i ≤ s.length ∧ m = s.length - i ∧ (s.take i).all digP = true ∧ ds = [.p (.str s), .p (.int .i64 (valN (s.take i))), .p (.int .i64 i)] ∧ H' = []) s.length ⟨0, by omega, by omega, rfl, rfl, rfl⟩ ?_
      rintro m ds H' ⟨i, hi, rfl, hp, rfl, rfl⟩ -
      have h1 := fun h : i < s.length => dig_step h hp
      have h2 := fun h : i < s.length => dig_no h
      have h3 := fun h : i < s.length => val_step h
      have h4 : valN (s.take i) < 1000000000 := by
        have := val_lt _ (s.take i) rfl hp
        have h5 : (s.take i).length ≤ 9 := by rw [List.length_take]; omega
        exact Nat.lt_of_lt_of_le this (Nat.le_trans (Nat.pow_le_pow_right (by omega) h5) (by decide))
      have h6 := u8_lt (s.getD i default)
      have h7 : digP (s.getD i default) = decide (48 ≤ (s.getD i default).toNat ∧ (s.getD i default).toNat ≤ 57) := rfl
      have h8 : s.length ≤ i → s.all digP = true := fun h => by rwa [List.take_of_length_le h] at hp
      have e0 : (s.getD i 0).toNat = (s.getD i default).toNat := rfl
      repeat' (first
        | (simp only [go_sem, reduceIte, Nat.reduceEqDiff, Nat.reduceBEq])
        | (simp (disch := omega) only [w64, w8, nadd1])
        | (refine Rm_need (by first | exact True.intro | omega | (simp; omega)) ?_)
        | (rw [w8sub (by omega)])
        | (refine Rm_gi (by first | omega | (simp; omega)) ?_)
        | (refine Rm_gb (by first | omega | (simp; omega)) ?_)
        | (refine Rm_ga (by first | omega | (simp; omega)) _ rfl (Nat.le_of_ble_eq_true rfl) ?_)
        | (refine Rm_gm (by first | omega | (simp; omega)) _ rfl ?_)
        | (refine Rm_part _ _ rfl rfl ?_)
        | (refine Rm_puti (by first | omega | (simp; omega)) rfl ?_)
        | (refine Dm_draw [] (by simp) ?_)
        | (refine Tm_both ?_ ?_)
        | (refine Tm_fin (by simp only [hideOK, newsE]; simp []) ?_)
        | (refine Cm_split (fun h => ?_) (fun h => ?_) <;> (try (simp only [decide_eq_true_eq, decide_eq_false_iff_not] at h)) <;> (try omega))
        | (refine Gm_split (fun h => ?_) (fun h => ?_) <;> (try simp only [ne_eq, Bool.not_eq_true, Bool.not_eq_false] at h) <;> (try rw [h]) <;> (try (simp only [decide_eq_true_eq, decide_eq_false_iff_not, bne_iff_ne, beq_iff_eq, bne_eq_false_iff_eq, beq_eq_false_iff_ne, Bool.not_eq_true, Bool.not_eq_true', Bool.not_eq_false, Bool.not_eq_false', ne_eq, Bool.and_eq_true, Bool.or_eq_true, true_eq_decide_iff, false_eq_decide_iff] at h)) <;> (try omega))
        | (refine Sm_split (fun h => ?_) (fun h => ?_) <;> (try (simp only [decide_eq_true_eq, decide_eq_false_iff_not] at h)) <;> (try omega))
        | (exact ret_p rfl ⟨rfl, rfl⟩)
        | (refine ret_okv (by first | trivial | simp only [go_sem, detD, detDs, detP, and_self, and_true]) ?_)
        | (exact ret_gen _ _ _ rfl rfl rfl ⟨rfl, rfl⟩)
        | (simp only [Option.some.injEq, DV.tup.injEq, DV.p.injEq, List.cons.injEq, PV.int.injEq, PV.bool.injEq, and_true, true_and])
        | rfl
        | (refine Bool.eq_iff_iff.2 ?_; simp only [decide_eq_true_eq, Bool.and_eq_true, Bool.or_eq_true, Bool.not_eq_true', decide_eq_false_iff_not, Bool.false_eq_true, beq_iff_eq, bne_iff_ne, ne_eq, false_iff, iff_false, true_iff, iff_true]; omega)
        | omega)
      all_goals first
        | (refine Xm_inv_n (s.length - (i + 1)) (by omega) ⟨i + 1, by omega, rfl, ?_, ?_, rfl⟩
           · rw [h1 (by omega), h7]; simp only [decide_eq_true_eq]; omega
           · rw [h3 (by omega), show ((10 * valN (s.take i) + ((s.getD i default).toNat - 48) : Nat) : Int) = 10 * (valN (s.take i) : Int) + (((s.getD i 0).toNat : Int) - 48) from by omega]; rfl)
        | (have h9 : numB s = false := by rw [hd, h2 (by omega) (by rw [h7]; simp only [decide_eq_false_iff_not]; omega)]; simp
           simp [numO, h9]; done)
        | (have h9 : numB s = true := by rw [hd, h8 (by omega)]; grind
           rw [List.take_of_length_le (by omega)]
           simp [numO, h9]; done)
        | skip)
  · have h9 : numB s = false := by rw [hd]; grind
    rw [show numO s = (0, false) from by simp [numO, h9]]
    by_cases h10 : 1 ≤ s.length ∧ s.length ≤ 9
    · have h11 : s.getD 0 default = 48 ∧ s.length ≠ 1 := by grind
      have h12 : ((s.getD 0 default).toNat : Int) = 48 := by rw [h11.1]; rfl
      simp only [envOf, envFrom, go_sem, reduceIte, Nat.reduceEqDiff, Nat.reduceBEq]
      repeat' (first
        | (simp only [go_sem, reduceIte, Nat.reduceEqDiff, Nat.reduceBEq])
        | (simp (disch := omega) only [Int.toNat_zero])
        | (refine Rm_need (by first | exact True.intro | omega | (simp; omega)) ?_)
        | (rw [h12])
        | (refine Rm_gi (by first | omega | (simp; omega)) ?_)
        | (refine Rm_gb (by first | omega | (simp; omega)) ?_)
        | (refine Rm_ga (by first | omega | (simp; omega)) _ rfl (Nat.le_of_ble_eq_true rfl) ?_)
        | (refine Rm_gm (by first | omega | (simp; omega)) _ rfl ?_)
        | (refine Rm_part _ _ rfl rfl ?_)
        | (refine Rm_puti (by first | omega | (simp; omega)) rfl ?_)
        | (refine Dm_draw [] (by simp) ?_)
        | (refine Tm_both ?_ ?_)
        | (refine Tm_fin (by simp only [hideOK, newsE]; simp []) ?_)
        | (refine Cm_split (fun h => ?_) (fun h => ?_) <;> (try (simp only [decide_eq_true_eq, decide_eq_false_iff_not] at h)) <;> (try omega))
        | (refine Gm_split (fun h => ?_) (fun h => ?_) <;> (try simp only [ne_eq, Bool.not_eq_true, Bool.not_eq_false] at h) <;> (try rw [h]) <;> (try (simp only [decide_eq_true_eq, decide_eq_false_iff_not, bne_iff_ne, beq_iff_eq, bne_eq_false_iff_eq, beq_eq_false_iff_ne, Bool.not_eq_true, Bool.not_eq_true', Bool.not_eq_false, Bool.not_eq_false', ne_eq, Bool.and_eq_true, Bool.or_eq_true, true_eq_decide_iff, false_eq_decide_iff] at h)) <;> (try omega))
        | (refine Sm_split (fun h => ?_) (fun h => ?_) <;> (try (simp only [decide_eq_true_eq, decide_eq_false_iff_not, beq_iff_eq, beq_eq_false_iff_ne, ne_eq] at h)) <;> (try omega))
        | (exact ret_p rfl ⟨rfl, rfl⟩)
        | (refine ret_okv (by first | trivial | simp only [go_sem, detD, detDs, detP, and_self, and_true]) ?_)
        | (exact ret_gen _ _ _ rfl rfl rfl ⟨rfl, rfl⟩)
        | (simp only [Option.some.injEq, DV.tup.injEq, DV.p.injEq, List.cons.injEq, PV.int.injEq, PV.bool.injEq, PV.str.injEq, and_true, true_and])
        | rfl
        | (refine Bool.eq_iff_iff.2 ?_; simp only [decide_eq_true_eq, Bool.and_eq_true, Bool.or_eq_true, Bool.not_eq_true', decide_eq_false_iff_not, Bool.false_eq_true, beq_iff_eq, bne_iff_ne, ne_eq, false_iff, iff_false, true_iff, iff_true]; omega)
        | omega)
      all_goals grind
    · simp only [envOf, envFrom, go_sem, reduceIte, Nat.reduceEqDiff, Nat.reduceBEq]
      repeat' (first
        | (simp only [go_sem, reduceIte, Nat.reduceEqDiff, Nat.reduceBEq])
        | (simp (disch := omega) only [w64, w8, bytesOf_cons, tmod10, tdiv10, tn48, nsub1, nadd1, nsub, nadd, nmul, List.take_length, Int.toNat_zero, Int.reduceAdd, Int.reduceSub, Int.reduceToNat, Int.reduceMul, Nat.sub_zero, Nat.min_self])
        | (refine Rm_need (by first | exact True.intro | omega | (simp; omega)) ?_)
        | (refine Rm_gi (by first | omega | (simp; omega)) ?_)
        | (refine Rm_gb (by first | omega | (simp; omega)) ?_)
        | (refine Rm_ga (by first | omega | (simp; omega)) _ rfl (Nat.le_of_ble_eq_true rfl) ?_)
        | (refine Rm_gm (by first | omega | (simp; omega)) _ rfl ?_)
        | (refine Rm_part _ _ rfl rfl ?_)
        | (refine Rm_puti (by first | omega | (simp; omega)) rfl ?_)
        | (refine Dm_draw [] (by simp) ?_)
        | (refine Tm_both ?_ ?_)
        | (refine Tm_fin (by simp only [hideOK, newsE]; simp []) ?_)
        | (refine Cm_split (fun h => ?_) (fun h => ?_) <;> (try (simp only [decide_eq_true_eq, decide_eq_false_iff_not, bne_iff_ne, beq_iff_eq, bne_eq_false_iff_eq, beq_eq_false_iff_ne, Bool.not_eq_true, Bool.not_eq_true', Bool.not_eq_false, Bool.not_eq_false', ne_eq, Bool.and_eq_true, Bool.or_eq_true, true_eq_decide_iff, false_eq_decide_iff] at h)) <;> (try omega))
        | (refine Gm_split (fun h => ?_) (fun h => ?_) <;> (try simp only [ne_eq, Bool.not_eq_true, Bool.not_eq_false] at h) <;> (try rw [h]) <;> (try (simp only [decide_eq_true_eq, decide_eq_false_iff_not, bne_iff_ne, beq_iff_eq, bne_eq_false_iff_eq, beq_eq_false_iff_ne, Bool.not_eq_true, Bool.not_eq_true', Bool.not_eq_false, Bool.not_eq_false', ne_eq, Bool.and_eq_true, Bool.or_eq_true, true_eq_decide_iff, false_eq_decide_iff] at h)) <;> (try omega))
        | (refine Sm_split (fun h => ?_) (fun h => ?_) <;> (try (simp only [decide_eq_true_eq, decide_eq_false_iff_not, beq_iff_eq, beq_eq_false_iff_ne, ne_eq] at h)) <;> (try omega))
        | (exact ret_p rfl ⟨rfl, rfl⟩)
        | (refine ret_okv (by first | trivial | simp only [go_sem, detD, detDs, detP, and_self, and_true]) ?_)
        | (exact ret_gen _ _ _ rfl rfl rfl ⟨rfl, rfl⟩)
        | (simp only [Option.some.injEq, DV.tup.injEq, DV.p.injEq, List.cons.injEq, PV.int.injEq, PV.bool.injEq, PV.str.injEq, and_true, true_and])
        | rfl
        | (refine Bool.eq_iff_iff.2 ?_; simp only [decide_eq_true_eq, Bool.and_eq_true, Bool.or_eq_true, Bool.not_eq_true', decide_eq_false_iff_not, Bool.false_eq_true, beq_iff_eq, bne_iff_ne, ne_eq, false_iff, iff_false, true_iff, iff_true]; omega)
        | omega)
      all_goals grind
/-- a number with a sign or without one -/
def magO (s : List UInt8) : List UInt8 := if 1 < s.length ∧ s.getD 0 0 = 45 then s.drop 1 else s
def rdI (s : List UInt8) : Int := if (magO s).length < s.length then -(valN (magO s) : Int) else valN (magO s)
def rdB (s : List UInt8) : Bool := decide (1 ≤ (magO s).length ∧ (magO s).length ≤ 6) && (magO s).all digP && decide (num (rdI s) = s)
def readO (s : List UInt8) : Int × Bool := if rdB s = true then (rdI s, true) else (0, false)
/-- the first place of a text in another one -/
def findI (s w : List UInt8) : Nat → Nat → Option Nat
  | 0, _ => none
  | f + 1, i => if i + w.length ≤ s.length then (if cutL s i (i + w.length) = w then some i else findI s w f (i + 1)) else none
def cut2 (s w : List UInt8) : List UInt8 × List UInt8 × Bool := match findI s w (s.length + 1) 0 with
  | some i => (s.take i, s.drop (i + w.length), true)
  | none => (s, [], false)
set_option maxRecDepth 100000 in
set_option maxHeartbeats 16000000 in
/-- spec.l24Cut -/
theorem k_l24Cut (s w : List UInt8) (hl : s.length ≤ 1099511627776) (hw : w.length ≤ 1099511627776) : Okv Try.prog 76 [.str s, .str w] (.tup [.p (.str (cut2 s w).1), .p (.str (cut2 s w).2.1), .p (.bool (cut2 s w).2.2)]) := by
  refine ok_D hmix c_spec_l24Cut (by simp) ?_
  simp only [envOf, envFrom, go_sem]
  refine Dm_loop [0, 1, 7] (fun m ds H' => ∃ i : Nat, m + i = s.length + 1 ∧ findI s w (s.length + 1) 0 = findI s w m i ∧ ds = [.p (.str s), .p (.str w), .p (.int .i64 i)] ∧ H' = []) (s.length + 1) ⟨0, by omega, rfl, rfl, rfl⟩ ?_
  rintro m ds H' ⟨i, hi, hfi, rfl, rfl⟩ -
  have hno : m = 0 → findI s w m i = none := fun h => by subst h; rfl
  have hst : 0 < m → findI s w m i = if i + w.length ≤ s.length then (if cutL s i (i + w.length) = w then some i else findI s w (m - 1) (i + 1)) else none := fun h => by
    obtain ⟨f, rfl⟩ : ∃ f, m = f + 1 := ⟨m - 1, by omega⟩
    rfl
  have e0 : cutL s 0 i = s.take i := by simp [cutL]
  have e1 : cutL s (i + w.length) s.length = s.drop (i + w.length) := List.take_of_length_le (by simp)
  repeat' (first
    | (simp only [go_sem, reduceIte, Nat.reduceEqDiff])
    | (simp (disch := omega) only [w64, nadd1, nadd])
    | (refine Rm_need (by first | exact True.intro | omega | (simp; omega)) ?_)
    | (rw [e0])
    | (rw [e1])
    | (refine Rm_gi (by first | omega | (simp; omega)) ?_)
    | (refine Rm_gb (by first | omega | (simp; omega)) ?_)
    | (refine Rm_ga (by first | omega | (simp; omega)) _ rfl (Nat.le_of_ble_eq_true rfl) ?_)
    | (refine Rm_gm (by first | omega | (simp; omega)) _ rfl ?_)
    | (refine Rm_part _ _ rfl rfl ?_)
    | (refine Rm_puti (by first | omega | (simp; omega)) rfl ?_)
    | (refine Dm_draw [] (by simp) ?_)
    | (refine Tm_both ?_ ?_)
    | (refine Tm_fin (by simp only [hideOK, newsE]; simp []) ?_)
    | (refine Cm_split (fun h => ?_) (fun h => ?_) <;> (try (simp only [decide_eq_true_eq, decide_eq_false_iff_not, beq_iff_eq, beq_eq_false_iff_ne, ne_eq] at h)) <;> (try omega))
    | (refine Gm_split (fun h => ?_) (fun h => ?_) <;> (try simp only [ne_eq, Bool.not_eq_true, Bool.not_eq_false] at h) <;> (try rw [h]) <;> (try (simp only [decide_eq_true_eq, decide_eq_false_iff_not, bne_iff_ne, beq_iff_eq, bne_eq_false_iff_eq, beq_eq_false_iff_ne, Bool.not_eq_true, Bool.not_eq_true', Bool.not_eq_false, Bool.not_eq_false', ne_eq, Bool.and_eq_true, Bool.or_eq_true, true_eq_decide_iff, false_eq_decide_iff] at h)) <;> (try omega))
    | (refine Sm_split (fun h => ?_) (fun h => ?_) <;> (try (simp only [decide_eq_true_eq, decide_eq_false_iff_not, bne_iff_ne, beq_iff_eq, bne_eq_false_iff_eq, beq_eq_false_iff_ne, Bool.not_eq_true, Bool.not_eq_true', Bool.not_eq_false, Bool.not_eq_false', ne_eq, Bool.and_eq_true, Bool.or_eq_true, true_eq_decide_iff, false_eq_decide_iff] at h)) <;> (try omega))
    | (exact ret_p rfl ⟨rfl, rfl⟩)
    | (refine ret_okv (by first | trivial | simp only [go_sem, detD, detDs, detP, and_self, and_true]) ?_)
    | (exact ret_gen _ _ _ rfl rfl rfl ⟨rfl, rfl⟩)
    | (simp only [Option.some.injEq, DV.tup.injEq, DV.p.injEq, List.cons.injEq, PV.bool.injEq, PV.str.injEq, and_true])
    | rfl
    | (refine Bool.eq_iff_iff.2 ?_; simp only [decide_eq_true_eq, Bool.and_eq_true, Bool.or_eq_true, Bool.not_eq_true', decide_eq_false_iff_not, Bool.false_eq_true, beq_iff_eq, bne_iff_ne, ne_eq, false_iff, iff_false, true_iff, iff_true]; omega)
    | omega)
  all_goals first
    | (have h2 : findI s w (s.length + 1) 0 = some i := by rw [hfi, hst (by omega), if_pos (by omega), if_pos (by assumption)]
       simp [cut2, h2]; done)
    | (refine Xm_inv_n (m - 1) (by omega) ⟨i + 1, by omega, ?_, rfl, rfl⟩
       rw [hfi, hst (by omega), if_pos (by omega), if_neg (by assumption)])
    | (have h2 : findI s w (s.length + 1) 0 = none := by
         rw [hfi]
         rcases Nat.eq_zero_or_pos m with h | h
         · exact hno h
         · rw [hst h, if_neg (by omega)]
       simp [cut2, h2]; done)
    | skip
end Go.Proofs.Ytchekagoaidlpaa

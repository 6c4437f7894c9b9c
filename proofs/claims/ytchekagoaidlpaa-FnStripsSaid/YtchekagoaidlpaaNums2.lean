import Derived.Test.YtchekagoaidlpaaNums
namespace Go.Proofs.Ytchekagoaidlpaa
open Go.Dv Go.Dv.EvL
attribute [local irreducible] Ok Rm Dm Om Sm Xm Cm Gm Hm Tm

/-! ### numbers with a sign, read; texts of parts -/
theorem split_app {b : UInt8} : ∀ {p t : List UInt8}, b ∉ p → splitB b (p ++ b :: t) = p :: splitB b t
  | [], t, _ => by simp [splitB]
  | c :: p, t, h => by
    simp only [List.mem_cons, not_or] at h
    rw [List.cons_append, splitB, if_neg (fun e => h.1 e.symm), split_app h.2]
    rfl
def joinB (b : UInt8) : List (List UInt8) → List UInt8
  | [] => []
  | [x] => x
  | x :: y :: t => x ++ b :: joinB b (y :: t)
theorem join_cons {b : UInt8} {x : List UInt8} {X : List (List UInt8)} (h : X ≠ []) : joinB b (x :: X) = x ++ b :: joinB b X := by
  cases X with
  | nil => exact absurd rfl h
  | cons y t => rfl
theorem join_glue {b c : UInt8} {X : List (List UInt8)} (h : X ≠ []) : joinB b (glue [c] X) = c :: joinB b X := by
  cases X with
  | nil => exact absurd rfl h
  | cons y t =>
    cases t with
    | nil => rfl
    | cons z t => rfl
theorem join_split (b : UInt8) : ∀ s, joinB b (splitB b s) = s
  | [] => rfl
  | c :: s => by
    rw [splitB]
    split
    · rename_i h
      rw [join_cons (split_ne b s), join_split b s, h]
      rfl
    · rw [join_glue (split_ne b s), join_split b s]
theorem num_dec {n : Int} (h : 0 ≤ n) : num n = dec n.toNat := by
  unfold num
  rw [if_neg (by omega), show n.natAbs = n.toNat from by omega]
theorem numO_dec {n : Nat} (h : n ≤ 999999999) : numO (dec n) = ((n : Int), true) := by
  obtain ⟨h1, h2⟩ := dec_ok n
  have h3 := dec_len n 8 (by omega)
  have h4 := dec_pos n
  have hb : numB (dec n) = true := by
    unfold numB
    rw [h1]
    simp only [Bool.and_true, Bool.and_eq_true, Bool.or_eq_true, decide_eq_true_eq]
    refine ⟨by omega, ?_⟩
    rcases Nat.eq_zero_or_pos n with h0 | h0
    · subst h0
      exact .inr (by rw [dec_small (by omega)]; rfl)
    · exact .inl (dec_head h0)
  unfold numO
  rw [if_pos hb, h2]
theorem mag_len (s : List UInt8) : (magO s).length ≤ s.length ∧ (magO s).length + 1 ≥ s.length := by
  unfold magO
  split
  · rw [List.length_drop]; omega
  · omega
set_option maxRecDepth 100000 in
set_option maxHeartbeats 16000000 in
/-- spec.l1Read -/
theorem k_l1Read (s : List UInt8) (hl : s.length ≤ 1099511627776) : Okv Try.prog 100 [.str s] (.tup [.p (.int .i64 (readO s).1), .p (.bool (readO s).2)]) := by
  refine ok_D hmix c_spec_l1Read (by simp) ?_
  have h45 : ∀ c : UInt8, (c.toNat : Int) = 45 ↔ c = 45 := fun c => u8_lit (n := 45) (by omega)
  have hd : rdB s = (decide (1 ≤ (magO s).length ∧ (magO s).length ≤ 6) && (magO s).all digP && decide (num (rdI s) = s)) := rfl
  have hml := mag_len s
  have hi0 : rdI s = if (magO s).length < s.length then -(valN (magO s) : Int) else valN (magO s) := rfl
  have hmag : magO s = if 1 < s.length ∧ s.getD 0 default = 45 then s.drop 1 else s := rfl
  have hc1 : cutL s 1 s.length = s.drop 1 := List.take_of_length_le (by simp)
  have hro : readO s = if rdB s = true then (rdI s, true) else (0, false) := rfl
  by_cases hc : 1 < s.length ∧ s.getD 0 default = 45
  · rw [if_pos hc] at hmag
    have h12 : ((s.getD 0 default).toNat : Int) = 45 := by rw [hc.2]; rfl
    have h13 : ((s.getD 0 0).toNat : Int) = 45 := h12
    generalize magO s = t at *
    subst hmag
    have hTl : (s.drop 1).length < s.length := by rw [List.length_drop]; omega
    generalize hT : s.drop 1 = T at *
    simp only [envOf, envFrom, go_sem, reduceIte, Nat.reduceEqDiff, Nat.reduceBEq]
    repeat' (first
      | (simp only [go_sem, reduceIte, Nat.reduceEqDiff, Nat.reduceBEq])
      | (simp (disch := omega) only [Int.toNat_zero, Int.reduceToNat])
      | (refine Rm_need (by first | exact True.intro | omega | (simp; omega)) ?_)
      | (rw [h13])
      | (rw [h12])
      | (rw [hc1])
      | (rw [hT])
      | (refine Rm_w rfl (k_l1In _ _ _) (by trivial) ?_)
      | (refine Rm_w ?_ (k_l1In _ _ _) (by trivial) ?_; · (simp [viewOfs, viewOf, List.take_of_length_le, cutL]; done))
      | (refine Rm_gi (by first | omega | (simp; omega)) ?_)
      | (refine Rm_gb (by first | omega | (simp; omega)) ?_)
      | (refine Rm_ga (by first | omega | (simp; omega)) _ rfl (Nat.le_of_ble_eq_true rfl) ?_)
      | (refine Rm_gm (by first | omega | (simp; omega)) _ rfl ?_)
      | (refine Rm_part _ _ rfl rfl ?_)
      | (refine Rm_puti (by first | omega | (simp; omega)) rfl ?_)
      | (refine Dm_draw [] (by simp) ?_)
      | (refine Tm_both ?_ ?_)
      | (refine Tm_fin (by simp only [hideOK, newsE]; simp []) ?_)
      | (refine Cm_split (fun h => ?_) (fun h => ?_) <;> (try (simp only [decide_eq_true_eq, decide_eq_false_iff_not, Bool.not_eq_true', Bool.not_eq_false'] at h)) <;> (try omega))
      | (refine Gm_split (fun h => ?_) (fun h => ?_) <;> (try simp only [ne_eq, Bool.not_eq_true, Bool.not_eq_false] at h) <;> (try rw [h]) <;> (try (simp only [decide_eq_true_eq, decide_eq_false_iff_not, bne_iff_ne, beq_iff_eq, bne_eq_false_iff_eq, beq_eq_false_iff_ne, Bool.not_eq_true, Bool.not_eq_true', Bool.not_eq_false, Bool.not_eq_false', ne_eq, Bool.and_eq_true, Bool.or_eq_true, true_eq_decide_iff, false_eq_decide_iff] at h)) <;> (try omega))
      | (refine Sm_split (fun h => ?_) (fun h => ?_) <;> (try (simp only [decide_eq_true_eq, decide_eq_false_iff_not] at h)) <;> (try omega))
      | (exact ret_p rfl ⟨rfl, rfl⟩)
      | (refine ret_okv (by first | trivial | simp only [go_sem, detD, detDs, detP, and_self, and_true]) ?_)
      | (exact ret_gen _ _ _ rfl rfl rfl ⟨rfl, rfl⟩)
      | (simp only [Option.some.injEq, DV.tup.injEq, DV.p.injEq, List.cons.injEq, PV.int.injEq, PV.bool.injEq, and_true, true_and])
      | rfl
      | (refine Bool.eq_iff_iff.2 ?_; simp only [decide_eq_true_eq, Bool.and_eq_true, Bool.or_eq_true, Bool.not_eq_true', decide_eq_false_iff_not, Bool.false_eq_true, beq_iff_eq, bne_iff_ne, ne_eq, false_iff, iff_false, true_iff, iff_true]; omega)
      | omega)
    all_goals first
      | (rw [hro, if_neg (by rw [hd]; grind)]; exact ⟨rfl, rfl⟩)
      | skip
    refine Dm_loop [0, 4, 5, 6] (fun m ds H' => ∃ i : Nat, i ≤ T.length ∧ m = T.length - i ∧ (T.take i).all digP = true ∧ ds = [.p (.str s), .p (.str T), .p (.int .i64 (valN (T.take i))), .p (.int .i64 i)] ∧ H' = []) T.length ⟨0, by omega, by omega, rfl, rfl, rfl⟩ ?_
    rintro m ds H' ⟨i, hi, rfl, hp, rfl, rfl⟩ -
    have h1 := fun h : i < T.length => dig_step h hp
    have h2 := fun h : i < T.length => dig_no h
    have h3 := fun h : i < T.length => val_step h
    have h4 : valN (T.take i) < 1000000 := by
      have := val_lt _ (T.take i) rfl hp
      have h5 : (T.take i).length ≤ 6 := by rw [List.length_take]; omega
      exact Nat.lt_of_lt_of_le this (Nat.le_trans (Nat.pow_le_pow_right (by omega) h5) (by decide))
    have h6 := u8_lt (T.getD i default)
    have h7 : digP (T.getD i default) = decide (48 ≤ (T.getD i default).toNat ∧ (T.getD i default).toNat ≤ 57) := rfl
    have h8 : T.length ≤ i → T.all digP = true := fun h => by rwa [List.take_of_length_le h] at hp
    have h9 : T.length ≤ i → T.take i = T := fun h => List.take_of_length_le h
    have e0 : (T.getD i 0).toNat = (T.getD i default).toNat := rfl
    rcases Nat.lt_or_ge i T.length with hlt | hge
    · repeat' (first
        | (simp only [go_sem, reduceIte, Nat.reduceEqDiff, Nat.reduceBEq])
        | (simp (disch := omega) only [w64, w8, nadd1])
        | (refine Rm_need (by first | exact True.intro | omega | (simp; omega)) ?_)
        | (refine Rm_gi (by first | omega | (simp; omega)) ?_)
        | (refine Rm_gb (by first | omega | (simp; omega)) ?_)
        | (refine Rm_ga (by first | omega | (simp; omega)) _ rfl (Nat.le_of_ble_eq_true rfl) ?_)
        | (refine Rm_gm (by first | omega | (simp; omega)) _ rfl ?_)
        | (refine Rm_part _ _ rfl rfl ?_)
        | (refine Rm_puti (by first | omega | (simp; omega)) rfl ?_)
        | (refine Dm_draw [] (by simp) ?_)
        | (refine Tm_both ?_ ?_)
        | (refine Tm_fin (by simp only [hideOK, newsE]; simp []) ?_)
        | (refine Cm_split (fun h => ?_) (fun h => ?_) <;> (try (simp only [decide_eq_true_eq, decide_eq_false_iff_not] at h)) <;> (try omega))
        | (refine Gm_split (fun h => ?_) (fun h => ?_) <;> (try simp only [ne_eq, Bool.not_eq_true, Bool.not_eq_false] at h) <;> (try rw [h]) <;> (try (simp only [decide_eq_true_eq, decide_eq_false_iff_not, bne_iff_ne, beq_iff_eq, bne_eq_false_iff_eq, beq_eq_false_iff_ne, Bool.not_eq_true, Bool.not_eq_true', Bool.not_eq_false, Bool.not_eq_false', ne_eq, Bool.and_eq_true, Bool.or_eq_true, true_eq_decide_iff, false_eq_decide_iff] at h)) <;> (try omega))
        | (refine Sm_split (fun h => ?_) (fun h => ?_) <;> (try (simp only [decide_eq_true_eq, decide_eq_false_iff_not] at h)) <;> (try omega))
        | (exact ret_p rfl ⟨rfl, rfl⟩)
        | (refine ret_okv (by first | trivial | simp only [go_sem, detD, detDs, detP, and_self, and_true]) ?_)
        | (exact ret_gen _ _ _ rfl rfl rfl ⟨rfl, rfl⟩)
        | (simp only [Option.some.injEq, DV.tup.injEq, DV.p.injEq, List.cons.injEq, PV.int.injEq, PV.bool.injEq, and_true, true_and])
        | rfl
        | (refine Bool.eq_iff_iff.2 ?_; simp only [decide_eq_true_eq, Bool.and_eq_true, Bool.or_eq_true, Bool.not_eq_true', decide_eq_false_iff_not, Bool.false_eq_true, beq_iff_eq, bne_iff_ne, ne_eq, false_iff, iff_false, true_iff, iff_true]; omega)
        | omega)
      all_goals first
        | (refine Xm_inv_n (T.length - (i + 1)) (by omega) ⟨i + 1, by omega, rfl, ?_, ?_, rfl⟩
           · rw [h1 (by omega), h7]; simp only [decide_eq_true_eq]; omega
           · rw [h3 (by omega), show ((10 * valN (T.take i) + ((T.getD i default).toNat - 48) : Nat) : Int) = 10 * (valN (T.take i) : Int) + (((T.getD i 0).toNat : Int) - 48) from by omega]; rfl)
        | (rw [hro, if_neg (by rw [hd, h2 (by omega) (by rw [h7]; simp only [decide_eq_false_iff_not]; omega)]; simp)]; exact ⟨rfl, rfl⟩)
        | skip
    · rw [h9 hge]
      have h8 := h8 hge
      have hv : valN T < 1000000 := by rw [← h9 hge]; exact h4
      have hnum := k_l1Num (rdI s) (by rw [hi0]; split <;> omega)
      rw [hi0] at hnum hro hd
      rw [if_pos hTl] at hnum hro hd
      by_cases hq : num (-(valN T : Int)) = s
      · rw [hro, if_pos (by rw [hd, h8]; grind)]
        rw [hq] at hnum
        repeat' (first
          | (simp only [go_sem, reduceIte, Nat.reduceEqDiff])
          | (simp (disch := omega) only [w64])
          | (refine Rm_need (by first | exact True.intro | omega | (simp; omega)) ?_)
          | (refine Rm_w rfl (hnum) (by trivial) ?_)
          | (refine Rm_w ?_ (hnum) (by trivial) ?_; · (simp [viewOfs, viewOf]; done))
          | (rw [show (0 : Int) - (valN T : Int) = -(valN T : Int) from by omega])
          | (refine Rm_gi (by first | omega | (simp; omega)) ?_)
          | (refine Rm_gb (by first | omega | (simp; omega)) ?_)
          | (refine Rm_ga (by first | omega | (simp; omega)) _ rfl (Nat.le_of_ble_eq_true rfl) ?_)
          | (refine Rm_gm (by first | omega | (simp; omega)) _ rfl ?_)
          | (refine Rm_part _ _ rfl rfl ?_)
          | (refine Rm_puti (by first | omega | (simp; omega)) rfl ?_)
          | (refine Dm_draw [] (by simp) ?_)
          | (refine Tm_both ?_ ?_)
          | (refine Tm_fin (by simp only [hideOK, newsE]; simp []) ?_)
          | (refine Cm_split (fun h => ?_) (fun h => ?_) <;> (try (simp only [decide_eq_true_eq, decide_eq_false_iff_not] at h)) <;> (try omega))
          | (refine Gm_split (fun h => ?_) (fun h => ?_) <;> (try simp only [ne_eq, Bool.not_eq_true, Bool.not_eq_false] at h) <;> (try rw [h]) <;> (try (simp only [decide_eq_true_eq, decide_eq_false_iff_not, bne_iff_ne, beq_iff_eq, bne_eq_false_iff_eq, beq_eq_false_iff_ne, Bool.not_eq_true, Bool.not_eq_true', Bool.not_eq_false, Bool.not_eq_false', ne_eq, Bool.and_eq_true, Bool.or_eq_true, true_eq_decide_iff, false_eq_decide_iff] at h)) <;> (try omega))
          | (refine Sm_split (fun h => ?_) (fun h => ?_) <;> (try (simp only [decide_eq_true_eq, decide_eq_false_iff_not, bne_iff_ne, beq_iff_eq, bne_eq_false_iff_eq, beq_eq_false_iff_ne, Bool.not_eq_true, Bool.not_eq_true', Bool.not_eq_false, Bool.not_eq_false', ne_eq, Bool.and_eq_true, Bool.or_eq_true, true_eq_decide_iff, false_eq_decide_iff] at h)) <;> (try omega))
          | (exact ret_p rfl ⟨rfl, rfl⟩)
          | (refine ret_okv (by first | trivial | simp only [go_sem, detD, detDs, detP, and_self, and_true]) ?_)
          | (exact ret_gen _ _ _ rfl rfl rfl ⟨rfl, rfl⟩)
          | (simp only [Option.some.injEq, DV.tup.injEq, DV.p.injEq, List.cons.injEq, PV.int.injEq, PV.bool.injEq, PV.str.injEq, and_true, true_and])
          | rfl
          | (refine Bool.eq_iff_iff.2 ?_; simp only [decide_eq_true_eq, Bool.and_eq_true, Bool.or_eq_true, Bool.not_eq_true', decide_eq_false_iff_not, Bool.false_eq_true, beq_iff_eq, bne_iff_ne, ne_eq, false_iff, iff_false, true_iff, iff_true]; omega)
          | omega)
        all_goals skip
      · rw [hro, if_neg (by rw [hd]; grind)]
        repeat' (first
          | (simp only [go_sem, reduceIte, Nat.reduceEqDiff])
          | (simp (disch := omega) only [w64])
          | (refine Rm_need (by first | exact True.intro | omega | (simp; omega)) ?_)
          | (refine Rm_w rfl (hnum) (by trivial) ?_)
          | (refine Rm_w ?_ (hnum) (by trivial) ?_; · (simp [viewOfs, viewOf]; done))
          | (rw [show (0 : Int) - (valN T : Int) = -(valN T : Int) from by omega])
          | (refine Rm_gi (by first | omega | (simp; omega)) ?_)
          | (refine Rm_gb (by first | omega | (simp; omega)) ?_)
          | (refine Rm_ga (by first | omega | (simp; omega)) _ rfl (Nat.le_of_ble_eq_true rfl) ?_)
          | (refine Rm_gm (by first | omega | (simp; omega)) _ rfl ?_)
          | (refine Rm_part _ _ rfl rfl ?_)
          | (refine Rm_puti (by first | omega | (simp; omega)) rfl ?_)
          | (refine Dm_draw [] (by simp) ?_)
          | (refine Tm_both ?_ ?_)
          | (refine Tm_fin (by simp only [hideOK, newsE]; simp []) ?_)
          | (refine Cm_split (fun h => ?_) (fun h => ?_) <;> (try (simp only [decide_eq_true_eq, decide_eq_false_iff_not, beq_iff_eq, beq_eq_false_iff_ne, Bool.not_eq_true', Bool.not_eq_false', ne_eq] at h)) <;> (try omega))
          | (refine Gm_split (fun h => ?_) (fun h => ?_) <;> (try simp only [ne_eq, Bool.not_eq_true, Bool.not_eq_false] at h) <;> (try rw [h]) <;> (try (simp only [decide_eq_true_eq, decide_eq_false_iff_not, bne_iff_ne, beq_iff_eq, bne_eq_false_iff_eq, beq_eq_false_iff_ne, Bool.not_eq_true, Bool.not_eq_true', Bool.not_eq_false, Bool.not_eq_false', ne_eq, Bool.and_eq_true, Bool.or_eq_true, true_eq_decide_iff, false_eq_decide_iff] at h)) <;> (try omega))
          | (refine Sm_split (fun h => ?_) (fun h => ?_) <;> (try (simp only [decide_eq_true_eq, decide_eq_false_iff_not, bne_iff_ne, beq_iff_eq, bne_eq_false_iff_eq, beq_eq_false_iff_ne, Bool.not_eq_true, Bool.not_eq_true', Bool.not_eq_false, Bool.not_eq_false', ne_eq, Bool.and_eq_true, Bool.or_eq_true, true_eq_decide_iff, false_eq_decide_iff] at h)) <;> (try omega))
          | (exact ret_p rfl ⟨rfl, rfl⟩)
          | (refine ret_okv (by first | trivial | simp only [go_sem, detD, detDs, detP, and_self, and_true]) ?_)
          | (exact ret_gen _ _ _ rfl rfl rfl ⟨rfl, rfl⟩)
          | (simp only [Option.some.injEq, DV.tup.injEq, DV.p.injEq, List.cons.injEq, PV.int.injEq, PV.bool.injEq, and_true, true_and])
          | rfl
          | (refine Bool.eq_iff_iff.2 ?_; simp only [decide_eq_true_eq, Bool.and_eq_true, Bool.or_eq_true, Bool.not_eq_true', decide_eq_false_iff_not, Bool.false_eq_true, beq_iff_eq, bne_iff_ne, ne_eq, false_iff, iff_false, true_iff, iff_true]; omega)
          | omega)
        all_goals first
          | exact ⟨rfl, rfl⟩
          | (exfalso; exact hq (by assumption))
          | skip
  · rw [if_neg hc] at hmag
    generalize magO s = T at *
    have hsl : ¬ T.length < s.length := by rw [hmag]; omega
    have hsT : s = T := hmag.symm
    subst hsT
    have h14 : 1 < s.length → ¬ ((s.getD 0 default).toNat : Int) = 45 := fun h1 h2 => hc ⟨h1, (h45 _).1 h2⟩
    have h15 : (s.getD 0 0).toNat = (s.getD 0 default).toNat := rfl
    simp only [envOf, envFrom, go_sem, reduceIte, Nat.reduceEqDiff, Nat.reduceBEq]
    repeat' (first
      | (simp only [go_sem, reduceIte, Nat.reduceEqDiff, Nat.reduceBEq])
      | (simp (disch := omega) only [Int.toNat_zero])
      | (refine Rm_need (by first | exact True.intro | omega | (simp; omega)) ?_)
      | (refine Rm_w rfl (k_l1In _ _ _) (by trivial) ?_)
      | (refine Rm_w ?_ (k_l1In _ _ _) (by trivial) ?_; · (simp [viewOfs, viewOf, List.take_of_length_le, cutL]; done))
      | (refine Rm_gi (by first | omega | (simp; omega)) ?_)
      | (refine Rm_gb (by first | omega | (simp; omega)) ?_)
      | (refine Rm_ga (by first | omega | (simp; omega)) _ rfl (Nat.le_of_ble_eq_true rfl) ?_)
      | (refine Rm_gm (by first | omega | (simp; omega)) _ rfl ?_)
      | (refine Rm_part _ _ rfl rfl ?_)
      | (refine Rm_puti (by first | omega | (simp; omega)) rfl ?_)
      | (refine Dm_draw [] (by simp) ?_)
      | (refine Tm_both ?_ ?_)
      | (refine Tm_fin (by simp only [hideOK, newsE]; simp []) ?_)
      | (refine Cm_split (fun h => ?_) (fun h => ?_) <;> (try (simp only [decide_eq_true_eq, decide_eq_false_iff_not, beq_iff_eq, beq_eq_false_iff_ne, Bool.not_eq_true', Bool.not_eq_false', ne_eq] at h)) <;> (try omega))
      | (refine Gm_split (fun h => ?_) (fun h => ?_) <;> (try simp only [ne_eq, Bool.not_eq_true, Bool.not_eq_false] at h) <;> (try rw [h]) <;> (try (simp only [decide_eq_true_eq, decide_eq_false_iff_not, bne_iff_ne, beq_iff_eq, bne_eq_false_iff_eq, beq_eq_false_iff_ne, Bool.not_eq_true, Bool.not_eq_true', Bool.not_eq_false, Bool.not_eq_false', ne_eq, Bool.and_eq_true, Bool.or_eq_true, true_eq_decide_iff, false_eq_decide_iff] at h)) <;> (try omega))
      | (refine Sm_split (fun h => ?_) (fun h => ?_) <;> (try (simp only [decide_eq_true_eq, decide_eq_false_iff_not] at h)) <;> (try omega))
      | (exact ret_p rfl ⟨rfl, rfl⟩)
      | (refine ret_okv (by first | trivial | simp only [go_sem, detD, detDs, detP, and_self, and_true]) ?_)
      | (exact ret_gen _ _ _ rfl rfl rfl ⟨rfl, rfl⟩)
      | (simp only [Option.some.injEq, DV.tup.injEq, DV.p.injEq, List.cons.injEq, PV.int.injEq, PV.bool.injEq, and_true, true_and])
      | rfl
      | (refine Bool.eq_iff_iff.2 ?_; simp only [decide_eq_true_eq, Bool.and_eq_true, Bool.or_eq_true, Bool.not_eq_true', decide_eq_false_iff_not, Bool.false_eq_true, beq_iff_eq, bne_iff_ne, ne_eq, false_iff, iff_false, true_iff, iff_true]; omega)
      | omega)
    all_goals try (exfalso; exact h14 (by omega) (by omega))
    all_goals try (rw [hro, if_neg (by rw [hd]; grind)]; exact ⟨rfl, rfl⟩)
    all_goals (
        refine Dm_loop [0, 4, 5, 6] (fun m ds H' => ∃ i : Nat, i ≤ s.length ∧ m = s.length - i ∧ (s.take i).all digP = true ∧ ds = [.p (.str s), .p (.str s), .p (.int .i64 (valN (s.take i))), .p (.int .i64 i)] ∧ H' = []) s.length ⟨0, by omega, by omega, rfl, rfl, rfl⟩ ?_
        rintro m ds H' ⟨i, hi, rfl, hp, rfl, rfl⟩ -
        have h1 := fun h : i < s.length => dig_step h hp
        have h2 := fun h : i < s.length => dig_no h
        have h3 := fun h : i < s.length => val_step h
        have h4 : valN (s.take i) < 1000000 := by
          have := val_lt _ (s.take i) rfl hp
          have h5 : (s.take i).length ≤ 6 := by rw [List.length_take]; omega
          exact Nat.lt_of_lt_of_le this (Nat.le_trans (Nat.pow_le_pow_right (by omega) h5) (by decide))
        have h6 := u8_lt (s.getD i default)
        have h7 : digP (s.getD i default) = decide (48 ≤ (s.getD i default).toNat ∧ (s.getD i default).toNat ≤ 57) := rfl
        have h8 : s.length ≤ i → s.all digP = true := fun h => by rwa [List.take_of_length_le h] at hp
        have h9 : s.length ≤ i → s.take i = s := fun h => List.take_of_length_le h
        have e0 : (s.getD i 0).toNat = (s.getD i default).toNat := rfl
        rcases Nat.lt_or_ge i s.length with hlt | hge
        · repeat' (first
            | (simp only [go_sem, reduceIte, Nat.reduceEqDiff, Nat.reduceBEq])
            | (simp (disch := omega) only [w64, w8, nadd1])
            | (refine Rm_need (by first | exact True.intro | omega | (simp; omega)) ?_)
            | (refine Rm_gi (by first | omega | (simp; omega)) ?_)
            | (refine Rm_gb (by first | omega | (simp; omega)) ?_)
            | (refine Rm_ga (by first | omega | (simp; omega)) _ rfl (Nat.le_of_ble_eq_true rfl) ?_)
            | (refine Rm_gm (by first | omega | (simp; omega)) _ rfl ?_)
            | (refine Rm_part _ _ rfl rfl ?_)
            | (refine Rm_puti (by first | omega | (simp; omega)) rfl ?_)
            | (refine Dm_draw [] (by simp) ?_)
            | (refine Tm_both ?_ ?_)
            | (refine Tm_fin (by simp only [hideOK, newsE]; simp []) ?_)
            | (refine Cm_split (fun h => ?_) (fun h => ?_) <;> (try (simp only [decide_eq_true_eq, decide_eq_false_iff_not] at h)) <;> (try omega))
            | (refine Gm_split (fun h => ?_) (fun h => ?_) <;> (try simp only [ne_eq, Bool.not_eq_true, Bool.not_eq_false] at h) <;> (try rw [h]) <;> (try (simp only [decide_eq_true_eq, decide_eq_false_iff_not, bne_iff_ne, beq_iff_eq, bne_eq_false_iff_eq, beq_eq_false_iff_ne, Bool.not_eq_true, Bool.not_eq_true', Bool.not_eq_false, Bool.not_eq_false', ne_eq, Bool.and_eq_true, Bool.or_eq_true, true_eq_decide_iff, false_eq_decide_iff] at h)) <;> (try omega))
            | (refine Sm_split (fun h => ?_) (fun h => ?_) <;> (try (simp only [decide_eq_true_eq, decide_eq_false_iff_not] at h)) <;> (try omega))
            | (exact ret_p rfl ⟨rfl, rfl⟩)
            | (refine ret_okv (by first | trivial | simp only [go_sem, detD, detDs, detP, and_self, and_true]) ?_)
            | (exact ret_gen _ _ _ rfl rfl rfl ⟨rfl, rfl⟩)
            | (simp only [Option.some.injEq, DV.tup.injEq, DV.p.injEq, List.cons.injEq, PV.int.injEq, PV.bool.injEq, and_true, true_and])
            | rfl
            | (refine Bool.eq_iff_iff.2 ?_; simp only [decide_eq_true_eq, Bool.and_eq_true, Bool.or_eq_true, Bool.not_eq_true', decide_eq_false_iff_not, Bool.false_eq_true, beq_iff_eq, bne_iff_ne, ne_eq, false_iff, iff_false, true_iff, iff_true]; omega)
            | omega)
          all_goals first
            | (refine Xm_inv_n (s.length - (i + 1)) (by omega) ⟨i + 1, by omega, rfl, ?_, ?_, rfl⟩
               · rw [h1 (by omega), h7]; simp only [decide_eq_true_eq]; omega
               · rw [h3 (by omega), show ((10 * valN (s.take i) + ((s.getD i default).toNat - 48) : Nat) : Int) = 10 * (valN (s.take i) : Int) + (((s.getD i 0).toNat : Int) - 48) from by omega]; rfl)
            | (rw [hro, if_neg (by rw [hd, h2 (by omega) (by rw [h7]; simp only [decide_eq_false_iff_not]; omega)]; simp)]; exact ⟨rfl, rfl⟩)
            | skip
        · rw [h9 hge]
          have h8 := h8 hge
          have hv : valN s < 1000000 := by rw [← h9 hge]; exact h4
          have hnum := k_l1Num (rdI s) (by rw [hi0]; split <;> omega)
          rw [hi0] at hnum hro hd
          rw [if_neg hsl] at hnum hro hd
          by_cases hq : num ((valN s : Int)) = s
          · rw [hro, if_pos (by rw [hd, h8]; grind)]
            rw [hq] at hnum
            repeat' (first
              | (simp only [go_sem, reduceIte, Nat.reduceEqDiff])
              | (simp (disch := omega) only [w64, w8, bytesOf_cons, tmod10, tdiv10, tn48, nsub1, nadd1, nsub, nadd, nmul, List.take_length, Int.toNat_zero, Int.reduceAdd, Int.reduceSub, Int.reduceToNat, Int.reduceMul, Nat.sub_zero, Nat.min_self])
              | (refine Rm_need (by first | exact True.intro | omega | (simp; omega)) ?_)
              | (refine Rm_w rfl (hnum) (by trivial) ?_)
              | (refine Rm_w ?_ (hnum) (by trivial) ?_; · (simp [viewOfs, viewOf, List.take_of_length_le, cutL]; done))
              | (refine Rm_gi (by first | omega | (simp; omega)) ?_)
              | (refine Rm_gb (by first | omega | (simp; omega)) ?_)
              | (refine Rm_ga (by first | omega | (simp; omega)) _ rfl (Nat.le_of_ble_eq_true rfl) ?_)
              | (refine Rm_gm (by first | omega | (simp; omega)) _ rfl ?_)
              | (refine Rm_part _ _ rfl rfl ?_)
              | (refine Rm_puti (by first | omega | (simp; omega)) rfl ?_)
              | (refine Dm_draw [] (by simp) ?_)
              | (refine Tm_both ?_ ?_)
              | (refine Tm_fin (by simp only [hideOK, newsE]; simp []) ?_)
              | (refine Cm_split (fun h => ?_) (fun h => ?_) <;> (try (simp only [decide_eq_true_eq, decide_eq_false_iff_not] at h)) <;> (try omega))
              | (refine Gm_split (fun h => ?_) (fun h => ?_) <;> (try simp only [ne_eq, Bool.not_eq_true, Bool.not_eq_false] at h) <;> (try rw [h]) <;> (try (simp only [decide_eq_true_eq, decide_eq_false_iff_not, bne_iff_ne, beq_iff_eq, bne_eq_false_iff_eq, beq_eq_false_iff_ne, Bool.not_eq_true, Bool.not_eq_true', Bool.not_eq_false, Bool.not_eq_false', ne_eq, Bool.and_eq_true, Bool.or_eq_true, true_eq_decide_iff, false_eq_decide_iff] at h)) <;> (try omega))
              | (refine Sm_split (fun h => ?_) (fun h => ?_) <;> (try (simp only [decide_eq_true_eq, decide_eq_false_iff_not, bne_iff_ne, beq_iff_eq, bne_eq_false_iff_eq, beq_eq_false_iff_ne, Bool.not_eq_true, Bool.not_eq_true', Bool.not_eq_false, Bool.not_eq_false', ne_eq, Bool.and_eq_true, Bool.or_eq_true, true_eq_decide_iff, false_eq_decide_iff] at h)) <;> (try omega))
              | (exact ret_p rfl ⟨rfl, rfl⟩)
              | (refine ret_okv (by first | trivial | simp only [go_sem, detD, detDs, detP, and_self, and_true]) ?_)
              | (exact ret_gen _ _ _ rfl rfl rfl ⟨rfl, rfl⟩)
              | (simp only [Option.some.injEq, DV.tup.injEq, DV.p.injEq, List.cons.injEq, PV.int.injEq, PV.bool.injEq, PV.str.injEq, and_true, true_and])
              | rfl
              | (refine Bool.eq_iff_iff.2 ?_; simp only [decide_eq_true_eq, Bool.and_eq_true, Bool.or_eq_true, Bool.not_eq_true', decide_eq_false_iff_not, Bool.false_eq_true, beq_iff_eq, bne_iff_ne, ne_eq, false_iff, iff_false, true_iff, iff_true]; omega)
              | omega)
            all_goals skip
          · rw [hro, if_neg (by rw [hd]; grind)]
            repeat' (first
              | (simp only [go_sem, reduceIte, Nat.reduceEqDiff])
              | (simp (disch := omega) only [w64, w8, bytesOf_cons, tmod10, tdiv10, tn48, nsub1, nadd1, nsub, nadd, nmul, List.take_length, Int.toNat_zero, Int.reduceAdd, Int.reduceSub, Int.reduceToNat, Int.reduceMul, Nat.sub_zero, Nat.min_self])
              | (refine Rm_need (by first | exact True.intro | omega | (simp; omega)) ?_)
              | (refine Rm_w rfl (hnum) (by trivial) ?_)
              | (refine Rm_w ?_ (hnum) (by trivial) ?_; · (simp [viewOfs, viewOf, List.take_of_length_le, cutL]; done))
              | (refine Rm_gi (by first | omega | (simp; omega)) ?_)
              | (refine Rm_gb (by first | omega | (simp; omega)) ?_)
              | (refine Rm_ga (by first | omega | (simp; omega)) _ rfl (Nat.le_of_ble_eq_true rfl) ?_)
              | (refine Rm_gm (by first | omega | (simp; omega)) _ rfl ?_)
              | (refine Rm_part _ _ rfl rfl ?_)
              | (refine Rm_puti (by first | omega | (simp; omega)) rfl ?_)
              | (refine Dm_draw [] (by simp) ?_)
              | (refine Tm_both ?_ ?_)
              | (refine Tm_fin (by simp only [hideOK, newsE]; simp []) ?_)
              | (refine Cm_split (fun h => ?_) (fun h => ?_) <;> (try (simp only [decide_eq_true_eq, decide_eq_false_iff_not, beq_iff_eq, beq_eq_false_iff_ne, Bool.not_eq_true', Bool.not_eq_false', ne_eq] at h)) <;> (try omega))
              | (refine Gm_split (fun h => ?_) (fun h => ?_) <;> (try simp only [ne_eq, Bool.not_eq_true, Bool.not_eq_false] at h) <;> (try rw [h]) <;> (try (simp only [decide_eq_true_eq, decide_eq_false_iff_not, bne_iff_ne, beq_iff_eq, bne_eq_false_iff_eq, beq_eq_false_iff_ne, Bool.not_eq_true, Bool.not_eq_true', Bool.not_eq_false, Bool.not_eq_false', ne_eq, Bool.and_eq_true, Bool.or_eq_true, true_eq_decide_iff, false_eq_decide_iff] at h)) <;> (try omega))
              | (refine Sm_split (fun h => ?_) (fun h => ?_) <;> (try (simp only [decide_eq_true_eq, decide_eq_false_iff_not, bne_iff_ne, beq_iff_eq, bne_eq_false_iff_eq, beq_eq_false_iff_ne, Bool.not_eq_true, Bool.not_eq_true', Bool.not_eq_false, Bool.not_eq_false', ne_eq, Bool.and_eq_true, Bool.or_eq_true, true_eq_decide_iff, false_eq_decide_iff] at h)) <;> (try omega))
              | (exact ret_p rfl ⟨rfl, rfl⟩)
              | (refine ret_okv (by first | trivial | simp only [go_sem, detD, detDs, detP, and_self, and_true]) ?_)
              | (exact ret_gen _ _ _ rfl rfl rfl ⟨rfl, rfl⟩)
              | (simp only [Option.some.injEq, DV.tup.injEq, DV.p.injEq, List.cons.injEq, PV.int.injEq, PV.bool.injEq, and_true, true_and])
              | rfl
              | (refine Bool.eq_iff_iff.2 ?_; simp only [decide_eq_true_eq, Bool.and_eq_true, Bool.or_eq_true, Bool.not_eq_true', decide_eq_false_iff_not, Bool.false_eq_true, beq_iff_eq, bne_iff_ne, ne_eq, false_iff, iff_false, true_iff, iff_true]; omega)
              | omega)
            all_goals first
              | exact ⟨rfl, rfl⟩
              | (exfalso; exact hq (by assumption))
              | skip)
theorem dec_no {n : Nat} {c : UInt8} (hc : digP c = false) : c ∉ dec n := fun hm => by
  have := List.all_eq_true.1 (dec_ok n).1 c hm
  rw [hc] at this
  cases this
theorem dec_get0 {n : Nat} : (dec n).getD 0 0 ≠ 45 := fun e => dec_no (n := n) (c := 45) (by decide) (by rw [← e]; exact getD_mem (dec_pos n))
theorem mag_num {n : Int} : magO (num n) = dec n.natAbs := by
  unfold num
  split
  · have h := dec_pos n.natAbs
    unfold magO
    rw [if_pos ⟨by rw [List.length_cons]; omega, rfl⟩]
    rfl
  · unfold magO
    rw [if_neg (fun h => dec_get0 h.2)]
theorem num_size {n : Int} : (num n).length = (dec n.natAbs).length + (if n < 0 then 1 else 0) := by
  unfold num
  split
  · rw [List.length_cons]
  · rfl
theorem read_num {n : Int} (h : -999999 ≤ n ∧ n ≤ 999999) : readO (num n) = (n, true) := by
  obtain ⟨h1, h2⟩ := dec_ok n.natAbs
  have h3 := dec_len n.natAbs 5 (by omega)
  have h4 := dec_pos n.natAbs
  have hs := num_size (n := n)
  have hi : rdI (num n) = n := by
    unfold rdI
    rw [mag_num, h2, hs]
    by_cases h5 : n < 0
    · rw [if_pos h5, if_pos (by omega)]; omega
    · rw [if_neg h5, if_neg (by omega)]; omega
  have hb : rdB (num n) = true := by
    unfold rdB
    rw [mag_num, h1, hi]
    simp
    omega
  unfold readO
  rw [if_pos hb, hi]
def sgnO (s : List UInt8) : Bool := decide (0 < s.length ∧ s.getD 0 default = 45)
def piT (s : List UInt8) : List UInt8 := if sgnO s = true then s.drop 1 else s
def piB (s : List UInt8) : Bool := (numO (piT s)).2 && decide ((numO (piT s)).1 ≤ 999999) && !(decide ((numO (piT s)).1 = 0) && sgnO s)
/-- what impl.ParseInt reads -/
def piO (s : List UInt8) : Int × Bool := if piB s = true then (if sgnO s = true then -(numO (piT s)).1 else (numO (piT s)).1, true) else (0, false)
theorem numO_in (s : List UInt8) : 0 ≤ (numO s).1 ∧ (numO s).1 < 1000000000 := by
  unfold numO
  split
  · rename_i h
    unfold numB at h
    simp only [Bool.and_eq_true, Bool.or_eq_true, decide_eq_true_eq] at h
    have h2 := val_lt _ s rfl h.1.2
    have h3 : 10 ^ s.length ≤ 10 ^ 9 := Nat.pow_le_pow_right (by omega) h.1.1.2
    simp only []
    omega
  · simp
theorem pi_in (s : List UInt8) : -999999 ≤ (piO s).1 ∧ (piO s).1 ≤ 999999 := by
  have h1 := numO_in (piT s)
  unfold piO
  split
  · rename_i h
    unfold piB at h
    simp only [Bool.and_eq_true, decide_eq_true_eq] at h
    have h2 := h.1.2
    simp only []
    split <;> omega
  · simp
theorem sgn_num {n : Int} : sgnO (num n) = decide (n < 0) ∧ piT (num n) = dec n.natAbs := by
  have e : sgnO (num n) = decide (n < 0) := by
    unfold num sgnO
    split
    · rename_i h
      rw [decide_eq_true h]
      simp
    · rename_i h
      rw [decide_eq_false h]
      simp only [decide_eq_false_iff_not]
      exact fun h => dec_get0 h.2
  refine ⟨e, ?_⟩
  unfold piT
  rw [e]
  unfold num
  split
  · rename_i h
    rw [if_pos (of_decide_eq_true h)]
    rfl
  · rename_i h
    rw [if_neg (fun h2 => h (decide_eq_true h2))]
theorem pi_num {n : Int} (h : -999999 ≤ n ∧ n ≤ 999999) : piO (num n) = (n, true) := by
  obtain ⟨h1, h2⟩ := sgn_num (n := n)
  have h3 := numO_dec (n := n.natAbs) (by omega)
  have hb : piB (num n) = true := by
    unfold piB
    rw [h1, h2, h3]
    simp
    omega
  unfold piO
  rw [if_pos hb, h1, h2, h3]
  simp only [decide_eq_true_eq]
  split
  · congr 1; omega
  · congr 1; omega
set_option maxRecDepth 100000 in
set_option maxHeartbeats 16000000 in
/-- impl.ParseInt -/
theorem k_ParseInt (s : List UInt8) (hl : s.length ≤ 1099511627776) : Okv Try.prog 102 [.str s] (.tup [.p (.int .i64 (piO s).1), .p (.bool (piO s).2)]) := by
  refine ok_D hmix c_impl_ParseInt (by simp) ?_
  have h45 : ∀ c : UInt8, (c.toNat : Int) = 45 ↔ c = 45 := fun c => u8_lit (n := 45) (by omega)
  have hs : sgnO s = decide (0 < s.length ∧ s.getD 0 default = 45) := rfl
  have ht : piT s = if sgnO s = true then s.drop 1 else s := rfl
  have hn := numO_in (piT s)
  have hc1 : cutL s 1 s.length = s.drop 1 := List.take_of_length_le (by simp)
  have hp : piO s = if ((numO (piT s)).2 && decide ((numO (piT s)).1 ≤ 999999) && !(decide ((numO (piT s)).1 = 0) && sgnO s)) = true then (if sgnO s = true then -(numO (piT s)).1 else (numO (piT s)).1, true) else (0, false) := rfl
  have hk := k_number (piT s) (by rw [ht]; split <;> (try rw [List.length_drop]) <;> omega)
  generalize piO s = P at *
  subst hp
  generalize hN : numO (piT s) = N at *
  obtain ⟨v, b⟩ := N
  simp only [] at *
  by_cases h0 : 0 < s.length ∧ s.getD 0 default = 45
  · have h12 : ((s.getD 0 default).toNat : Int) = 45 := by rw [h0.2]; rfl
    have h13 : ((s.getD 0 0).toNat : Int) = 45 := h12
    rw [decide_eq_true h0] at hs
    rw [hs, if_pos rfl] at ht
    rw [ht] at hk
    rw [hs]
    have hT : (s.drop 1).length ≤ s.length := by rw [List.length_drop]; omega
    generalize s.drop 1 = T at *
    obtain ⟨h0, _⟩ := h0
    clear ht hN
    cases b
    all_goals
      simp only [envOf, envFrom, go_sem, reduceIte, Nat.reduceEqDiff, Nat.reduceBEq]
      repeat' (first
        | (simp only [go_sem, reduceIte, Nat.reduceEqDiff, Nat.reduceBEq])
        | (simp (disch := omega) only [w64, Int.toNat_zero, Int.reduceToNat])
        | (refine Rm_need (by first | exact True.intro | omega | (simp; omega)) ?_)
        | (rw [h13])
        | (rw [h12])
        | (rw [hc1])
        | (refine Rm_w rfl (hk) (by trivial) ?_)
        | (refine Rm_w ?_ (hk) (by trivial) ?_; · (simp [viewOfs, viewOf, List.take_of_length_le, cutL]; done))
        | (refine Rm_gi (by first | omega | (simp; omega)) ?_)
        | (refine Rm_gb (by first | omega | (simp; omega)) ?_)
        | (refine Rm_ga (by first | omega | (simp; omega)) _ rfl (Nat.le_of_ble_eq_true rfl) ?_)
        | (refine Rm_gm (by first | omega | (simp; omega)) _ rfl ?_)
        | (refine Rm_part _ _ rfl rfl ?_)
        | (refine Rm_puti (by first | omega | (simp; omega)) rfl ?_)
        | (refine Dm_draw [] (by simp) ?_)
        | (refine Tm_both ?_ ?_)
        | (refine Tm_fin (by simp only [hideOK, newsE]; simp []) ?_)
        | (refine Cm_split (fun h => ?_) (fun h => ?_) <;> (try (simp only [decide_eq_true_eq, decide_eq_false_iff_not] at h)) <;> (try omega))
        | (refine Gm_split (fun h => ?_) (fun h => ?_) <;> (try simp only [ne_eq, Bool.not_eq_true, Bool.not_eq_false] at h) <;> (try rw [h]) <;> (try (simp only [decide_eq_true_eq, decide_eq_false_iff_not, bne_iff_ne, beq_iff_eq, bne_eq_false_iff_eq, beq_eq_false_iff_ne, Bool.not_eq_true, Bool.not_eq_true', Bool.not_eq_false, Bool.not_eq_false', ne_eq, Bool.and_eq_true, Bool.or_eq_true, true_eq_decide_iff, false_eq_decide_iff] at h)) <;> (try omega))
        | (refine Sm_split (fun h => ?_) (fun h => ?_) <;> (try (simp only [decide_eq_true_eq, decide_eq_false_iff_not, beq_iff_eq, beq_eq_false_iff_ne, ne_eq] at h)) <;> (try omega))
        | (exact ret_p rfl ⟨rfl, rfl⟩)
        | (refine ret_okv (by first | trivial | simp only [go_sem, detD, detDs, detP, and_self, and_true]) ?_)
        | (exact ret_gen _ _ _ rfl rfl rfl ⟨rfl, rfl⟩)
        | (simp only [Option.some.injEq, DV.tup.injEq, DV.p.injEq, List.cons.injEq, PV.int.injEq, PV.bool.injEq, and_true, true_and])
        | rfl
        | (refine Bool.eq_iff_iff.2 ?_; simp only [decide_eq_true_eq, Bool.and_eq_true, Bool.or_eq_true, Bool.not_eq_true', decide_eq_false_iff_not, Bool.false_eq_true, beq_iff_eq, bne_iff_ne, ne_eq, false_iff, iff_false, true_iff, iff_true]; omega)
        | omega)
    all_goals first
      | done
      | (simp; done)
      | grind
      | (simp; omega)
      | skip
  · rw [decide_eq_false h0] at hs
    rw [hs, if_neg (by decide)] at ht
    rw [ht] at hk
    rw [hs]
    have h14 : 0 < s.length → ¬ ((s.getD 0 default).toNat : Int) = 45 := fun h1 h2 => h0 ⟨h1, (h45 _).1 h2⟩
    have h15 : (s.getD 0 0).toNat = (s.getD 0 default).toNat := rfl
    clear ht hN h0
    cases b
    all_goals
      simp only [envOf, envFrom, go_sem, reduceIte, Nat.reduceEqDiff, Nat.reduceBEq, Bool.false_eq_true]
      repeat' (first
        | (simp only [go_sem, reduceIte, Nat.reduceEqDiff, Nat.reduceBEq])
        | (simp (disch := omega) only [w64, Int.toNat_zero])
        | (refine Rm_need (by first | exact True.intro | omega | (simp; omega)) ?_)
        | (refine Rm_w rfl (hk) (by trivial) ?_)
        | (refine Rm_w ?_ (hk) (by trivial) ?_; · (simp [viewOfs, viewOf, List.take_of_length_le, cutL]; done))
        | (refine Rm_gi (by first | omega | (simp; omega)) ?_)
        | (refine Rm_gb (by first | omega | (simp; omega)) ?_)
        | (refine Rm_ga (by first | omega | (simp; omega)) _ rfl (Nat.le_of_ble_eq_true rfl) ?_)
        | (refine Rm_gm (by first | omega | (simp; omega)) _ rfl ?_)
        | (refine Rm_part _ _ rfl rfl ?_)
        | (refine Rm_puti (by first | omega | (simp; omega)) rfl ?_)
        | (refine Dm_draw [] (by simp) ?_)
        | (refine Tm_both ?_ ?_)
        | (refine Tm_fin (by simp only [hideOK, newsE]; simp []) ?_)
        | (refine Cm_split (fun h => ?_) (fun h => ?_) <;> (try (simp only [decide_eq_true_eq, decide_eq_false_iff_not, beq_iff_eq, beq_eq_false_iff_ne, ne_eq] at h)) <;> (try omega))
        | (refine Gm_split (fun h => ?_) (fun h => ?_) <;> (try simp only [ne_eq, Bool.not_eq_true, Bool.not_eq_false] at h) <;> (try rw [h]) <;> (try (simp only [decide_eq_true_eq, decide_eq_false_iff_not, bne_iff_ne, beq_iff_eq, bne_eq_false_iff_eq, beq_eq_false_iff_ne, Bool.not_eq_true, Bool.not_eq_true', Bool.not_eq_false, Bool.not_eq_false', ne_eq, Bool.and_eq_true, Bool.or_eq_true, true_eq_decide_iff, false_eq_decide_iff] at h)) <;> (try omega))
        | (refine Sm_split (fun h => ?_) (fun h => ?_) <;> (try (simp only [decide_eq_true_eq, decide_eq_false_iff_not, beq_iff_eq, beq_eq_false_iff_ne, ne_eq] at h)) <;> (try omega))
        | (exact ret_p rfl ⟨rfl, rfl⟩)
        | (refine ret_okv (by first | trivial | simp only [go_sem, detD, detDs, detP, and_self, and_true]) ?_)
        | (exact ret_gen _ _ _ rfl rfl rfl ⟨rfl, rfl⟩)
        | (simp only [Option.some.injEq, DV.tup.injEq, DV.p.injEq, List.cons.injEq, PV.int.injEq, PV.bool.injEq, and_true, true_and])
        | rfl
        | (refine Bool.eq_iff_iff.2 ?_; simp only [decide_eq_true_eq, Bool.and_eq_true, Bool.or_eq_true, Bool.not_eq_true', decide_eq_false_iff_not, Bool.false_eq_true, beq_iff_eq, bne_iff_ne, ne_eq, false_iff, iff_false, true_iff, iff_true]; omega)
        | omega)
    all_goals first
      | done
      | (exfalso; exact h14 (by omega) (by omega))
      | (simp; done)
      | grind
      | (simp; omega)
      | skip
end Go.Proofs.Ytchekagoaidlpaa

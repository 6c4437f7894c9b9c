import Derived.Test.YtchekagoaidlpaaSp7
import Derived.Test.YtchekagoaidlpaaNums2
namespace Go.Proofs.Ytchekagoaidlpaa
open Go.Dv Go.Dv.EvL
attribute [local irreducible] Ok Rm Dm Om Sm Xm Cm Gm Hm Tm

/-! ### heights, read -/
def chkH (s : Txt) (v : Int × Bool) : Int × Bool := if v.2 = true ∧ htB v.1 = true ∧ htT v.1 = s then (v.1, true) else (0, false)
def hgI (s : Txt) : Int × Bool := if 2 < s.length ∧ s.take 2 = [70, 76] then ((numO (s.drop 2)).1 * 100, (numO (s.drop 2)).2) else if 3 < s.length ∧ s.drop (s.length - 3) = [32, 102, 116] then piO (s.take (s.length - 3)) else (0, false)
def hgS (s : Txt) : Int × Bool := if 12 < s.length then (0, false) else if 2 < s.length ∧ s.take 2 = [70, 76] then (100 * (readO (s.drop 2)).1, (readO (s.drop 2)).2) else if 3 < s.length ∧ s.drop (s.length - 3) = [32, 102, 116] then readO (s.take (s.length - 3)) else (0, false)
theorem chk_in (s : Txt) (v : Int × Bool) : -2000 ≤ (chkH s v).1 ∧ (chkH s v).1 ≤ 130000 := by
  unfold chkH
  split
  · rename_i h
    have := h.2.1
    unfold htB at this
    exact of_decide_eq_true this
  · simp
theorem chk_at {h : Int} (hb : htB h = true) : chkH (htT h) (h, true) = (h, true) := by
  unfold chkH
  rw [if_pos ⟨rfl, hb, rfl⟩]
theorem num_no {n : Int} {c : UInt8} (hc : digP c = false) (h2 : c ≠ 45) : c ∉ num n := by
  unfold num
  split
  · simp only [List.mem_cons, not_or]
    exact ⟨h2, dec_no hc⟩
  · exact dec_no hc
theorem num_pos (n : Int) : 0 < (num n).length := by
  have := dec_pos n.natAbs
  rw [num_size]
  omega
theorem ft_head {n : Int} : ¬ (num n ++ [32, 102, 116]).take 2 = [70, 76] := by
  intro h
  have h1 := num_pos n
  obtain ⟨c, t, e⟩ : ∃ c t, num n = c :: t := List.exists_cons_of_length_pos h1
  have h2 := num_no (n := n) (c := 70) (by decide) (by decide)
  rw [e] at h h2
  simp only [List.cons_append, List.take_succ_cons, List.cons.injEq] at h
  rw [h.1] at h2
  simp at h2
theorem ft_cut {n : Int} : (num n ++ [32, 102, 116]).drop ((num n ++ [32, 102, 116]).length - 3) = [32, 102, 116] ∧ (num n ++ [32, 102, 116]).take ((num n ++ [32, 102, 116]).length - 3) = num n := by
  have e : (num n ++ [32, 102, 116]).length - 3 = (num n).length := by simp
  rw [e]
  exact ⟨List.drop_left, List.take_left⟩
theorem ht_cases {h : Int} (hb : htB h = true) : (∃ k : Nat, k ≤ 1300 ∧ h = 100 * k ∧ htT h = [70, 76] ++ dec k) ∨ (htT h = num h ++ [32, 102, 116] ∧ -2000 ≤ h ∧ h ≤ 130000) := by
  have h0 : -2000 ≤ h ∧ h ≤ 130000 := of_decide_eq_true hb
  unfold htT
  split
  · rename_i hc
    have h1 := Int.mul_tdiv_add_tmod h 100
    have h2 := tdiv_in h0
    have h3 := Int.tdiv_nonneg (show 0 ≤ h by omega) (show (0 : Int) ≤ 100 by decide)
    refine .inl ⟨(h.tdiv 100).toNat, by omega, by omega, ?_⟩
    rw [num_dec h3]
  · exact .inr ⟨rfl, h0⟩
theorem hgI_at {h : Int} (hb : htB h = true) : hgI (htT h) = (h, true) := by
  rcases ht_cases hb with ⟨k, hk, e, e2⟩ | ⟨e, h0⟩
  · rw [e2]
    have hp := dec_pos k
    unfold hgI
    rw [if_pos ⟨by simp; omega, rfl⟩]
    have e3 : ([70, 76] ++ dec k).drop 2 = dec k := rfl
    rw [e3, numO_dec (by omega)]
    simp only [Prod.mk.injEq, and_true]
    omega
  · rw [e]
    unfold hgI
    rw [if_neg (fun h => ft_head h.2), ft_cut.1, ft_cut.2, if_pos ⟨by have := num_pos h; simp; omega, rfl⟩]
    exact pi_num (by omega)
theorem hgS_at {h : Int} (hb : htB h = true) : hgS (htT h) = (h, true) := by
  rcases ht_cases hb with ⟨k, hk, e, e2⟩ | ⟨e, h0⟩
  · rw [e2]
    have hp := dec_pos k
    have hl := dec_len k 3 (by omega)
    unfold hgS
    rw [if_neg (by simp; omega), if_pos ⟨by simp; omega, rfl⟩]
    have e3 : ([70, 76] ++ dec k).drop 2 = num k := by rw [num_dec (by omega)]; rfl
    rw [e3, read_num (by omega)]
    simp only [Prod.mk.injEq, and_true]
    omega
  · rw [e]
    have hl := dec_len h.natAbs 5 (by omega)
    have hs := num_size (n := h)
    unfold hgS
    rw [if_neg (by simp; split at hs <;> omega), if_neg (fun h => ft_head h.2), ft_cut.1, ft_cut.2, if_pos ⟨by have := num_pos h; simp; omega, rfl⟩]
    exact read_num (by omega)
theorem read_in (s : Txt) : -999999 ≤ (readO s).1 ∧ (readO s).1 ≤ 999999 := by
  unfold readO
  split
  · rename_i h
    unfold rdB at h
    simp only [Bool.and_eq_true, decide_eq_true_eq] at h
    have h2 := val_lt _ (magO s) rfl h.1.2
    have h3 : 10 ^ (magO s).length ≤ 10 ^ 6 := Nat.pow_le_pow_right (by omega) h.1.1.2
    simp only [rdI]
    split <;> omega
  · simp
set_option maxRecDepth 100000 in
set_option maxHeartbeats 16000000 in
/-- impl.ParseHeight -/
theorem k_iParseHeight (s : Txt) (hl : s.length ≤ 1099511627776) : Okv Try.prog 82 [.str s] (.tup [.p (.int .i64 (chkH s (hgI s)).1), .p (.bool (chkH s (hgI s)).2)]) := by
  refine ok_D hmix c_impl_ParseHeight (by simp) ?_
  have h3n : ((s.length : Int) - 3).toNat = s.length - 3 := by omega
  have hk1 := k_number (s.drop 2) (by rw [List.length_drop]; omega)
  have hk2 := k_ParseInt (s.take (s.length - 3)) (by rw [List.length_take]; omega)
  have hn1 := numO_in (s.drop 2)
  have hn2 := pi_in (s.take (s.length - 3))
  have hg : hgI s = if 2 < s.length ∧ s.take 2 = [70, 76] then ((numO (s.drop 2)).1 * 100, (numO (s.drop 2)).2) else if 3 < s.length ∧ s.drop (s.length - 3) = [32, 102, 116] then piO (s.take (s.length - 3)) else (0, false) := rfl
  have hc : ∀ v, chkH s v = if v.2 = true ∧ htB v.1 = true ∧ htT v.1 = s then (v.1, true) else (0, false) := fun _ => rfl
  have hc := hc (hgI s)
  generalize chkH s (hgI s) = R at *
  generalize hgI s = G at *
  subst hc
  generalize numO (s.drop 2) = N at *
  generalize piO (s.take (s.length - 3)) = P at *
  obtain ⟨n1, b1⟩ := N
  obtain ⟨n2, b2⟩ := P
  by_cases h1 : 2 < s.length ∧ s.take 2 = [70, 76]
  · rw [if_pos h1] at hg
    subst hg
    simp only [] at *
    have a1 := k_isHeight (n1 * 100)
    have a2 := k_heightText (n1 * 100)
    generalize htT (n1 * 100) = T at *
    clear hk2 hn2
    cases b1 <;> cases hh : htB (n1 * 100)
    all_goals
      rw [hh] at a1
      try have a2 := a2 hh
      simp only [envOf, envFrom, go_sem, reduceIte, Nat.reduceEqDiff, Nat.reduceBEq, Bool.false_eq_true]
      repeat' (first
        | (simp only [go_sem, reduceIte, Nat.reduceEqDiff, Nat.reduceBEq])
        | (simp (disch := omega) only [w64, Int.reduceToNat])
        | (refine Rm_need (by first | exact True.intro | omega | (simp; omega)) ?_)
        | (rw [h3n])
        | (rw [cutE])
        | (rw [cutZ])
        | (refine Rm_w rfl (hk1) (by trivial) ?_)
        | (refine Rm_w ?_ (hk1) (by trivial) ?_; · (simp [viewOfs, viewOf, List.take_of_length_le, cutL]; done))
        | (refine Rm_w rfl (a1) (by trivial) ?_)
        | (refine Rm_w ?_ (a1) (by trivial) ?_; · (simp [viewOfs, viewOf, List.take_of_length_le, cutL]; done))
        | (refine Rm_w rfl (a2) (by trivial) ?_)
        | (refine Rm_w ?_ (a2) (by trivial) ?_; · (simp [viewOfs, viewOf, List.take_of_length_le, cutL]; done))
        | (refine Rm_gi (by first | omega | (simp; omega)) ?_)
        | (refine Rm_gb (by first | omega | (simp; omega)) ?_)
        | (refine Rm_ga (by first | omega | (simp; omega)) _ rfl (Nat.le_of_ble_eq_true rfl) ?_)
        | (refine Rm_gm (by first | omega | (simp; omega)) _ rfl ?_)
        | (refine Rm_part _ _ rfl rfl ?_)
        | (refine Rm_puti (by first | omega | (simp; omega)) rfl ?_)
        | (refine Dm_draw [] (by simp) ?_)
        | (refine Tm_both ?_ ?_)
        | (refine Tm_fin (by simp only [hideOK, newsE]; simp []) ?_)
        | (refine Cm_split (fun h => ?_) (fun h => ?_) <;> (try (simp only [beq_iff_eq, beq_eq_false_iff_ne, Bool.not_eq_true', Bool.not_eq_false', ne_eq] at h)) <;> (try omega))
        | (refine Gm_split (fun h => ?_) (fun h => ?_) <;> (try simp only [ne_eq, Bool.not_eq_true, Bool.not_eq_false] at h) <;> (try rw [h]) <;> (try (simp only [decide_eq_true_eq, decide_eq_false_iff_not, bne_iff_ne, beq_iff_eq, bne_eq_false_iff_eq, beq_eq_false_iff_ne, Bool.not_eq_true, Bool.not_eq_true', Bool.not_eq_false, Bool.not_eq_false', ne_eq, Bool.and_eq_true, Bool.or_eq_true, true_eq_decide_iff, false_eq_decide_iff] at h)) <;> (try omega))
        | (refine Sm_split (fun h => ?_) (fun h => ?_) <;> (try (simp only [decide_eq_true_eq, decide_eq_false_iff_not] at h)) <;> (try omega))
        | (exact ret_p rfl ⟨rfl, rfl⟩)
        | (refine ret_okv (by first | trivial | simp only [go_sem, detD, detDs, detP, and_self, and_true]) ?_)
        | (exact ret_gen _ _ _ rfl rfl rfl ⟨rfl, rfl⟩)
        | (simp only [Option.some.injEq, DV.tup.injEq, DV.p.injEq, List.cons.injEq, PV.int.injEq, PV.bool.injEq, and_true, true_and])
        | rfl
        | (refine Bool.eq_iff_iff.2 ?_; simp only [decide_eq_true_eq, Bool.and_eq_true, Bool.or_eq_true, Bool.not_eq_true', decide_eq_false_iff_not, Bool.false_eq_true, beq_iff_eq, bne_iff_ne, ne_eq, false_iff, iff_false, true_iff, iff_true]; omega)
        | omega)
    all_goals first
      | (simp; done)
      | grind
      | skip
  · rw [if_neg h1] at hg
    by_cases h2 : 3 < s.length ∧ s.drop (s.length - 3) = [32, 102, 116]
    · rw [if_pos h2] at hg
      subst hg
      simp only [] at *
      have a1 := k_isHeight n2
      have a2 := k_heightText n2
      generalize htT n2 = T at *
      clear hk1 hn1
      cases b2 <;> cases hh : htB n2
      all_goals
        rw [hh] at a1
        try have a2 := a2 hh
        simp only [envOf, envFrom, go_sem, reduceIte, Nat.reduceEqDiff, Nat.reduceBEq, Bool.false_eq_true]
        repeat' (first
          | (simp only [go_sem, reduceIte, Nat.reduceEqDiff, Nat.reduceBEq])
          | (simp (disch := omega) only [w64, Int.reduceToNat])
          | (refine Rm_need (by first | exact True.intro | omega | (simp; omega)) ?_)
          | (rw [h3n])
          | (rw [cutE])
          | (rw [cutZ])
          | (refine Rm_w rfl (hk2) (by trivial) ?_)
          | (refine Rm_w ?_ (hk2) (by trivial) ?_; · (simp [viewOfs, viewOf, List.take_of_length_le, cutL]; done))
          | (refine Rm_w rfl (a1) (by trivial) ?_)
          | (refine Rm_w ?_ (a1) (by trivial) ?_; · (simp [viewOfs, viewOf, List.take_of_length_le, cutL]; done))
          | (refine Rm_w rfl (a2) (by trivial) ?_)
          | (refine Rm_w ?_ (a2) (by trivial) ?_; · (simp [viewOfs, viewOf, List.take_of_length_le, cutL]; done))
          | (refine Rm_gi (by first | omega | (simp; omega)) ?_)
          | (refine Rm_gb (by first | omega | (simp; omega)) ?_)
          | (refine Rm_ga (by first | omega | (simp; omega)) _ rfl (Nat.le_of_ble_eq_true rfl) ?_)
          | (refine Rm_gm (by first | omega | (simp; omega)) _ rfl ?_)
          | (refine Rm_part _ _ rfl rfl ?_)
          | (refine Rm_puti (by first | omega | (simp; omega)) rfl ?_)
          | (refine Dm_draw [] (by simp) ?_)
          | (refine Tm_both ?_ ?_)
          | (refine Tm_fin (by simp only [hideOK, newsE]; simp []) ?_)
          | (refine Cm_split (fun h => ?_) (fun h => ?_) <;> (try (simp only [beq_iff_eq, beq_eq_false_iff_ne, Bool.not_eq_true', Bool.not_eq_false', ne_eq] at h)) <;> (try omega))
          | (refine Gm_split (fun h => ?_) (fun h => ?_) <;> (try simp only [ne_eq, Bool.not_eq_true, Bool.not_eq_false] at h) <;> (try rw [h]) <;> (try (simp only [decide_eq_true_eq, decide_eq_false_iff_not, bne_iff_ne, beq_iff_eq, bne_eq_false_iff_eq, beq_eq_false_iff_ne, Bool.not_eq_true, Bool.not_eq_true', Bool.not_eq_false, Bool.not_eq_false', ne_eq, Bool.and_eq_true, Bool.or_eq_true, true_eq_decide_iff, false_eq_decide_iff] at h)) <;> (try omega))
          | (refine Sm_split (fun h => ?_) (fun h => ?_) <;> (try (simp only [decide_eq_true_eq, decide_eq_false_iff_not] at h)) <;> (try omega))
          | (exact ret_p rfl ⟨rfl, rfl⟩)
          | (refine ret_okv (by first | trivial | simp only [go_sem, detD, detDs, detP, and_self, and_true]) ?_)
          | (exact ret_gen _ _ _ rfl rfl rfl ⟨rfl, rfl⟩)
          | (simp only [Option.some.injEq, DV.tup.injEq, DV.p.injEq, List.cons.injEq, PV.int.injEq, PV.bool.injEq, and_true, true_and])
          | rfl
          | (refine Bool.eq_iff_iff.2 ?_; simp only [decide_eq_true_eq, Bool.and_eq_true, Bool.or_eq_true, Bool.not_eq_true', decide_eq_false_iff_not, Bool.false_eq_true, beq_iff_eq, bne_iff_ne, ne_eq, false_iff, iff_false, true_iff, iff_true]; omega)
          | omega)
      all_goals first
        | (exfalso; exact h1 ⟨by omega, by assumption⟩)
        | (simp; done)
        | grind
        | skip
    · rw [if_neg h2] at hg
      subst hg
      clear hk1 hk2
      simp only [envOf, envFrom, go_sem, reduceIte, Nat.reduceEqDiff, Nat.reduceBEq, Bool.false_eq_true]
      repeat' (first
        | (simp only [go_sem, reduceIte, Nat.reduceEqDiff, Nat.reduceBEq])
        | (simp (disch := omega) only [w64, Int.reduceToNat])
        | (refine Rm_need (by first | exact True.intro | omega | (simp; omega)) ?_)
        | (rw [h3n])
        | (rw [cutE])
        | (rw [cutZ])
        | (refine Rm_gi (by first | omega | (simp; omega)) ?_)
        | (refine Rm_gb (by first | omega | (simp; omega)) ?_)
        | (refine Rm_ga (by first | omega | (simp; omega)) _ rfl (Nat.le_of_ble_eq_true rfl) ?_)
        | (refine Rm_gm (by first | omega | (simp; omega)) _ rfl ?_)
        | (refine Rm_part _ _ rfl rfl ?_)
        | (refine Rm_puti (by first | omega | (simp; omega)) rfl ?_)
        | (refine Dm_draw [] (by simp) ?_)
        | (refine Tm_both ?_ ?_)
        | (refine Tm_fin (by simp only [hideOK, newsE]; simp []) ?_)
        | (refine Cm_split (fun h => ?_) (fun h => ?_) <;> (try (simp only [beq_iff_eq, beq_eq_false_iff_ne, ne_eq] at h)) <;> (try omega))
        | (refine Gm_split (fun h => ?_) (fun h => ?_) <;> (try simp only [ne_eq, Bool.not_eq_true, Bool.not_eq_false] at h) <;> (try rw [h]) <;> (try (simp only [decide_eq_true_eq, decide_eq_false_iff_not, bne_iff_ne, beq_iff_eq, bne_eq_false_iff_eq, beq_eq_false_iff_ne, Bool.not_eq_true, Bool.not_eq_true', Bool.not_eq_false, Bool.not_eq_false', ne_eq, Bool.and_eq_true, Bool.or_eq_true, true_eq_decide_iff, false_eq_decide_iff] at h)) <;> (try omega))
        | (refine Sm_split (fun h => ?_) (fun h => ?_) <;> (try (simp only [decide_eq_true_eq, decide_eq_false_iff_not] at h)) <;> (try omega))
        | (exact ret_p rfl ⟨rfl, rfl⟩)
        | (refine ret_okv (by first | trivial | simp only [go_sem, detD, detDs, detP, and_self, and_true]) ?_)
        | (exact ret_gen _ _ _ rfl rfl rfl ⟨rfl, rfl⟩)
        | (simp only [Option.some.injEq, DV.tup.injEq, DV.p.injEq, List.cons.injEq, PV.int.injEq, PV.bool.injEq, and_true, true_and])
        | rfl
        | (refine Bool.eq_iff_iff.2 ?_; simp only [decide_eq_true_eq, Bool.and_eq_true, Bool.or_eq_true, Bool.not_eq_true', decide_eq_false_iff_not, Bool.false_eq_true, beq_iff_eq, bne_iff_ne, ne_eq, false_iff, iff_false, true_iff, iff_true]; omega)
        | omega)
      all_goals first
        | (exfalso; exact h1 ⟨by omega, by assumption⟩)
        | (exfalso; exact h2 ⟨by omega, by assumption⟩)
        | (simp; done)
        | grind
        | skip
set_option maxRecDepth 100000 in
set_option maxHeartbeats 16000000 in
/-- spec.ParseHeight -/
theorem k_sParseHeight (s : Txt) (hl : s.length ≤ 1099511627776) : Okv Try.prog 77 [.str s] (.tup [.p (.int .i64 (chkH s (hgS s)).1), .p (.bool (chkH s (hgS s)).2)]) := by
  refine ok_D hmix c_spec_ParseHeight (by simp) ?_
  have h3n : ((s.length : Int) - 3).toNat = s.length - 3 := by omega
  have hk1 := k_l1Read (s.drop 2) (by rw [List.length_drop]; omega)
  have hk2 := k_l1Read (s.take (s.length - 3)) (by rw [List.length_take]; omega)
  have hn1 := read_in (s.drop 2)
  have hn2 := read_in (s.take (s.length - 3))
  have hg : hgS s = if 12 < s.length then (0, false) else if 2 < s.length ∧ s.take 2 = [70, 76] then (100 * (readO (s.drop 2)).1, (readO (s.drop 2)).2) else if 3 < s.length ∧ s.drop (s.length - 3) = [32, 102, 116] then readO (s.take (s.length - 3)) else (0, false) := rfl
  have hc : ∀ v, chkH s v = if v.2 = true ∧ htB v.1 = true ∧ htT v.1 = s then (v.1, true) else (0, false) := fun _ => rfl
  have hc := hc (hgS s)
  generalize chkH s (hgS s) = R at *
  generalize hgS s = G at *
  subst hc
  generalize readO (s.drop 2) = N at *
  generalize readO (s.take (s.length - 3)) = P at *
  obtain ⟨n1, b1⟩ := N
  obtain ⟨n2, b2⟩ := P
  by_cases h12 : 12 < s.length
  · rw [if_pos h12] at hg
    subst hg
    clear hk1 hk2
    simp only [envOf, envFrom, go_sem, reduceIte, Nat.reduceEqDiff, Bool.false_eq_true]
    repeat' (first
      | (simp only [go_sem, reduceIte, Nat.reduceEqDiff, Nat.reduceBEq])
      | (simp (disch := omega) only [w64, w8, bytesOf_cons, tmod10, tdiv10, tn48, nsub1, nadd1, nsub, nadd, nmul, List.take_length, Int.toNat_zero, Int.reduceAdd, Int.reduceSub, Int.reduceToNat, Int.reduceMul, Nat.sub_zero, Nat.min_self])
      | (refine Rm_need (by first | exact True.intro | omega | (simp; omega)) ?_)
      | (refine Rm_gi (by first | omega | (simp; omega)) ?_)
      | (refine Rm_gb (by first | omega | (simp; omega)) ?_)
      | (refine Rm_ga (by first | omega | (simp; omega)) _ rfl (Nat.le_of_ble_eq_true rfl) ?_)
      | (refine Rm_gm (by first | omega | (simp; omega)) _ rfl ?_)
      | (refine Rm_part _ _ rfl rfl ?_)
      | (refine Rm_puti (by first | omega | (simp; omega)) rfl ?_)
      | (refine Dm_draw [] (by simp) ?_)
      | (refine Tm_both ?_ ?_)
      | (refine Tm_fin (by simp only [hideOK, newsE]; simp []) ?_)
      | (refine Cm_split (fun h => ?_) (fun h => ?_) <;> (try (simp only [decide_eq_true_eq, decide_eq_false_iff_not] at h)) <;> (try omega))
      | (refine Gm_split (fun h => ?_) (fun h => ?_) <;> (try simp only [ne_eq, Bool.not_eq_true, Bool.not_eq_false] at h) <;> (try rw [h]) <;> (try (simp only [decide_eq_true_eq, decide_eq_false_iff_not, bne_iff_ne, beq_iff_eq, bne_eq_false_iff_eq, beq_eq_false_iff_ne, Bool.not_eq_true, Bool.not_eq_true', Bool.not_eq_false, Bool.not_eq_false', ne_eq, Bool.and_eq_true, Bool.or_eq_true, true_eq_decide_iff, false_eq_decide_iff] at h)) <;> (try omega))
      | (refine Sm_split (fun h => ?_) (fun h => ?_) <;> (try (simp only [decide_eq_true_eq, decide_eq_false_iff_not, bne_iff_ne, beq_iff_eq, bne_eq_false_iff_eq, beq_eq_false_iff_ne, Bool.not_eq_true, Bool.not_eq_true', Bool.not_eq_false, Bool.not_eq_false', ne_eq, Bool.and_eq_true, Bool.or_eq_true, true_eq_decide_iff, false_eq_decide_iff] at h)) <;> (try omega))
      | (exact ret_p rfl ⟨rfl, rfl⟩)
      | (refine ret_okv (by first | trivial | simp only [go_sem, detD, detDs, detP, and_self, and_true]) ?_)
      | (exact ret_gen _ _ _ rfl rfl rfl ⟨rfl, rfl⟩)
      | (simp only [Option.some.injEq, DV.tup.injEq, DV.p.injEq, List.cons.injEq, PV.int.injEq, PV.bool.injEq, and_true, true_and])
      | rfl
      | (refine Bool.eq_iff_iff.2 ?_; simp only [decide_eq_true_eq, Bool.and_eq_true, Bool.or_eq_true, Bool.not_eq_true', decide_eq_false_iff_not, Bool.false_eq_true, beq_iff_eq, bne_iff_ne, ne_eq, false_iff, iff_false, true_iff, iff_true]; omega)
      | omega)
    all_goals first
      | (simp; done)
      | grind
      | skip
  · rw [if_neg h12] at hg
    by_cases h1 : 2 < s.length ∧ s.take 2 = [70, 76]
    · rw [if_pos h1] at hg
      subst hg
      simp only [] at *
      have a1 := k_l6Height (100 * n1)
      have a2 := k_l6Text (100 * n1)
      generalize htT (100 * n1) = T at *
      clear hk2 hn2
      cases b1 <;> cases hh : htB (100 * n1)
      all_goals
        rw [hh] at a1
        try have a2 := a2 hh
        simp only [envOf, envFrom, go_sem, reduceIte, Nat.reduceEqDiff, Bool.false_eq_true]
        repeat' (first
          | (simp only [go_sem, reduceIte, Nat.reduceEqDiff, Nat.reduceBEq])
          | (simp (disch := omega) only [w64, Int.reduceToNat])
          | (refine Rm_need (by first | exact True.intro | omega | (simp; omega)) ?_)
          | (rw [h3n])
          | (rw [cutE])
          | (rw [cutZ])
          | (refine Rm_w rfl (hk1) (by trivial) ?_)
          | (refine Rm_w ?_ (hk1) (by trivial) ?_; · (simp [viewOfs, viewOf]; done))
          | (refine Rm_w rfl (a1) (by trivial) ?_)
          | (refine Rm_w ?_ (a1) (by trivial) ?_; · (simp [viewOfs, viewOf, List.take_of_length_le, cutL]; done))
          | (refine Rm_w rfl (a2) (by trivial) ?_)
          | (refine Rm_w ?_ (a2) (by trivial) ?_; · (simp [viewOfs, viewOf, List.take_of_length_le, cutL]; done))
          | (refine Rm_gi (by first | omega | (simp; omega)) ?_)
          | (refine Rm_gb (by first | omega | (simp; omega)) ?_)
          | (refine Rm_ga (by first | omega | (simp; omega)) _ rfl (Nat.le_of_ble_eq_true rfl) ?_)
          | (refine Rm_gm (by first | omega | (simp; omega)) _ rfl ?_)
          | (refine Rm_part _ _ rfl rfl ?_)
          | (refine Rm_puti (by first | omega | (simp; omega)) rfl ?_)
          | (refine Dm_draw [] (by simp) ?_)
          | (refine Tm_both ?_ ?_)
          | (refine Tm_fin (by simp only [hideOK, newsE]; simp []) ?_)
          | (refine Cm_split (fun h => ?_) (fun h => ?_) <;> (try (simp only [decide_eq_true_eq, decide_eq_false_iff_not, beq_iff_eq, beq_eq_false_iff_ne, Bool.not_eq_true', Bool.not_eq_false', ne_eq] at h)) <;> (try omega))
          | (refine Gm_split (fun h => ?_) (fun h => ?_) <;> (try simp only [ne_eq, Bool.not_eq_true, Bool.not_eq_false] at h) <;> (try rw [h]) <;> (try (simp only [decide_eq_true_eq, decide_eq_false_iff_not, bne_iff_ne, beq_iff_eq, bne_eq_false_iff_eq, beq_eq_false_iff_ne, Bool.not_eq_true, Bool.not_eq_true', Bool.not_eq_false, Bool.not_eq_false', ne_eq, Bool.and_eq_true, Bool.or_eq_true, true_eq_decide_iff, false_eq_decide_iff] at h)) <;> (try omega))
          | (refine Sm_split (fun h => ?_) (fun h => ?_) <;> (try (simp only [decide_eq_true_eq, decide_eq_false_iff_not] at h)) <;> (try omega))
          | (exact ret_p rfl ⟨rfl, rfl⟩)
          | (refine ret_okv (by first | trivial | simp only [go_sem, detD, detDs, detP, and_self, and_true]) ?_)
          | (exact ret_gen _ _ _ rfl rfl rfl ⟨rfl, rfl⟩)
          | (simp only [Option.some.injEq, DV.tup.injEq, DV.p.injEq, List.cons.injEq, PV.int.injEq, PV.bool.injEq, and_true, true_and])
          | rfl
          | (refine Bool.eq_iff_iff.2 ?_; simp only [decide_eq_true_eq, Bool.and_eq_true, Bool.or_eq_true, Bool.not_eq_true', decide_eq_false_iff_not, Bool.false_eq_true, beq_iff_eq, bne_iff_ne, ne_eq, false_iff, iff_false, true_iff, iff_true]; omega)
          | omega)
      all_goals first
        | (simp; done)
        | grind
        | skip
    · rw [if_neg h1] at hg
      by_cases h2 : 3 < s.length ∧ s.drop (s.length - 3) = [32, 102, 116]
      · rw [if_pos h2] at hg
        subst hg
        simp only [] at *
        have a1 := k_l6Height n2
        have a2 := k_l6Text n2
        generalize htT n2 = T at *
        clear hk1 hn1
        cases b2 <;> cases hh : htB n2
        all_goals
          rw [hh] at a1
          try have a2 := a2 hh
          simp only [envOf, envFrom, go_sem, reduceIte, Nat.reduceEqDiff, Bool.false_eq_true]
          repeat' (first
            | (simp only [go_sem, reduceIte, Nat.reduceEqDiff, Nat.reduceBEq])
            | (simp (disch := omega) only [w64, Int.reduceToNat])
            | (refine Rm_need (by first | exact True.intro | omega | (simp; omega)) ?_)
            | (rw [h3n])
            | (rw [cutE])
            | (rw [cutZ])
            | (refine Rm_w rfl (hk2) (by trivial) ?_)
            | (refine Rm_w ?_ (hk2) (by trivial) ?_; · (simp [viewOfs, viewOf]; done))
            | (refine Rm_w rfl (a1) (by trivial) ?_)
            | (refine Rm_w ?_ (a1) (by trivial) ?_; · (simp [viewOfs, viewOf, List.take_of_length_le, cutL]; done))
            | (refine Rm_w rfl (a2) (by trivial) ?_)
            | (refine Rm_w ?_ (a2) (by trivial) ?_; · (simp [viewOfs, viewOf, List.take_of_length_le, cutL]; done))
            | (refine Rm_gi (by first | omega | (simp; omega)) ?_)
            | (refine Rm_gb (by first | omega | (simp; omega)) ?_)
            | (refine Rm_ga (by first | omega | (simp; omega)) _ rfl (Nat.le_of_ble_eq_true rfl) ?_)
            | (refine Rm_gm (by first | omega | (simp; omega)) _ rfl ?_)
            | (refine Rm_part _ _ rfl rfl ?_)
            | (refine Rm_puti (by first | omega | (simp; omega)) rfl ?_)
            | (refine Dm_draw [] (by simp) ?_)
            | (refine Tm_both ?_ ?_)
            | (refine Tm_fin (by simp only [hideOK, newsE]; simp []) ?_)
            | (refine Cm_split (fun h => ?_) (fun h => ?_) <;> (try (simp only [decide_eq_true_eq, decide_eq_false_iff_not, beq_iff_eq, beq_eq_false_iff_ne, Bool.not_eq_true', Bool.not_eq_false', ne_eq] at h)) <;> (try omega))
            | (refine Gm_split (fun h => ?_) (fun h => ?_) <;> (try simp only [ne_eq, Bool.not_eq_true, Bool.not_eq_false] at h) <;> (try rw [h]) <;> (try (simp only [decide_eq_true_eq, decide_eq_false_iff_not, bne_iff_ne, beq_iff_eq, bne_eq_false_iff_eq, beq_eq_false_iff_ne, Bool.not_eq_true, Bool.not_eq_true', Bool.not_eq_false, Bool.not_eq_false', ne_eq, Bool.and_eq_true, Bool.or_eq_true, true_eq_decide_iff, false_eq_decide_iff] at h)) <;> (try omega))
            | (refine Sm_split (fun h => ?_) (fun h => ?_) <;> (try (simp only [decide_eq_true_eq, decide_eq_false_iff_not] at h)) <;> (try omega))
            | (exact ret_p rfl ⟨rfl, rfl⟩)
            | (refine ret_okv (by first | trivial | simp only [go_sem, detD, detDs, detP, and_self, and_true]) ?_)
            | (exact ret_gen _ _ _ rfl rfl rfl ⟨rfl, rfl⟩)
            | (simp only [Option.some.injEq, DV.tup.injEq, DV.p.injEq, List.cons.injEq, PV.int.injEq, PV.bool.injEq, and_true, true_and])
            | rfl
            | (refine Bool.eq_iff_iff.2 ?_; simp only [decide_eq_true_eq, Bool.and_eq_true, Bool.or_eq_true, Bool.not_eq_true', decide_eq_false_iff_not, Bool.false_eq_true, beq_iff_eq, bne_iff_ne, ne_eq, false_iff, iff_false, true_iff, iff_true]; omega)
            | omega)
        all_goals first
          | (exfalso; exact h1 ⟨by omega, by assumption⟩)
          | (simp; done)
          | grind
          | skip
      · rw [if_neg h2] at hg
        subst hg
        clear hk1 hk2
        simp only [envOf, envFrom, go_sem, reduceIte, Nat.reduceEqDiff, Bool.false_eq_true]
        repeat' (first
          | (simp only [go_sem, reduceIte, Nat.reduceEqDiff, Nat.reduceBEq])
          | (simp (disch := omega) only [w64, Int.reduceToNat])
          | (refine Rm_need (by first | exact True.intro | omega | (simp; omega)) ?_)
          | (rw [h3n])
          | (rw [cutE])
          | (rw [cutZ])
          | (refine Rm_gi (by first | omega | (simp; omega)) ?_)
          | (refine Rm_gb (by first | omega | (simp; omega)) ?_)
          | (refine Rm_ga (by first | omega | (simp; omega)) _ rfl (Nat.le_of_ble_eq_true rfl) ?_)
          | (refine Rm_gm (by first | omega | (simp; omega)) _ rfl ?_)
          | (refine Rm_part _ _ rfl rfl ?_)
          | (refine Rm_puti (by first | omega | (simp; omega)) rfl ?_)
          | (refine Dm_draw [] (by simp) ?_)
          | (refine Tm_both ?_ ?_)
          | (refine Tm_fin (by simp only [hideOK, newsE]; simp []) ?_)
          | (refine Cm_split (fun h => ?_) (fun h => ?_) <;> (try (simp only [decide_eq_true_eq, decide_eq_false_iff_not, beq_iff_eq, beq_eq_false_iff_ne, ne_eq] at h)) <;> (try omega))
          | (refine Gm_split (fun h => ?_) (fun h => ?_) <;> (try simp only [ne_eq, Bool.not_eq_true, Bool.not_eq_false] at h) <;> (try rw [h]) <;> (try (simp only [decide_eq_true_eq, decide_eq_false_iff_not, bne_iff_ne, beq_iff_eq, bne_eq_false_iff_eq, beq_eq_false_iff_ne, Bool.not_eq_true, Bool.not_eq_true', Bool.not_eq_false, Bool.not_eq_false', ne_eq, Bool.and_eq_true, Bool.or_eq_true, true_eq_decide_iff, false_eq_decide_iff] at h)) <;> (try omega))
          | (refine Sm_split (fun h => ?_) (fun h => ?_) <;> (try (simp only [decide_eq_true_eq, decide_eq_false_iff_not] at h)) <;> (try omega))
          | (exact ret_p rfl ⟨rfl, rfl⟩)
          | (refine ret_okv (by first | trivial | simp only [go_sem, detD, detDs, detP, and_self, and_true]) ?_)
          | (exact ret_gen _ _ _ rfl rfl rfl ⟨rfl, rfl⟩)
          | (simp only [Option.some.injEq, DV.tup.injEq, DV.p.injEq, List.cons.injEq, PV.int.injEq, PV.bool.injEq, and_true, true_and])
          | rfl
          | (refine Bool.eq_iff_iff.2 ?_; simp only [decide_eq_true_eq, Bool.and_eq_true, Bool.or_eq_true, Bool.not_eq_true', decide_eq_false_iff_not, Bool.false_eq_true, beq_iff_eq, bne_iff_ne, ne_eq, false_iff, iff_false, true_iff, iff_true]; omega)
          | omega)
        all_goals first
          | (exfalso; exact h1 ⟨by omega, by assumption⟩)
          | (exfalso; exact h2 ⟨by omega, by assumption⟩)
          | (simp; done)
          | grind
          | skip
end Go.Proofs.Ytchekagoaidlpaa

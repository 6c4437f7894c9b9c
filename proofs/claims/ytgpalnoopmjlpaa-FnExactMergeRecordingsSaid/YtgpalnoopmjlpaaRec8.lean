import Derived.Test.YtgpalnoopmjlpaaRec4
namespace Go.Proofs.Ytgpalnoopmjlpaa
open Go.Dv Go.Dv.EvL
attribute [local irreducible] Ok Rm Dm Om Sm Xm Cm Gm Hm Tm

set_option maxRecDepth 100000 in
set_option maxHeartbeats 16000000 in
/-- laws.FnExactMergeRecordings -/
theorem k_FnExactMergeRecordings (xs : List Rcd) (hr : xs.length ≤ 9223372036854775807 ∧ rcdBds xs) (ys : List Rcd) (hr2 : ys.length ≤ 9223372036854775807 ∧ rcdBds ys) : Okv Try.prog 9 [rcdS xs, rcdS ys] (.p (.bool true)) := by
  refine ok_D hmix c_laws_FnExactMergeRecordings (by simp) ?_
  have h1 := k_szRecordedS xs 1048576 (by omega) hr.1 hr.2
  by_cases hb : szO 1048576 (rcdsz xs) < 0
  · generalize szO 1048576 (rcdsz xs) = z at *
    simp only [envOf, envFrom, go_sem, reduceIte, Nat.reduceEqDiff]
    repeat' (first
      | (simp only [go_sem, reduceIte, Nat.reduceEqDiff])
      | (simp (disch := omega) only [w64, w8, bytesOf_cons, tmod10, tdiv10, tn48, nsub1, nadd1, nsub, nadd, nmul, List.take_length, Int.toNat_zero, Int.reduceAdd, Int.reduceSub, Int.reduceToNat, Int.reduceMul, Nat.sub_zero, Nat.min_self])
      | (refine Rm_need (by first | exact True.intro | omega | (simp; omega)) ?_)
      | (refine Rm_w rfl (h1) (by trivial) ?_)
      | (refine Rm_w ?_ (h1) (by trivial) ?_; · (simp [viewOfs, viewOf, List.take_of_length_le, cutL]; done))
      | (refine Rm_gi (by first | omega | (simp; omega)) ?_)
      | (refine Rm_gb (by first | omega | (simp; omega)) ?_)
      | (refine Rm_ga (by first | omega | (simp; omega)) _ rfl (Nat.le_of_ble_eq_true rfl) ?_)
      | (refine Rm_gm (by first | omega | (simp; omega)) _ rfl ?_)
      | (refine Rm_part _ _ rfl rfl ?_)
      | (refine Rm_puti (by first | omega | (simp; omega)) rfl ?_)
      | (refine Dm_draw [] (by simp) ?_)
      | (refine Tm_both ?_ ?_)
      | (refine Tm_fin (by simp only [hideOK, newsE]; simp []) ?_)
      | (refine Cm_split (fun h => ?_) (fun h => ?_) <;> (try (simp only [decide_eq_true_eq, decide_eq_false_iff_not] at h)) <;> (try omega))
      | (refine Gm_split (fun h => ?_) (fun h => ?_) <;> (try simp only [ne_eq, Bool.not_eq_true, Bool.not_eq_false] at h) <;> (try rw [h]) <;> (try (simp only [decide_eq_true_eq, decide_eq_false_iff_not, bne_iff_ne, beq_iff_eq, bne_eq_false_iff_eq, beq_eq_false_iff_ne, Bool.not_eq_true, Bool.not_eq_true', Bool.not_eq_false, Bool.not_eq_false', ne_eq, Bool.and_eq_true, Bool.or_eq_true, true_eq_decide_iff, false_eq_decide_iff] at h)) <;> (try omega))
      | (refine Sm_split (fun h => ?_) (fun h => ?_) <;> (try (simp only [decide_eq_true_eq, decide_eq_false_iff_not, bne_iff_ne, beq_iff_eq, bne_eq_false_iff_eq, beq_eq_false_iff_ne, Bool.not_eq_true, Bool.not_eq_true', Bool.not_eq_false, Bool.not_eq_false', ne_eq, Bool.and_eq_true, Bool.or_eq_true, true_eq_decide_iff, false_eq_decide_iff] at h)) <;> (try omega))
      | (exact ret_p rfl ⟨rfl, rfl⟩)
      | (refine ret_okv (by first | trivial | simp only [go_sem, detD, detDs, detP, and_self, and_true]) ?_)
      | (exact ret_gen _ _ _ rfl rfl rfl ⟨rfl, rfl⟩)
      | (simp only [Option.some.injEq, DV.tup.injEq, DV.p.injEq, List.cons.injEq, PV.int.injEq, PV.bool.injEq, PV.str.injEq, and_true, true_and])
      | rfl
      | (refine Bool.eq_iff_iff.2 ?_; simp only [decide_eq_true_eq, Bool.and_eq_true, Bool.or_eq_true, Bool.not_eq_true', decide_eq_false_iff_not, Bool.false_eq_true, beq_iff_eq, bne_iff_ne, ne_eq, false_iff, iff_false, true_iff, iff_true]; omega)
      | omega)
  · have hz := szO_ok hb
    have hf := rcdsz_fits (by omega) hz.1
    have h1b := k_szRecordedS ys (szO 1048576 (rcdsz xs)) (by omega) hr2.1 hr2.2
    have hzle : szO 1048576 (rcdsz xs) ≤ 1048576 := by omega
    clear hz
    generalize szO 1048576 (rcdsz xs) = z at *
    by_cases hb2 : szO z (rcdsz ys) < 0
    · generalize szO z (rcdsz ys) = z2 at *
      simp only [envOf, envFrom, go_sem, reduceIte, Nat.reduceEqDiff]
      repeat' (first
        | (simp only [go_sem, reduceIte, Nat.reduceEqDiff])
        | (simp (disch := omega) only [w64, w8, bytesOf_cons, tmod10, tdiv10, tn48, nsub1, nadd1, nsub, nadd, nmul, List.take_length, Int.toNat_zero, Int.reduceAdd, Int.reduceSub, Int.reduceToNat, Int.reduceMul, Nat.sub_zero, Nat.min_self])
        | (refine Rm_need (by first | exact True.intro | omega | (simp; omega)) ?_)
        | (refine Rm_w rfl (h1) (by trivial) ?_)
        | (refine Rm_w ?_ (h1) (by trivial) ?_; · (simp [viewOfs, viewOf]; done))
        | (refine Rm_w rfl (h1b) (by trivial) ?_)
        | (refine Rm_w ?_ (h1b) (by trivial) ?_; · (simp [viewOfs, viewOf, List.take_of_length_le, cutL]; done))
        | (refine Rm_gi (by first | omega | (simp; omega)) ?_)
        | (refine Rm_gb (by first | omega | (simp; omega)) ?_)
        | (refine Rm_ga (by first | omega | (simp; omega)) _ rfl (Nat.le_of_ble_eq_true rfl) ?_)
        | (refine Rm_gm (by first | omega | (simp; omega)) _ rfl ?_)
        | (refine Rm_part _ _ rfl rfl ?_)
        | (refine Rm_puti (by first | omega | (simp; omega)) rfl ?_)
        | (refine Dm_draw [] (by simp) ?_)
        | (refine Tm_both ?_ ?_)
        | (refine Tm_fin (by simp only [hideOK, newsE]; simp []) ?_)
        | (refine Cm_split (fun h => ?_) (fun h => ?_) <;> (try (simp only [decide_eq_true_eq, decide_eq_false_iff_not] at h)) <;> (try omega))
        | (refine Gm_split (fun h => ?_) (fun h => ?_) <;> (try simp only [ne_eq, Bool.not_eq_true, Bool.not_eq_false] at h) <;> (try rw [h]) <;> (try (simp only [decide_eq_true_eq, decide_eq_false_iff_not, bne_iff_ne, beq_iff_eq, bne_eq_false_iff_eq, beq_eq_false_iff_ne, Bool.not_eq_true, Bool.not_eq_true', Bool.not_eq_false, Bool.not_eq_false', ne_eq, Bool.and_eq_true, Bool.or_eq_true, true_eq_decide_iff, false_eq_decide_iff] at h)) <;> (try omega))
        | (refine Sm_split (fun h => ?_) (fun h => ?_) <;> (try (simp only [decide_eq_true_eq, decide_eq_false_iff_not, bne_iff_ne, beq_iff_eq, bne_eq_false_iff_eq, beq_eq_false_iff_ne, Bool.not_eq_true, Bool.not_eq_true', Bool.not_eq_false, Bool.not_eq_false', ne_eq, Bool.and_eq_true, Bool.or_eq_true, true_eq_decide_iff, false_eq_decide_iff] at h)) <;> (try omega))
        | (exact ret_p rfl ⟨rfl, rfl⟩)
        | (refine ret_okv (by first | trivial | simp only [go_sem, detD, detDs, detP, and_self, and_true]) ?_)
        | (exact ret_gen _ _ _ rfl rfl rfl ⟨rfl, rfl⟩)
        | (simp only [Option.some.injEq, DV.tup.injEq, DV.p.injEq, List.cons.injEq, PV.int.injEq, PV.bool.injEq, PV.str.injEq, and_true, true_and])
        | rfl
        | (refine Bool.eq_iff_iff.2 ?_; simp only [decide_eq_true_eq, Bool.and_eq_true, Bool.or_eq_true, Bool.not_eq_true', decide_eq_false_iff_not, Bool.false_eq_true, beq_iff_eq, bne_iff_ne, ne_eq, false_iff, iff_false, true_iff, iff_true]; omega)
        | omega)
    · have hz2 := szO_ok hb2
      have hf2 := rcdsz_fits hzle hz2.1
      clear hz2
      generalize szO z (rcdsz ys) = z2 at *
      have h2 := k_toRecordedS xs hf.1
      have h2b := k_toRecordedS ys hf2.1
      have h3 := k_sMrg xs ys hf hf2
      have h4 := k_iMrg xs ys hf hf2
      have h5 := k_eqRecordedS xs hf.1
      have h5b := k_eqRecordedS ys hf2.1
      have h9 := k_markRecordedS xs 1 hf.1 (by omega)
      have hfl := hf.1
      have hfl2 := hf2.1
      have h9b := k_markRecordedS ys (1 + 2 * xs.length) hf2.1 (by omega)
      have hol : (mrgO xs ys).1.length ≤ 1048576 := by
        unfold mrgO
        split
        · rename_i h
          have := (recs_at h.2.2).1
          simp only []
          omega
        · simp
      unfold OutN OutO at h4
      unfold OutO at h3
      generalize mrgO xs ys = X at *
      obtain ⟨zs, b⟩ := X
      simp only [] at h3 h4 hol
      have h6 := k_eqRecordedS zs hol
      have h10 := k_markRecordedS zs 1 hol (by omega)
      have h11 := k_heldRecordedS zs.length 1 hol (by omega)
      simp only [envOf, envFrom, go_sem, reduceIte, Nat.reduceEqDiff]
      repeat' (first
        | (simp only [go_sem, reduceIte, Nat.reduceEqDiff, Nat.reduceBEq, Nat.reduceAdd])
        | (simp (disch := omega) only [w64, w8, bytesOf_cons, tmod10, tdiv10, tn48, nsub1, nadd1, nsub, nadd, nmul, List.take_length, Int.toNat_zero, Int.reduceAdd, Int.reduceSub, Int.reduceToNat, Int.reduceMul, Nat.sub_zero, Nat.min_self])
        | (refine Rm_need (by first | exact True.intro | omega | (simp; omega)) ?_)
        | (refine Rm_w rfl (h1) (by trivial) ?_)
        | (refine Rm_w ?_ (h1) (by trivial) ?_; · (simp [viewOfs, viewOf]; done))
        | (refine Rm_w rfl (h1b) (by trivial) ?_)
        | (refine Rm_w ?_ (h1b) (by trivial) ?_; · (simp [viewOfs, viewOf, List.take_of_length_le, cutL]; done))
        | (refine Rm_o h2 rfl (fun r H2 hh => ?_); obtain ⟨rfl, rfl⟩ := hh)
        | (refine Rm_o h2b rfl (fun r H2 hh => ?_); obtain ⟨rfl, rfl⟩ := hh)
        | (refine Rm_l h3 (by simp [viewOfs, viewOf, List.take_of_length_le]) (fun r H2 hh => ?_); obtain ⟨rfl, rfl⟩ := hh; refine ⟨by simp [flatD, flatDs, flatP], by simp [flatH, flatB, flat_rcd], ?_⟩)
        | (refine Rm_l h4 (by simp [viewOfs, viewOf, List.take_of_length_le]) (fun r H2 hh => ?_); rcases hh with ⟨rfl, rfl⟩ | ⟨rfl, rfl, hn⟩ <;> (try subst hn) <;> refine ⟨by simp [flatD, flatDs, flatP], by simp [flatH, flatB, flat_rcd, flatPs], ?_⟩)
        | (refine Rm_w rfl (h5) (by trivial) ?_)
        | (refine Rm_w ?_ (h5) (by trivial) ?_; · (simp [viewOfs, viewOf, List.take_of_length_le]; done))
        | (refine Rm_w rfl (h5b) (by trivial) ?_)
        | (refine Rm_w ?_ (h5b) (by trivial) ?_; · (simp [viewOfs, viewOf, List.take_of_length_le]; done))
        | (refine Rm_w rfl (h6) (by trivial) ?_)
        | (refine Rm_w ?_ (h6) (by trivial) ?_; · (simp [viewOfs, viewOf, List.take_of_length_le]; done))
        | (refine Rm_w rfl (h11) (by trivial) ?_)
        | (refine Rm_w ?_ (h11) (by trivial) ?_; · (simp [viewOfs, viewOf, List.take_of_length_le]; done))
        | (refine Rm_w rfl (k_eqRecorded0 _ _) (by trivial) ?_)
        | (refine Rm_w ?_ (k_eqRecorded0 _ _) (by trivial) ?_; · (simp [viewOfs, viewOf, List.take_of_length_le, cutL]; done))
        | (refine Rm_w rfl (k_markRecorded0 _ _) (by trivial) ?_)
        | (refine Rm_w ?_ (k_markRecorded0 _ _) (by trivial) ?_; · (simp [viewOfs, viewOf, List.take_of_length_le, cutL]; done))
        | (refine Rm_w rfl (k_heldRecorded0 _ _ (by omega)) (by trivial) ?_)
        | (refine Rm_w ?_ (k_heldRecorded0 _ _ (by omega)) (by trivial) ?_; · (simp [viewOfs, viewOf, List.take_of_length_le, cutL]; done))
        | (refine Rm_i [3] h9 (by simp) (by simp) ⟨_, _, rfl, .inl rfl, _, _, rfl, .inl rfl, rfl⟩ (fun r H2 hh => ?_); obtain ⟨rfl, rfl⟩ := hh)
        | (refine Rm_i [4] h9b (by simp) (by simp) ⟨_, _, rfl, .inl rfl, _, _, rfl, .inl rfl, rfl⟩ (fun r H2 hh => ?_); obtain ⟨rfl, rfl⟩ := hh)
        | (refine Rm_i [5] h10 (by simp) (by simp) ⟨_, _, rfl, .inl rfl, _, _, rfl, .inl rfl, rfl⟩ (fun r H2 hh => ?_); obtain ⟨rfl, rfl⟩ := hh)
        | (refine Rm_gi (by first | omega | (simp; omega)) ?_)
        | (refine Rm_gb (by first | omega | (simp; omega)) ?_)
        | (refine Rm_ga (by first | omega | (simp; omega)) _ rfl (Nat.le_of_ble_eq_true rfl) ?_)
        | (refine Rm_gm (by first | omega | (simp; omega)) _ rfl ?_)
        | (refine Rm_part _ _ rfl rfl ?_)
        | (refine Rm_puti (by first | omega | (simp; omega)) rfl ?_)
        | (refine Dm_draw [] (by simp) ?_)
        | (refine Tm_both ?_ ?_)
        | (refine Tm_fin (by simp only [hideOK, newsE]; simp []) ?_)
        | (refine Cm_split (fun h => ?_) (fun h => ?_) <;> (try (simp only [decide_eq_true_eq, decide_eq_false_iff_not] at h)) <;> (try omega))
        | (refine Gm_split (fun h => ?_) (fun h => ?_) <;> (try simp only [ne_eq, Bool.not_eq_true, Bool.not_eq_false] at h) <;> (try rw [h]) <;> (try (simp only [decide_eq_true_eq, decide_eq_false_iff_not, bne_iff_ne, beq_iff_eq, bne_eq_false_iff_eq, beq_eq_false_iff_ne, Bool.not_eq_true, Bool.not_eq_true', Bool.not_eq_false, Bool.not_eq_false', ne_eq, Bool.and_eq_true, Bool.or_eq_true, true_eq_decide_iff, false_eq_decide_iff] at h)) <;> (try omega))
        | (refine Sm_split (fun h => ?_) (fun h => ?_) <;> (try (simp only [decide_eq_true_eq, decide_eq_false_iff_not] at h)) <;> (try omega))
        | (exact ret_p rfl ⟨rfl, rfl⟩)
        | (refine ret_okv (by first | trivial | simp only [go_sem, detD, detDs, detP, and_self, and_true]) ?_)
        | (exact ret_gen _ _ _ rfl rfl rfl ⟨rfl, rfl⟩)
        | (simp only [Option.some.injEq, DV.tup.injEq, DV.p.injEq, List.cons.injEq, PV.int.injEq, PV.bool.injEq, PV.str.injEq, and_true, true_and])
        | rfl
        | (refine Bool.eq_iff_iff.2 ?_; simp only [decide_eq_true_eq, Bool.and_eq_true, Bool.or_eq_true, Bool.not_eq_true', decide_eq_false_iff_not, Bool.false_eq_true, beq_iff_eq, bne_iff_ne, ne_eq, false_iff, iff_false, true_iff, iff_true]; omega)
        | omega)
end Go.Proofs.Ytgpalnoopmjlpaa

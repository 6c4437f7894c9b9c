import Derived.Test.YtakpkggmhgkicaaLabL7
import Derived.Test.YtakpkggmhgkicaaLabL8
namespace Go.Proofs.Ytakpkggmhgkicaa
open Go.Dv Go.Dv.EvL
attribute [local irreducible] Ok Rm Dm Om Sm Xm Cm Gm Hm Tm
attribute [local simp] marks_len

theorem bp_len {xs : List Sp} (h : xs.length ≤ 1048576) : (bpO xs).1.length ≤ 1048576 := by
  have := best_len (xs := xs) (f := xs.length) (cs := [])
  unfold bpO bestA
  split
  · simp only [List.length_nil] at this ⊢; omega
  · simp
theorem si_len {xs : List Sp} (h : xs.length ≤ 1048576) : (simO xs).1.length ≤ 1048576 := by
  have := fun out => simple_len (xs := xs) (i := xs.length) (out := out)
  unfold simO
  split
  · cases hs : simpleTo xs xs.length
    · simp
    · rename_i out
      have := this out hs
      simp only []
      omega
  · simp
set_option maxRecDepth 100000 in
set_option maxHeartbeats 16000000 in
/-- laws.FnExactBestPlacing -/
theorem k_FnExactBestPlacing (xs : List Sp) (hr : xs.length ≤ 9223372036854775807 ∧ spBds xs) : Okv Try.prog 7 [spS xs] (.p (.bool true)) := by
  refine ok_D hmix c_laws_FnExactBestPlacing (by simp) ?_
  have h1 := k_szSpotS xs 1048576 (by omega) hr.1
  by_cases hb : szO 1048576 xs.length < 0
  · generalize szO 1048576 xs.length = z at *
    simp only [envOf, envFrom, go_sem, reduceIte, Nat.reduceEqDiff]
    repeat' (first
      | (simp only [go_sem, reduceIte, Nat.reduceEqDiff])
      | (simp (disch := omega) only [w64, w8, bytesOf_cons, tmod10, tdiv10, tn48, nsub1, nadd1, nsub, nadd, nmul, List.take_length, Int.toNat_zero, Int.reduceAdd, Int.reduceSub, Int.reduceToNat, Int.reduceMul, Nat.sub_zero, Nat.min_self])
      | (refine Rm_need (by first | exact True.intro | omega | (simp; omega)) ?_)
      | (refine Rm_w rfl (h1) (by trivial) ?_)
      | (refine Rm_w ?_ (h1) (by trivial) ?_; · (simp [viewOfs, viewOf, List.take_of_length_le, cutL]; done))
      | (refine Rm_gi (by first | omega | (simp; omega)) ?_)
      | (refine Rm_gb (by first | omega | (simp; omega)) ?_)
      | (refine Rm_ga (by first | omega | (simp; omega)) _ rfl (Nat.le_of_ble_eq_true rfl) ?_)
      | (refine Rm_gm (by first | omega | (simp; omega)) _ rfl ?_)
      | (refine Rm_part _ _ rfl rfl ?_)
      | (refine Rm_puti (by first | omega | (simp; omega)) rfl ?_)
      | (refine Dm_draw [] (by simp) ?_)
      | (refine Tm_both ?_ ?_)
      | (refine Tm_fin (by simp only [hideOK, newsE]; simp []) ?_)
      | (refine Cm_split (fun h => ?_) (fun h => ?_) <;> (try (simp only [decide_eq_true_eq, decide_eq_false_iff_not] at h)) <;> (try omega))
      | (refine Gm_split (fun h => ?_) (fun h => ?_) <;> (try simp only [ne_eq, Bool.not_eq_true, Bool.not_eq_false] at h) <;> (try rw [h]) <;> (try (simp only [decide_eq_true_eq, decide_eq_false_iff_not, bne_iff_ne, beq_iff_eq, bne_eq_false_iff_eq, beq_eq_false_iff_ne, Bool.not_eq_true, Bool.not_eq_true', Bool.not_eq_false, Bool.not_eq_false', ne_eq, Bool.and_eq_true, Bool.or_eq_true, true_eq_decide_iff, false_eq_decide_iff] at h)) <;> (try omega))
      | (refine Sm_split (fun h => ?_) (fun h => ?_) <;> (try (simp only [decide_eq_true_eq, decide_eq_false_iff_not, bne_iff_ne, beq_iff_eq, bne_eq_false_iff_eq, beq_eq_false_iff_ne, Bool.not_eq_true, Bool.not_eq_true', Bool.not_eq_false, Bool.not_eq_false', ne_eq, Bool.and_eq_true, Bool.or_eq_true, true_eq_decide_iff, false_eq_decide_iff] at h)) <;> (try omega))
      | (exact ret_p rfl ⟨rfl, rfl⟩)
      | (refine ret_okv (by first | trivial | simp only [go_sem, detD, detDs, detP, and_self, and_true]) ?_)
      | (exact ret_gen _ _ _ rfl rfl rfl ⟨rfl, rfl⟩)
      | (simp only [Option.some.injEq, DV.tup.injEq, DV.p.injEq, List.cons.injEq, PV.int.injEq, PV.bool.injEq, PV.str.injEq, and_true, true_and])
      | rfl
      | (refine Bool.eq_iff_iff.2 ?_; simp only [decide_eq_true_eq, Bool.and_eq_true, Bool.or_eq_true, Bool.not_eq_true', decide_eq_false_iff_not, Bool.false_eq_true, beq_iff_eq, bne_iff_ne, ne_eq, false_iff, iff_false, true_iff, iff_true]; omega)
      | omega)
  · have hf : xs.length ≤ 1048576 := by have := (szO_ok hb).1; omega
    generalize szO 1048576 xs.length = z at *
    have h2 := k_toSpotS xs hf
    have h3 := k_sBest xs hf
    have h4 := k_iBest xs hf
    have h5 := k_eqSpotS xs hf
    have hol := bp_len (xs := xs) hf
    have hm := k_markSpotS xs 1 hf (by omega)
    unfold BpN BpO at h4
    unfold BpO at h3
    generalize bpO xs = X at *
    obtain ⟨ys, b⟩ := X
    simp only [] at h3 h4 hol
    have h8 := k_eqIntS ys ys hol
    rw [decide_eq_true rfl] at h8
    have h80 := k_eqIntS [] [] (by simp)
    rw [decide_eq_true rfl] at h80
    have h10 := k_markIntS ys 1 hol (by omega)
    have h11 := k_heldIntS ys.length 1 hol (by omega)
    have h12 := marks_len (k := 1) (n := ys.length)
    simp only [envOf, envFrom, go_sem, reduceIte, Nat.reduceEqDiff]
    repeat' (first
      | (simp only [go_sem, reduceIte, Nat.reduceEqDiff, Nat.reduceBEq, Nat.reduceAdd])
      | (simp (disch := omega) only [w64, w8, bytesOf_cons, tmod10, tdiv10, tn48, nsub1, nadd1, nsub, nadd, nmul, List.take_length, Int.toNat_zero, Int.reduceAdd, Int.reduceSub, Int.reduceToNat, Int.reduceMul, Nat.sub_zero, Nat.min_self])
      | (refine Rm_need (by first | exact True.intro | omega | (simp; omega)) ?_)
      | (refine Rm_w rfl (h1) (by trivial) ?_)
      | (refine Rm_w ?_ (h1) (by trivial) ?_; · (simp [viewOfs, viewOf, List.take_of_length_le, cutL]; done))
      | (refine Rm_o h2 rfl (fun r H2 hh => ?_); obtain ⟨rfl, rfl⟩ := hh)
      | (refine Rm_l h3 (by simp [viewOfs, viewOf, List.take_of_length_le]) (fun r H2 hh => ?_); obtain ⟨rfl, rfl⟩ := hh; refine ⟨by simp [flatD, flatDs, flatP], by simp [flatH, flatB, flat_intsB], ?_⟩)
      | (refine Rm_l h4 (by simp [viewOfs, viewOf, List.take_of_length_le]) (fun r H2 hh => ?_); rcases hh with ⟨rfl, rfl⟩ | ⟨rfl, rfl, hn⟩ <;> (try subst hn) <;> refine ⟨by simp [flatD, flatDs, flatP], by simp [flatH, flatB, flat_intsB, flatPs], ?_⟩)
      | (refine Rm_w rfl (h5) (by trivial) ?_)
      | (refine Rm_w ?_ (h5) (by trivial) ?_; · (simp [viewOfs, viewOf, List.take_of_length_le]; done))
      | (refine Rm_w rfl (h8) (by trivial) ?_)
      | (refine Rm_w ?_ (h8) (by trivial) ?_; · (simp [viewOfs, viewOf, List.take_of_length_le]; done))
      | (refine Rm_w rfl (h80) (by trivial) ?_)
      | (refine Rm_w ?_ (h80) (by trivial) ?_; · (simp [viewOfs, viewOf, List.take_of_length_le, cutL]; done))
      | (refine Rm_w rfl (h11) (by trivial) ?_)
      | (refine Rm_w ?_ (h11) (by trivial) ?_; · (simp [viewOfs, viewOf, List.take_of_length_le]; done))
      | (refine Rm_w rfl (k_markNil _) (by trivial) ?_)
      | (refine Rm_w ?_ (k_markNil _) (by trivial) ?_; · (simp [viewOfs, viewOf, List.take_of_length_le, cutL]; done))
      | (refine Rm_w rfl (k_heldNil _ (by omega)) (by trivial) ?_)
      | (refine Rm_w ?_ (k_heldNil _ (by omega)) (by trivial) ?_; · (simp [viewOfs, viewOf, List.take_of_length_le, cutL]; done))
      | (refine Rm_i [2] hm (by simp) (by simp) ⟨_, _, rfl, .inl rfl, _, _, rfl, .inl rfl, rfl⟩ (fun r H2 hh => ?_); obtain ⟨rfl, rfl⟩ := hh)
      | (refine Rm_i [3] h10 (by simp) (by simp) ⟨_, _, rfl, .inl rfl, _, _, rfl, .inl rfl, rfl⟩ (fun r H2 hh => ?_); obtain ⟨rfl, rfl⟩ := hh)
      | (refine Rm_gi (by first | omega | (simp; omega)) ?_)
      | (refine Rm_gb (by first | omega | (simp; omega)) ?_)
      | (refine Rm_ga (by first | omega | (simp; omega)) _ rfl (Nat.le_of_ble_eq_true rfl) ?_)
      | (refine Rm_gm (by first | omega | (simp; omega)) _ rfl ?_)
      | (refine Rm_part _ _ rfl rfl ?_)
      | (refine Rm_puti (by first | omega | (simp; omega)) rfl ?_)
      | (refine Dm_draw [] (by simp) ?_)
      | (refine Tm_both ?_ ?_)
      | (refine Tm_fin (by simp only [hideOK, newsE]; simp []) ?_)
      | (refine Cm_split (fun h => ?_) (fun h => ?_) <;> (try (simp only [decide_eq_true_eq, decide_eq_false_iff_not, bne_iff_ne, bne_eq_false_iff_eq, ne_eq] at h)) <;> (try omega))
      | (refine Gm_split (fun h => ?_) (fun h => ?_) <;> (try simp only [ne_eq, Bool.not_eq_true, Bool.not_eq_false] at h) <;> (try rw [h]) <;> (try (simp only [decide_eq_true_eq, decide_eq_false_iff_not, bne_iff_ne, beq_iff_eq, bne_eq_false_iff_eq, beq_eq_false_iff_ne, Bool.not_eq_true, Bool.not_eq_true', Bool.not_eq_false, Bool.not_eq_false', ne_eq, Bool.and_eq_true, Bool.or_eq_true, true_eq_decide_iff, false_eq_decide_iff] at h)) <;> (try omega))
      | (refine Sm_split (fun h => ?_) (fun h => ?_) <;> (try (simp only [decide_eq_true_eq, decide_eq_false_iff_not] at h)) <;> (try omega))
      | (exact ret_p rfl ⟨rfl, rfl⟩)
      | (refine ret_okv (by first | trivial | simp only [go_sem, detD, detDs, detP, and_self, and_true]) ?_)
      | (exact ret_gen _ _ _ rfl rfl rfl ⟨rfl, rfl⟩)
      | (simp only [Option.some.injEq, DV.tup.injEq, DV.p.injEq, List.cons.injEq, PV.int.injEq, PV.bool.injEq, PV.str.injEq, and_true, true_and])
      | rfl
      | (refine Bool.eq_iff_iff.2 ?_; simp only [decide_eq_true_eq, Bool.and_eq_true, Bool.or_eq_true, Bool.not_eq_true', decide_eq_false_iff_not, Bool.false_eq_true, beq_iff_eq, bne_iff_ne, ne_eq, false_iff, iff_false, true_iff, iff_true]; omega)
      | omega)
set_option maxRecDepth 100000 in
set_option maxHeartbeats 16000000 in
/-- laws.FnExactSimplePlacing -/
theorem k_FnExactSimplePlacing (xs : List Sp) (hr : xs.length ≤ 9223372036854775807 ∧ spBds xs) : Okv Try.prog 6 [spS xs] (.p (.bool true)) := by
  refine ok_D hmix c_laws_FnExactSimplePlacing (by simp) ?_
  have h1 := k_szSpotS xs 1048576 (by omega) hr.1
  by_cases hb : szO 1048576 xs.length < 0
  · generalize szO 1048576 xs.length = z at *
    simp only [envOf, envFrom, go_sem, reduceIte, Nat.reduceEqDiff]
    repeat' (first
      | (simp only [go_sem, reduceIte, Nat.reduceEqDiff])
      | (simp (disch := omega) only [w64, w8, bytesOf_cons, tmod10, tdiv10, tn48, nsub1, nadd1, nsub, nadd, nmul, List.take_length, Int.toNat_zero, Int.reduceAdd, Int.reduceSub, Int.reduceToNat, Int.reduceMul, Nat.sub_zero, Nat.min_self])
      | (refine Rm_need (by first | exact True.intro | omega | (simp; omega)) ?_)
      | (refine Rm_w rfl (h1) (by trivial) ?_)
      | (refine Rm_w ?_ (h1) (by trivial) ?_; · (simp [viewOfs, viewOf, List.take_of_length_le, cutL]; done))
      | (refine Rm_gi (by first | omega | (simp; omega)) ?_)
      | (refine Rm_gb (by first | omega | (simp; omega)) ?_)
      | (refine Rm_ga (by first | omega | (simp; omega)) _ rfl (Nat.le_of_ble_eq_true rfl) ?_)
      | (refine Rm_gm (by first | omega | (simp; omega)) _ rfl ?_)
      | (refine Rm_part _ _ rfl rfl ?_)
      | (refine Rm_puti (by first | omega | (simp; omega)) rfl ?_)
      | (refine Dm_draw [] (by simp) ?_)
      | (refine Tm_both ?_ ?_)
      | (refine Tm_fin (by simp only [hideOK, newsE]; simp []) ?_)
      | (refine Cm_split (fun h => ?_) (fun h => ?_) <;> (try (simp only [decide_eq_true_eq, decide_eq_false_iff_not] at h)) <;> (try omega))
      | (refine Gm_split (fun h => ?_) (fun h => ?_) <;> (try simp only [ne_eq, Bool.not_eq_true, Bool.not_eq_false] at h) <;> (try rw [h]) <;> (try (simp only [decide_eq_true_eq, decide_eq_false_iff_not, bne_iff_ne, beq_iff_eq, bne_eq_false_iff_eq, beq_eq_false_iff_ne, Bool.not_eq_true, Bool.not_eq_true', Bool.not_eq_false, Bool.not_eq_false', ne_eq, Bool.and_eq_true, Bool.or_eq_true, true_eq_decide_iff, false_eq_decide_iff] at h)) <;> (try omega))
      | (refine Sm_split (fun h => ?_) (fun h => ?_) <;> (try (simp only [decide_eq_true_eq, decide_eq_false_iff_not, bne_iff_ne, beq_iff_eq, bne_eq_false_iff_eq, beq_eq_false_iff_ne, Bool.not_eq_true, Bool.not_eq_true', Bool.not_eq_false, Bool.not_eq_false', ne_eq, Bool.and_eq_true, Bool.or_eq_true, true_eq_decide_iff, false_eq_decide_iff] at h)) <;> (try omega))
      | (exact ret_p rfl ⟨rfl, rfl⟩)
      | (refine ret_okv (by first | trivial | simp only [go_sem, detD, detDs, detP, and_self, and_true]) ?_)
      | (exact ret_gen _ _ _ rfl rfl rfl ⟨rfl, rfl⟩)
      | (simp only [Option.some.injEq, DV.tup.injEq, DV.p.injEq, List.cons.injEq, PV.int.injEq, PV.bool.injEq, PV.str.injEq, and_true, true_and])
      | rfl
      | (refine Bool.eq_iff_iff.2 ?_; simp only [decide_eq_true_eq, Bool.and_eq_true, Bool.or_eq_true, Bool.not_eq_true', decide_eq_false_iff_not, Bool.false_eq_true, beq_iff_eq, bne_iff_ne, ne_eq, false_iff, iff_false, true_iff, iff_true]; omega)
      | omega)
  · have hf : xs.length ≤ 1048576 := by have := (szO_ok hb).1; omega
    generalize szO 1048576 xs.length = z at *
    have h2 := k_toSpotS xs hf
    have h3 := k_sSimple xs hf
    have h4 := k_iSimple xs hf
    have h5 := k_eqSpotS xs hf
    have hol := si_len (xs := xs) hf
    have hm := k_markSpotS xs 1 hf (by omega)
    unfold ItN ItO at h4
    unfold ItO at h3
    generalize simO xs = X at *
    obtain ⟨ys, b⟩ := X
    simp only [] at h3 h4 hol
    have h8 := k_eqIntS ys ys hol
    rw [decide_eq_true rfl] at h8
    have h80 := k_eqIntS [] [] (by simp)
    rw [decide_eq_true rfl] at h80
    have h10 := k_markIntS ys 1 hol (by omega)
    have h11 := k_heldIntS ys.length 1 hol (by omega)
    have h12 := marks_len (k := 1) (n := ys.length)
    simp only [envOf, envFrom, go_sem, reduceIte, Nat.reduceEqDiff]
    repeat' (first
      | (simp only [go_sem, reduceIte, Nat.reduceEqDiff, Nat.reduceBEq, Nat.reduceAdd])
      | (simp (disch := omega) only [w64, w8, bytesOf_cons, tmod10, tdiv10, tn48, nsub1, nadd1, nsub, nadd, nmul, List.take_length, Int.toNat_zero, Int.reduceAdd, Int.reduceSub, Int.reduceToNat, Int.reduceMul, Nat.sub_zero, Nat.min_self])
      | (refine Rm_need (by first | exact True.intro | omega | (simp; omega)) ?_)
      | (refine Rm_w rfl (h1) (by trivial) ?_)
      | (refine Rm_w ?_ (h1) (by trivial) ?_; · (simp [viewOfs, viewOf, List.take_of_length_le, cutL]; done))
      | (refine Rm_o h2 rfl (fun r H2 hh => ?_); obtain ⟨rfl, rfl⟩ := hh)
      | (refine Rm_l h3 (by simp [viewOfs, viewOf, List.take_of_length_le]) (fun r H2 hh => ?_); obtain ⟨rfl, rfl⟩ := hh; refine ⟨by simp [flatD, flatDs, flatP], by simp [flatH, flatB, flat_intsB], ?_⟩)
      | (refine Rm_l h4 (by simp [viewOfs, viewOf, List.take_of_length_le]) (fun r H2 hh => ?_); rcases hh with ⟨rfl, rfl⟩ | ⟨rfl, rfl, hn⟩ <;> (try subst hn) <;> refine ⟨by simp [flatD, flatDs, flatP], by simp [flatH, flatB, flat_intsB, flatPs], ?_⟩)
      | (refine Rm_w rfl (h5) (by trivial) ?_)
      | (refine Rm_w ?_ (h5) (by trivial) ?_; · (simp [viewOfs, viewOf, List.take_of_length_le]; done))
      | (refine Rm_w rfl (h8) (by trivial) ?_)
      | (refine Rm_w ?_ (h8) (by trivial) ?_; · (simp [viewOfs, viewOf, List.take_of_length_le]; done))
      | (refine Rm_w rfl (h80) (by trivial) ?_)
      | (refine Rm_w ?_ (h80) (by trivial) ?_; · (simp [viewOfs, viewOf, List.take_of_length_le, cutL]; done))
      | (refine Rm_w rfl (h11) (by trivial) ?_)
      | (refine Rm_w ?_ (h11) (by trivial) ?_; · (simp [viewOfs, viewOf, List.take_of_length_le]; done))
      | (refine Rm_w rfl (k_markNil _) (by trivial) ?_)
      | (refine Rm_w ?_ (k_markNil _) (by trivial) ?_; · (simp [viewOfs, viewOf, List.take_of_length_le, cutL]; done))
      | (refine Rm_w rfl (k_heldNil _ (by omega)) (by trivial) ?_)
      | (refine Rm_w ?_ (k_heldNil _ (by omega)) (by trivial) ?_; · (simp [viewOfs, viewOf, List.take_of_length_le, cutL]; done))
      | (refine Rm_i [2] hm (by simp) (by simp) ⟨_, _, rfl, .inl rfl, _, _, rfl, .inl rfl, rfl⟩ (fun r H2 hh => ?_); obtain ⟨rfl, rfl⟩ := hh)
      | (refine Rm_i [3] h10 (by simp) (by simp) ⟨_, _, rfl, .inl rfl, _, _, rfl, .inl rfl, rfl⟩ (fun r H2 hh => ?_); obtain ⟨rfl, rfl⟩ := hh)
      | (refine Rm_gi (by first | omega | (simp; omega)) ?_)
      | (refine Rm_gb (by first | omega | (simp; omega)) ?_)
      | (refine Rm_ga (by first | omega | (simp; omega)) _ rfl (Nat.le_of_ble_eq_true rfl) ?_)
      | (refine Rm_gm (by first | omega | (simp; omega)) _ rfl ?_)
      | (refine Rm_part _ _ rfl rfl ?_)
      | (refine Rm_puti (by first | omega | (simp; omega)) rfl ?_)
      | (refine Dm_draw [] (by simp) ?_)
      | (refine Tm_both ?_ ?_)
      | (refine Tm_fin (by simp only [hideOK, newsE]; simp []) ?_)
      | (refine Cm_split (fun h => ?_) (fun h => ?_) <;> (try (simp only [decide_eq_true_eq, decide_eq_false_iff_not, bne_iff_ne, bne_eq_false_iff_eq, ne_eq] at h)) <;> (try omega))
      | (refine Gm_split (fun h => ?_) (fun h => ?_) <;> (try simp only [ne_eq, Bool.not_eq_true, Bool.not_eq_false] at h) <;> (try rw [h]) <;> (try (simp only [decide_eq_true_eq, decide_eq_false_iff_not, bne_iff_ne, beq_iff_eq, bne_eq_false_iff_eq, beq_eq_false_iff_ne, Bool.not_eq_true, Bool.not_eq_true', Bool.not_eq_false, Bool.not_eq_false', ne_eq, Bool.and_eq_true, Bool.or_eq_true, true_eq_decide_iff, false_eq_decide_iff] at h)) <;> (try omega))
      | (refine Sm_split (fun h => ?_) (fun h => ?_) <;> (try (simp only [decide_eq_true_eq, decide_eq_false_iff_not] at h)) <;> (try omega))
      | (exact ret_p rfl ⟨rfl, rfl⟩)
      | (refine ret_okv (by first | trivial | simp only [go_sem, detD, detDs, detP, and_self, and_true]) ?_)
      | (exact ret_gen _ _ _ rfl rfl rfl ⟨rfl, rfl⟩)
      | (simp only [Option.some.injEq, DV.tup.injEq, DV.p.injEq, List.cons.injEq, PV.int.injEq, PV.bool.injEq, PV.str.injEq, and_true, true_and])
      | rfl
      | (refine Bool.eq_iff_iff.2 ?_; simp only [decide_eq_true_eq, Bool.and_eq_true, Bool.or_eq_true, Bool.not_eq_true', decide_eq_false_iff_not, Bool.false_eq_true, beq_iff_eq, bne_iff_ne, ne_eq, false_iff, iff_false, true_iff, iff_true]; omega)
      | omega)
end Go.Proofs.Ytakpkggmhgkicaa

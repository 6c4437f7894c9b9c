import Derived.Test.YtgpalnoopmjlpaaRFn
namespace Go.Proofs.Ytgpalnoopmjlpaa
open Go.Dv Go.Dv.EvL
attribute [local irreducible] Ok Rm Dm Om Sm Xm Cm Gm Hm Tm

set_option maxRecDepth 100000 in
set_option maxHeartbeats 16000000 in
/-- laws.FnRecordings -/
theorem k_FnRecordings (code : List UInt8) (hc : code.length ≤ 9223372036854775807) : Okv Try.prog 12 [codeP code] (.p (.bool true)) := by
  refine ok_D hmix c_laws_FnRecordings (by simp) ?_
  have hbig := k_rBig code hc
  by_cases hb : 65536 < code.length
  · rw [decide_eq_true hb] at hbig
    simp only [envOf, envFrom, go_sem, reduceIte, Nat.reduceEqDiff]
    repeat' (first
      | (simp only [go_sem, reduceIte, Nat.reduceEqDiff])
      | (simp (disch := omega) only [w64, w8, bytesOf_cons, tmod10, tdiv10, tn48, nsub1, nadd1, nsub, nadd, nmul, List.take_length, Int.toNat_zero, Int.reduceAdd, Int.reduceSub, Int.reduceToNat, Int.reduceMul, Nat.sub_zero, Nat.min_self])
      | (refine Rm_need (by first | exact True.intro | omega | (simp; omega)) ?_)
      | (refine Rm_w rfl (hbig) (by trivial) ?_)
      | (refine Rm_w ?_ (hbig) (by trivial) ?_; · (simp [viewOfs, viewOf, List.take_of_length_le, cutL]; done))
      | (refine Rm_gi (by first | omega | (simp; omega)) ?_)
      | (refine Rm_gb (by first | omega | (simp; omega)) ?_)
      | (refine Rm_ga (by first | omega | (simp; omega)) _ rfl (Nat.le_of_ble_eq_true rfl) ?_)
      | (refine Rm_gm (by first | omega | (simp; omega)) _ rfl ?_)
      | (refine Rm_part _ _ rfl rfl ?_)
      | (refine Rm_puti (by first | omega | (simp; omega)) rfl ?_)
      | (refine Dm_draw [] (by simp) ?_)
      | (refine Tm_both ?_ ?_)
      | (refine Tm_fin (by simp only [hideOK, newsE]; simp []) ?_)
      | (refine Cm_split (fun h => ?_) (fun h => ?_) <;> (try (simp only [decide_eq_true_eq, decide_eq_false_iff_not, bne_iff_ne, beq_iff_eq, bne_eq_false_iff_eq, beq_eq_false_iff_ne, Bool.not_eq_true, Bool.not_eq_true', Bool.not_eq_false, Bool.not_eq_false', ne_eq, Bool.and_eq_true, Bool.or_eq_true, true_eq_decide_iff, false_eq_decide_iff] at h)) <;> (try omega))
      | (refine Gm_split (fun h => ?_) (fun h => ?_) <;> (try simp only [ne_eq, Bool.not_eq_true, Bool.not_eq_false] at h) <;> (try rw [h]) <;> (try (simp only [decide_eq_true_eq, decide_eq_false_iff_not, bne_iff_ne, beq_iff_eq, bne_eq_false_iff_eq, beq_eq_false_iff_ne, Bool.not_eq_true, Bool.not_eq_true', Bool.not_eq_false, Bool.not_eq_false', ne_eq, Bool.and_eq_true, Bool.or_eq_true, true_eq_decide_iff, false_eq_decide_iff] at h)) <;> (try omega))
      | (refine Sm_split (fun h => ?_) (fun h => ?_) <;> (try (simp only [decide_eq_true_eq, decide_eq_false_iff_not, bne_iff_ne, beq_iff_eq, bne_eq_false_iff_eq, beq_eq_false_iff_ne, Bool.not_eq_true, Bool.not_eq_true', Bool.not_eq_false, Bool.not_eq_false', ne_eq, Bool.and_eq_true, Bool.or_eq_true, true_eq_decide_iff, false_eq_decide_iff] at h)) <;> (try omega))
      | (exact ret_p rfl ⟨rfl, rfl⟩)
      | (refine ret_okv (by first | trivial | simp only [go_sem, detD, detDs, detP, and_self, and_true]) ?_)
      | (exact ret_gen _ _ _ rfl rfl rfl ⟨rfl, rfl⟩)
      | (simp only [Option.some.injEq, DV.tup.injEq, DV.p.injEq, List.cons.injEq, PV.int.injEq, PV.bool.injEq, PV.str.injEq, and_true, true_and])
      | rfl
      | (refine Bool.eq_iff_iff.2 ?_; simp only [decide_eq_true_eq, Bool.and_eq_true, Bool.or_eq_true, Bool.not_eq_true', decide_eq_false_iff_not, Bool.false_eq_true, beq_iff_eq, bne_iff_ne, ne_eq, false_iff, iff_false, true_iff, iff_true]; omega)
      | omega)
  · rw [decide_eq_false hb] at hbig
    have hdp := k_DrawParseRecording code (by omega)
    have hdc := k_DrawCutRecording code (by omega)
    have hdm := k_DrawMergeRecordings code (by omega)
    simp only [envOf, envFrom, go_sem, reduceIte, Nat.reduceEqDiff]
    repeat' (first
      | (simp only [go_sem, reduceIte, Nat.reduceEqDiff])
      | (simp (disch := omega) only [w64, w8, bytesOf_cons, tmod10, tdiv10, tn48, nsub1, nadd1, nsub, nadd, nmul, List.take_length, Int.toNat_zero, Int.reduceAdd, Int.reduceSub, Int.reduceToNat, Int.reduceMul, Nat.sub_zero, Nat.min_self])
      | (refine Rm_need (by first | exact True.intro | omega | (simp; omega)) ?_)
      | (refine Rm_w rfl (hbig) (by trivial) ?_)
      | (refine Rm_w ?_ (hbig) (by trivial) ?_; · (simp [viewOfs, viewOf, List.take_of_length_le, cutL]; done))
      | (refine Rm_gi (by first | omega | (simp; omega)) ?_)
      | (refine Rm_gb (by first | omega | (simp; omega)) ?_)
      | (refine Rm_ga (by first | omega | (simp; omega)) _ rfl (Nat.le_of_ble_eq_true rfl) ?_)
      | (refine Rm_gm (by first | omega | (simp; omega)) _ rfl ?_)
      | (refine Rm_part _ _ rfl rfl ?_)
      | (refine Rm_puti (by first | omega | (simp; omega)) rfl ?_)
      | (refine Dm_draw [] (by simp) ?_)
      | (refine Tm_both ?_ ?_)
      | (refine Tm_fin (by simp only [hideOK, newsE]; simp []) ?_)
      | (refine Cm_split (fun h => ?_) (fun h => ?_) <;> (try (simp only [decide_eq_true_eq, decide_eq_false_iff_not, bne_iff_ne, beq_iff_eq, bne_eq_false_iff_eq, beq_eq_false_iff_ne, Bool.not_eq_true, Bool.not_eq_true', Bool.not_eq_false, Bool.not_eq_false', ne_eq, Bool.and_eq_true, Bool.or_eq_true, true_eq_decide_iff, false_eq_decide_iff] at h)) <;> (try omega))
      | (refine Gm_split (fun h => ?_) (fun h => ?_) <;> (try simp only [ne_eq, Bool.not_eq_true, Bool.not_eq_false] at h) <;> (try rw [h]) <;> (try (simp only [decide_eq_true_eq, decide_eq_false_iff_not, bne_iff_ne, beq_iff_eq, bne_eq_false_iff_eq, beq_eq_false_iff_ne, Bool.not_eq_true, Bool.not_eq_true', Bool.not_eq_false, Bool.not_eq_false', ne_eq, Bool.and_eq_true, Bool.or_eq_true, true_eq_decide_iff, false_eq_decide_iff] at h)) <;> (try omega))
      | (refine Sm_split (fun h => ?_) (fun h => ?_) <;> (try (simp only [decide_eq_true_eq, decide_eq_false_iff_not, bne_iff_ne, beq_iff_eq, bne_eq_false_iff_eq, beq_eq_false_iff_ne, Bool.not_eq_true, Bool.not_eq_true', Bool.not_eq_false, Bool.not_eq_false', ne_eq, Bool.and_eq_true, Bool.or_eq_true, true_eq_decide_iff, false_eq_decide_iff] at h)) <;> (try omega))
      | (exact ret_p rfl ⟨rfl, rfl⟩)
      | (refine ret_okv (by first | trivial | simp only [go_sem, detD, detDs, detP, and_self, and_true]) ?_)
      | (exact ret_gen _ _ _ rfl rfl rfl ⟨rfl, rfl⟩)
      | (simp only [Option.some.injEq, DV.tup.injEq, DV.p.injEq, List.cons.injEq, PV.int.injEq, PV.bool.injEq, PV.str.injEq, and_true, true_and])
      | rfl
      | (refine Bool.eq_iff_iff.2 ?_; simp only [decide_eq_true_eq, Bool.and_eq_true, Bool.or_eq_true, Bool.not_eq_true', decide_eq_false_iff_not, Bool.false_eq_true, beq_iff_eq, bne_iff_ne, ne_eq, false_iff, iff_false, true_iff, iff_true]; omega)
      | omega)
    refine Rm_o (k_DrawRecordingText code (by omega)) rfl ?_
    rintro r H2 ⟨xs, rfl, hx, rfl⟩
    have hf := rs_fits hx
    have tI := k_iText xs hf
    have tS := k_sText xs hf
    have vI := k_iRecs xs hf.1 (fits_len hf)
    have rr := k_rRcds xs hf.1
    have stage : ∃ (T : List UInt8) (L : List Rcd) (b : Bool), rtextO xs = (T, b) ∧ recsB xs = b ∧ Okw Try.prog 34 [.str T] (OutO (L, true)) ∧ (b = true → L = xs) := by
      unfold rtextO
      cases h : recsB xs
      · exact ⟨[], [], false, rfl, rfl, out_own (k_iParse1 [] rfl), fun h => by cases h⟩
      · exact ⟨textO xs, xs, true, rfl, rfl, out_own (k_iParse1 xs h), fun _ => rfl⟩
    obtain ⟨T, L, b, e1, e2, hpar, e3⟩ := stage
    rw [e1] at tI tS
    rw [e2] at vI
    simp only [] at tI tS
    unfold OutO at hpar
    simp only [] at hpar
    clear e1 e2 hf hx hb
    cases b
    all_goals try (obtain rfl := e3 rfl)
    all_goals
      repeat' (first
        | (simp only [go_sem, reduceIte, Nat.reduceEqDiff, Nat.reduceBEq])
        | (simp (disch := omega) only [w64, w8, bytesOf_cons, tmod10, tdiv10, tn48, nsub1, nadd1, nsub, nadd, nmul, List.take_length, Int.toNat_zero, Int.reduceAdd, Int.reduceSub, Int.reduceToNat, Int.reduceMul, Nat.sub_zero, Nat.min_self])
        | (refine Rm_need (by first | exact True.intro | omega | (simp; omega)) ?_)
        | (refine Rm_w rfl (tI) (by trivial) ?_)
        | (refine Rm_w ?_ (tI) (by trivial) ?_; · (simp [viewOfs, viewOf, List.take_of_length_le]; done))
        | (refine Rm_w rfl (tS) (by trivial) ?_)
        | (refine Rm_w ?_ (tS) (by trivial) ?_; · (simp [viewOfs, viewOf, List.take_of_length_le]; done))
        | (refine Rm_w rfl (vI) (by trivial) ?_)
        | (refine Rm_w ?_ (vI) (by trivial) ?_; · (simp [viewOfs, viewOf, List.take_of_length_le]; done))
        | (refine Rm_w rfl (rr) (by trivial) ?_)
        | (refine Rm_w ?_ (rr) (by trivial) ?_; · (simp [viewOfs, viewOf, List.take_of_length_le]; done))
        | (refine Rm_o hpar rfl (fun r H2 hh => ?_); obtain ⟨rfl, rfl⟩ := hh)
        | (refine Rm_gi (by first | omega | (simp; omega)) ?_)
        | (refine Rm_gb (by first | omega | (simp; omega)) ?_)
        | (refine Rm_ga (by first | omega | (simp; omega)) _ rfl (Nat.le_of_ble_eq_true rfl) ?_)
        | (refine Rm_gm (by first | omega | (simp; omega)) _ rfl ?_)
        | (refine Rm_part _ _ rfl rfl ?_)
        | (refine Rm_puti (by first | omega | (simp; omega)) rfl ?_)
        | (refine Dm_draw [] (by simp) ?_)
        | (refine Tm_both ?_ ?_)
        | (refine Tm_fin (by simp only [hideOK, newsE]; simp []) ?_)
        | (refine Cm_split (fun h => ?_) (fun h => ?_) <;> (try (simp only [decide_eq_true_eq, decide_eq_false_iff_not, bne_iff_ne, beq_iff_eq, bne_eq_false_iff_eq, beq_eq_false_iff_ne, Bool.not_eq_true, Bool.not_eq_true', Bool.not_eq_false, Bool.not_eq_false', ne_eq, Bool.and_eq_true, Bool.or_eq_true, true_eq_decide_iff, false_eq_decide_iff] at h)) <;> (try omega))
        | (refine Gm_split (fun h => ?_) (fun h => ?_) <;> (try simp only [ne_eq, Bool.not_eq_true, Bool.not_eq_false] at h) <;> (try rw [h]) <;> (try (simp only [decide_eq_true_eq, decide_eq_false_iff_not, bne_iff_ne, beq_iff_eq, bne_eq_false_iff_eq, beq_eq_false_iff_ne, Bool.not_eq_true, Bool.not_eq_true', Bool.not_eq_false, Bool.not_eq_false', ne_eq, Bool.and_eq_true, Bool.or_eq_true, true_eq_decide_iff, false_eq_decide_iff] at h)) <;> (try omega))
        | (refine Sm_split (fun h => ?_) (fun h => ?_) <;> (try (simp only [decide_eq_true_eq, decide_eq_false_iff_not, bne_iff_ne, beq_iff_eq, bne_eq_false_iff_eq, beq_eq_false_iff_ne, Bool.not_eq_true, Bool.not_eq_true', Bool.not_eq_false, Bool.not_eq_false', ne_eq, Bool.and_eq_true, Bool.or_eq_true, true_eq_decide_iff, false_eq_decide_iff] at h)) <;> (try omega))
        | (exact ret_p rfl ⟨rfl, rfl⟩)
        | (refine ret_okv (by first | trivial | simp only [go_sem, detD, detDs, detP, and_self, and_true]) ?_)
        | (exact ret_gen _ _ _ rfl rfl rfl ⟨rfl, rfl⟩)
        | (simp only [Option.some.injEq, DV.tup.injEq, DV.p.injEq, List.cons.injEq, PV.int.injEq, PV.bool.injEq, PV.str.injEq, and_true, true_and])
        | rfl
        | (refine Bool.eq_iff_iff.2 ?_; simp only [decide_eq_true_eq, Bool.and_eq_true, Bool.or_eq_true, Bool.not_eq_true', decide_eq_false_iff_not, Bool.false_eq_true, beq_iff_eq, bne_iff_ne, ne_eq, false_iff, iff_false, true_iff, iff_true]; omega)
        | omega)
    all_goals
      refine Rm_o hdp rfl ?_
      rintro r H2 ⟨t, rfl, htl, rfl⟩
      obtain ⟨⟨ps, pb⟩, p1, p2, p3⟩ := parse_both t (by omega)
      unfold OutO at p1 p2
      simp only [] at p1 p2 p3
      have p4 := k_rRcds ps (by omega)
      repeat' (first
        | (simp only [go_sem, reduceIte, Nat.reduceEqDiff, Nat.reduceBEq, Nat.reduceAdd])
        | (simp (disch := omega) only [w64, w8, bytesOf_cons, tmod10, tdiv10, tn48, nsub1, nadd1, nsub, nadd, nmul, List.take_length, Int.toNat_zero, Int.reduceAdd, Int.reduceSub, Int.reduceToNat, Int.reduceMul, Nat.sub_zero, Nat.min_self])
        | (refine Rm_need (by first | exact True.intro | omega | (simp; omega)) ?_)
        | (refine Rm_o p1 rfl (fun r H2 hh => ?_); obtain ⟨rfl, rfl⟩ := hh)
        | (refine Rm_o p2 rfl (fun r H2 hh => ?_); obtain ⟨rfl, rfl⟩ := hh)
        | (refine Rm_w rfl (p4) (by trivial) ?_)
        | (refine Rm_w ?_ (p4) (by trivial) ?_; · (simp [viewOfs, viewOf, List.take_of_length_le]; done))
        | (refine Rm_gi (by first | omega | (simp; omega)) ?_)
        | (refine Rm_gb (by first | omega | (simp; omega)) ?_)
        | (refine Rm_ga (by first | omega | (simp; omega)) _ rfl (Nat.le_of_ble_eq_true rfl) ?_)
        | (refine Rm_gm (by first | omega | (simp; omega)) _ rfl ?_)
        | (refine Rm_part _ _ rfl rfl ?_)
        | (refine Rm_puti (by first | omega | (simp; omega)) rfl ?_)
        | (refine Dm_draw [] (by simp) ?_)
        | (refine Tm_both ?_ ?_)
        | (refine Tm_fin (by simp only [hideOK, newsE]; simp []) ?_)
        | (refine Cm_split (fun h => ?_) (fun h => ?_) <;> (try (simp only [decide_eq_true_eq, decide_eq_false_iff_not, bne_iff_ne, beq_iff_eq, bne_eq_false_iff_eq, beq_eq_false_iff_ne, Bool.not_eq_true, Bool.not_eq_true', Bool.not_eq_false, Bool.not_eq_false', ne_eq, Bool.and_eq_true, Bool.or_eq_true, true_eq_decide_iff, false_eq_decide_iff] at h)) <;> (try omega))
        | (refine Gm_split (fun h => ?_) (fun h => ?_) <;> (try simp only [ne_eq, Bool.not_eq_true, Bool.not_eq_false] at h) <;> (try rw [h]) <;> (try (simp only [decide_eq_true_eq, decide_eq_false_iff_not, bne_iff_ne, beq_iff_eq, bne_eq_false_iff_eq, beq_eq_false_iff_ne, Bool.not_eq_true, Bool.not_eq_true', Bool.not_eq_false, Bool.not_eq_false', ne_eq, Bool.and_eq_true, Bool.or_eq_true, true_eq_decide_iff, false_eq_decide_iff] at h)) <;> (try omega))
        | (refine Sm_split (fun h => ?_) (fun h => ?_) <;> (try (simp only [decide_eq_true_eq, decide_eq_false_iff_not, bne_iff_ne, beq_iff_eq, bne_eq_false_iff_eq, beq_eq_false_iff_ne, Bool.not_eq_true, Bool.not_eq_true', Bool.not_eq_false, Bool.not_eq_false', ne_eq, Bool.and_eq_true, Bool.or_eq_true, true_eq_decide_iff, false_eq_decide_iff] at h)) <;> (try omega))
        | (exact ret_p rfl ⟨rfl, rfl⟩)
        | (refine ret_okv (by first | trivial | simp only [go_sem, detD, detDs, detP, and_self, and_true]) ?_)
        | (exact ret_gen _ _ _ rfl rfl rfl ⟨rfl, rfl⟩)
        | (simp only [Option.some.injEq, DV.tup.injEq, DV.p.injEq, List.cons.injEq, PV.int.injEq, PV.bool.injEq, PV.str.injEq, and_true, true_and])
        | rfl
        | (refine Bool.eq_iff_iff.2 ?_; simp only [decide_eq_true_eq, Bool.and_eq_true, Bool.or_eq_true, Bool.not_eq_true', decide_eq_false_iff_not, Bool.false_eq_true, beq_iff_eq, bne_iff_ne, ne_eq, false_iff, iff_false, true_iff, iff_true]; omega)
        | omega)
    all_goals
      refine Rm_o hdc rfl ?_
      rintro r H2 ⟨c, f, u, rfl, hcx, rfl⟩
      have hcf := rs_fits hcx
      have c1 := out_own (k_iCut c f u hcf)
      have c2 := k_sCut c f u hcf
      have hco := cut_out (f := f) (t := u) hcx
      have hmc := mrg_cut (c := c) (f := f) (t := u)
      have mI := out_own (k_iMrg c (cutO c f u).1 hcf (rs_fits hco))
      have hkl := hco.1
      unfold OutO at c1 c2 mI
      generalize cutO c f u = K at *
      obtain ⟨kl, kb⟩ := K
      simp only [] at c1 c2 mI hmc hkl
      have c4 := k_rRcds kl (by omega)
      have c5 := k_rRcds c hcf.1
      clear hco
      cases kb
    all_goals try (rw [hmc rfl] at mI; simp only [] at mI)
    all_goals
      repeat' (first
        | (simp only [go_sem, reduceIte, Nat.reduceEqDiff, Nat.reduceBEq, Nat.reduceAdd])
        | (simp (disch := omega) only [w64, w8, bytesOf_cons, tmod10, tdiv10, tn48, nsub1, nadd1, nsub, nadd, nmul, List.take_length, Int.toNat_zero, Int.reduceAdd, Int.reduceSub, Int.reduceToNat, Int.reduceMul, Nat.sub_zero, Nat.min_self])
        | (refine Rm_need (by first | exact True.intro | omega | (simp; omega)) ?_)
        | (refine Rm_l c1 ?_ (fun r H2 hh => ?_); simp [viewOfs, viewOf, List.take_of_length_le]; obtain ⟨rfl, rfl⟩ := hh; refine ⟨by simp [flatD, flatDs, flatP], by simp [flatH, flatB, flat_rcd2], ?_⟩)
        | (refine Rm_l c2 ?_ (fun r H2 hh => ?_); simp [viewOfs, viewOf, List.take_of_length_le]; obtain ⟨rfl, rfl⟩ := hh; refine ⟨by simp [flatD, flatDs, flatP], by simp [flatH, flatB, flat_rcd2], ?_⟩)
        | (refine Rm_l mI ?_ (fun r H2 hh => ?_); simp [viewOfs, viewOf, List.take_of_length_le]; obtain ⟨rfl, rfl⟩ := hh; refine ⟨by simp [flatD, flatDs, flatP], by simp [flatH, flatB, flat_rcd2], ?_⟩)
        | (refine Rm_w rfl (c4) (by trivial) ?_)
        | (refine Rm_w ?_ (c4) (by trivial) ?_; · (simp [viewOfs, viewOf, List.take_of_length_le]; done))
        | (refine Rm_w rfl (c5) (by trivial) ?_)
        | (refine Rm_w ?_ (c5) (by trivial) ?_; · (simp [viewOfs, viewOf, List.take_of_length_le]; done))
        | (refine Rm_gi (by first | omega | (simp; omega)) ?_)
        | (refine Rm_gb (by first | omega | (simp; omega)) ?_)
        | (refine Rm_ga (by first | omega | (simp; omega)) _ rfl (Nat.le_of_ble_eq_true rfl) ?_)
        | (refine Rm_gm (by first | omega | (simp; omega)) _ rfl ?_)
        | (refine Rm_part _ _ rfl rfl ?_)
        | (refine Rm_puti (by first | omega | (simp; omega)) rfl ?_)
        | (refine Dm_draw [] (by simp) ?_)
        | (refine Tm_both ?_ ?_)
        | (refine Tm_fin (by simp only [hideOK, newsE]; simp []) ?_)
        | (refine Cm_split (fun h => ?_) (fun h => ?_) <;> (try (simp only [decide_eq_true_eq, decide_eq_false_iff_not, bne_iff_ne, beq_iff_eq, bne_eq_false_iff_eq, beq_eq_false_iff_ne, Bool.not_eq_true, Bool.not_eq_true', Bool.not_eq_false, Bool.not_eq_false', ne_eq, Bool.and_eq_true, Bool.or_eq_true, true_eq_decide_iff, false_eq_decide_iff] at h)) <;> (try omega))
        | (refine Gm_split (fun h => ?_) (fun h => ?_) <;> (try simp only [ne_eq, Bool.not_eq_true, Bool.not_eq_false] at h) <;> (try rw [h]) <;> (try (simp only [decide_eq_true_eq, decide_eq_false_iff_not, bne_iff_ne, beq_iff_eq, bne_eq_false_iff_eq, beq_eq_false_iff_ne, Bool.not_eq_true, Bool.not_eq_true', Bool.not_eq_false, Bool.not_eq_false', ne_eq, Bool.and_eq_true, Bool.or_eq_true, true_eq_decide_iff, false_eq_decide_iff] at h)) <;> (try omega))
        | (refine Sm_split (fun h => ?_) (fun h => ?_) <;> (try (simp only [decide_eq_true_eq, decide_eq_false_iff_not, bne_iff_ne, beq_iff_eq, bne_eq_false_iff_eq, beq_eq_false_iff_ne, Bool.not_eq_true, Bool.not_eq_true', Bool.not_eq_false, Bool.not_eq_false', ne_eq, Bool.and_eq_true, Bool.or_eq_true, true_eq_decide_iff, false_eq_decide_iff] at h)) <;> (try omega))
        | (exact ret_p rfl ⟨rfl, rfl⟩)
        | (refine ret_okv (by first | trivial | simp only [go_sem, detD, detDs, detP, and_self, and_true]) ?_)
        | (exact ret_gen _ _ _ rfl rfl rfl ⟨rfl, rfl⟩)
        | (simp only [Option.some.injEq, DV.tup.injEq, DV.p.injEq, List.cons.injEq, PV.int.injEq, PV.bool.injEq, PV.str.injEq, and_true, true_and])
        | rfl
        | (refine Bool.eq_iff_iff.2 ?_; simp only [decide_eq_true_eq, Bool.and_eq_true, Bool.or_eq_true, Bool.not_eq_true', decide_eq_false_iff_not, Bool.false_eq_true, beq_iff_eq, bne_iff_ne, ne_eq, false_iff, iff_false, true_iff, iff_true]; omega)
        | omega)
    all_goals
      clear mI c1 c2 c4 c5 hmc
      refine Rm_o hdm rfl ?_
      rintro r H2 (⟨a, d, rfl, hax, hdx, rfl⟩ | ⟨a, k, rfl, hax, hk, rfl⟩)
    all_goals first
      | (have hdf := rs_fits hdx; have hdl := hdx.1; have m1 := out_own (k_iMrg a d (rs_fits hax) hdf); have m2 := k_sMrg a d (rs_fits hax) hdf; have hms := mrg_size (a := a) (b := d); have hmo := mrg_out (a := a) (b := d); generalize mrgO a d = M at *)
      | (have hdf : Fits (a.drop k) := ⟨by have := hax.1; simp; omega, fun r hr => (rs_fits hax).2 r (List.mem_of_mem_drop hr)⟩; have hdl : (a.drop k).length = a.length - k := (by (simp; done)); have hvw : List.take (a.length - k) (List.drop k (List.map Rcd.pv a)) = List.map Rcd.pv (a.drop k) := (by (rw [← List.map_drop, List.take_of_length_le (by simp)]; done)); have m1 := out_own (k_iMrg a (a.drop k) (rs_fits hax) hdf); have m2 := k_sMrg a (a.drop k) (rs_fits hax) hdf; have hms := mrg_size (a := a) (b := a.drop k); have hmo := mrg_out (a := a) (b := a.drop k); generalize mrgO a (a.drop k) = M at *)
    all_goals
      have hal := hax.1
      unfold OutO at m1 m2
      obtain ⟨ml, mb⟩ := M
      simp only [] at m1 m2 hms hmo
      have m4 := k_rRcds ml (by omega)
      repeat' (first
        | (simp only [go_sem, reduceIte, Nat.reduceEqDiff, Nat.reduceBEq, Nat.reduceAdd, Bool.false_eq_true])
        | (simp (disch := omega) only [w64, nadd])
        | (refine Rm_need (by first | exact True.intro | omega | (simp; omega)) ?_)
        | (refine Rm_l m1 ?_ (fun r H2 hh => ?_); simp [viewOfs, viewOf, List.take_of_length_le, -List.map_drop]; obtain ⟨rfl, rfl⟩ := hh; refine ⟨by simp [flatD, flatDs, flatP], by simp [flatH, flatB, flat_rcd2, flatPs], ?_⟩)
        | (refine Rm_l m2 ?_ (fun r H2 hh => ?_); simp [viewOfs, viewOf, List.take_of_length_le, -List.map_drop]; obtain ⟨rfl, rfl⟩ := hh; refine ⟨by simp [flatD, flatDs, flatP], by simp [flatH, flatB, flat_rcd2, flatPs], ?_⟩)
        | (refine Rm_l m1 ?_ (fun r H2 hh => ?_); simp [viewOfs, viewOf, List.take_of_length_le]; obtain ⟨rfl, rfl⟩ := hh; refine ⟨by simp [flatD, flatDs, flatP], by simp [flatH, flatB, flat_rcd2], ?_⟩)
        | (refine Rm_l m2 ?_ (fun r H2 hh => ?_); simp [viewOfs, viewOf, List.take_of_length_le]; obtain ⟨rfl, rfl⟩ := hh; refine ⟨by simp [flatD, flatDs, flatP], by simp [flatH, flatB, flat_rcd2], ?_⟩)
        | (refine Rm_w rfl (m4) (by trivial) ?_)
        | (refine Rm_w ?_ (m4) (by trivial) ?_; · (simp [viewOfs, viewOf, List.take_of_length_le]; done))
        | (refine Rm_gi (by first | omega | (simp; omega)) ?_)
        | (refine Rm_gb (by first | omega | (simp; omega)) ?_)
        | (refine Rm_ga (by first | omega | (simp; omega)) _ rfl (Nat.le_of_ble_eq_true rfl) ?_)
        | (refine Rm_gm (by first | omega | (simp; omega)) _ rfl ?_)
        | (refine Rm_part _ _ rfl rfl ?_)
        | (refine Rm_puti (by first | omega | (simp; omega)) rfl ?_)
        | (refine Dm_draw [] (by simp) ?_)
        | (refine Tm_both ?_ ?_)
        | (refine Tm_fin (by simp only [hideOK, newsE]; simp []) ?_)
        | (refine Cm_split (fun h => ?_) (fun h => ?_) <;> (try (simp only [decide_eq_true_eq, decide_eq_false_iff_not, bne_iff_ne, beq_iff_eq, bne_eq_false_iff_eq, beq_eq_false_iff_ne, Bool.not_eq_true, Bool.not_eq_true', Bool.not_eq_false, Bool.not_eq_false', ne_eq, Bool.and_eq_true, Bool.or_eq_true, true_eq_decide_iff, false_eq_decide_iff] at h)) <;> (try omega))
        | (refine Gm_split (fun h => ?_) (fun h => ?_) <;> (try simp only [ne_eq, Bool.not_eq_true, Bool.not_eq_false] at h) <;> (try rw [h]) <;> (try (simp only [decide_eq_true_eq, decide_eq_false_iff_not, bne_iff_ne, beq_iff_eq, bne_eq_false_iff_eq, beq_eq_false_iff_ne, Bool.not_eq_true, Bool.not_eq_true', Bool.not_eq_false, Bool.not_eq_false', ne_eq, Bool.and_eq_true, Bool.or_eq_true, true_eq_decide_iff, false_eq_decide_iff] at h)) <;> (try omega))
        | (refine Sm_split (fun h => ?_) (fun h => ?_) <;> (try (simp only [decide_eq_true_eq, decide_eq_false_iff_not, Bool.not_eq_true', Bool.not_eq_false'] at h)) <;> (try omega))
        | (exact ret_p rfl ⟨rfl, rfl⟩)
        | (refine ret_okv (by first | trivial | simp only [go_sem, detD, detDs, detP, and_self, and_true]) ?_)
        | (exact ret_gen _ _ _ rfl rfl rfl ⟨rfl, rfl⟩)
        | (simp only [Option.some.injEq, DV.p.injEq, PV.bool.injEq])
        | rfl
        | (refine Bool.eq_iff_iff.2 ?_; simp only [decide_eq_true_eq, iff_true]; omega)
        | omega)
    all_goals grind
end Go.Proofs.Ytgpalnoopmjlpaa

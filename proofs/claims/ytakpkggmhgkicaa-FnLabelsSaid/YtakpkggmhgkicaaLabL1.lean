import Derived.Test.YtakpkggmhgkicaaLab3
namespace Go.Proofs.Ytakpkggmhgkicaa
open Go.Dv Go.Dv.EvL
attribute [local irreducible] Ok Rm Dm Om Sm Xm Cm Gm Hm Tm

set_option maxRecDepth 100000 in
set_option maxHeartbeats 16000000 in
/-- spec.l23Trouble -/
theorem k_l23Trouble (xs : List Sp) (cs : List Int) (hp : PlIn xs cs) (he : cs.length = xs.length) : Okv Try.prog 45 [spS xs, slI .i64 cs] (.p (.int .i64 (trO xs cs))) := by
  refine ok_D hmix c_spec_l23Trouble (by simp) ?_
  have hls := fun i => lbls_in hp (i := i)
  have hlg := fun i => lbls_get (xs := xs) (cs := cs) (i := i) (n := cs.length)
  obtain ⟨hx, hon, hl, hc⟩ := hp
  have hd : trO xs cs = trTo xs (lbls xs cs cs.length) cs.length cs.length := rfl
  have hat := fun i h => k_l23At (xs.getD i default).x (xs.getD i default).y (cs.getD i 0) (hon i h)
  have hax : ∀ i, i < cs.length → atX (xs.getD i default).x (cs.getD i 0) = ((lbls xs cs cs.length).getD i default).x := fun i hi => by rw [hlg i hi]; rfl
  have hay : ∀ i, i < cs.length → atY (xs.getD i default).y (cs.getD i 0) = ((lbls xs cs cs.length).getD i default).y := fun i hi => by rw [hlg i hi]; rfl
  rw [hd]
  have hcv := fun a k => cv_le (xs := xs) (a := a) (k := k)
  have hov := fun i k => ov_le (ls := lbls xs cs cs.length) (i := i) (k := k)
  have htr := fun i => tr_le (xs := xs) (ls := lbls xs cs cs.length) (n := cs.length) (by omega) (i := i)
  generalize lbls xs cs cs.length = ls at *
  generalize hn : cs.length = n at *
  simp only [envOf, envFrom, go_sem]
  refine Dm_loop [0, 1, 5, 6] (fun m ds H' => ∃ i : Nat, i ≤ n ∧ m = n - i ∧ ds = [.p (spS xs), .p (slI .i64 cs), .p (.int .i64 (trTo xs ls n i)), .p (.int .i64 i)] ∧ H' = []) n ⟨0, by omega, by omega, rfl, rfl⟩ ?_
  rintro m ds H' ⟨i, hi, rfl, rfl, rfl⟩ -
  by_cases hin : i < n
  · have hb1 := hls i hin
    have ht1 := htr i (by omega)
    have hai := hat i (by omega) (hc i hin)
    have hxi := hax i hin
    have hyi := hay i hin
    rw [hxi, hyi] at hai
    repeat' (first
      | (simp only [go_sem, reduceIte, Nat.reduceEqDiff, Nat.reduceAdd, Nat.reduceSub, Nat.reduceLeDiff])
      | (simp (disch := omega) only [w64, w8, bytesOf_cons, tmod10, tdiv10, tn48, nsub1, nadd1, nsub, nadd, nmul, List.take_length, Int.toNat_zero, Int.reduceAdd, Int.reduceSub, Int.reduceToNat, Int.reduceMul, Nat.sub_zero, Nat.min_self])
      | (refine Rm_need (by first | exact True.intro | omega | (simp; omega)) ?_)
      | (rw [hn])
      | (refine Rm_w rfl (hai) (by trivial) ?_)
      | (refine Rm_w ?_ (hai) (by trivial) ?_; · (simp [viewOfs, viewOf, List.take_of_length_le, cutL]; done))
      | (refine Rm_gi (by first | omega | (simp; omega)) ?_)
      | (refine Rm_gb (by first | omega | (simp; omega)) ?_)
      | (refine Rm_ga (by first | omega | (simp; omega)) _ rfl (Nat.le_of_ble_eq_true rfl) ?_)
      | (refine Rm_gm (by first | omega | (simp; omega)) _ rfl ?_)
      | (refine Rm_part _ _ rfl rfl ?_)
      | (refine Rm_puti (by first | omega | (simp; omega)) rfl ?_)
      | (refine Dm_draw [] (by simp) ?_)
      | (refine Tm_both ?_ ?_)
      | (refine Tm_fin (by simp only [hideOK, newsE]; simp []) ?_)
      | (refine Cm_split (fun h => ?_) (fun h => ?_) <;> (try (simp only [decide_eq_true_eq, decide_eq_false_iff_not] at h)) <;> (try omega))
      | (refine Gm_split (fun h => ?_) (fun h => ?_) <;> (try simp only [ne_eq, Bool.not_eq_true, Bool.not_eq_false] at h) <;> (try rw [h]) <;> (try (simp only [decide_eq_true_eq, decide_eq_false_iff_not, bne_iff_ne, beq_iff_eq, bne_eq_false_iff_eq, beq_eq_false_iff_ne, Bool.not_eq_true, Bool.not_eq_true', Bool.not_eq_false, Bool.not_eq_false', ne_eq, Bool.and_eq_true, Bool.or_eq_true, true_eq_decide_iff, false_eq_decide_iff] at h)) <;> (try omega))
      | (refine Sm_split (fun h => ?_) (fun h => ?_) <;> (try (simp only [decide_eq_true_eq, decide_eq_false_iff_not, bne_iff_ne, beq_iff_eq, bne_eq_false_iff_eq, beq_eq_false_iff_ne, Bool.not_eq_true, Bool.not_eq_true', Bool.not_eq_false, Bool.not_eq_false', ne_eq, Bool.and_eq_true, Bool.or_eq_true, true_eq_decide_iff, false_eq_decide_iff] at h)) <;> (try omega))
      | (exact ret_p rfl ⟨rfl, rfl⟩)
      | (refine ret_okv (by first | trivial | simp only [go_sem, detD, detDs, detP, and_self, and_true]) ?_)
      | (exact ret_gen _ _ _ rfl rfl rfl ⟨rfl, rfl⟩)
      | (simp only [Option.some.injEq, DV.tup.injEq, DV.p.injEq, List.cons.injEq, PV.int.injEq, PV.bool.injEq, PV.str.injEq, and_true, true_and])
      | rfl
      | (refine Bool.eq_iff_iff.2 ?_; simp only [decide_eq_true_eq, Bool.and_eq_true, Bool.or_eq_true, Bool.not_eq_true', decide_eq_false_iff_not, Bool.false_eq_true, beq_iff_eq, bne_iff_ne, ne_eq, false_iff, iff_false, true_iff, iff_true]; omega)
      | omega)
    all_goals
      refine Dm_loop [0, 1, 5, 6, 7, 8] (fun m ds H' => ∃ k : Nat, k ≤ i ∧ m = i - k ∧ ds = [.p (spS xs), .p (slI .i64 cs), .p (.int .i64 (trTo xs ls n i + ovTo ls i k : Nat)), .p (.int .i64 i), .ptr 0 0 0, .p (.int .i64 k)] ∧
        H' = [.box 49 [.p (.int .i64 (ls.getD i default).x), .p (.int .i64 (ls.getD i default).y)]]) i ⟨0, by omega, by omega, rfl, rfl⟩ ?_
      rintro m ds H' ⟨k, hk, rfl, rfl, rfl⟩ -
    all_goals
      rcases Nat.lt_or_ge k i with hki | hki
    all_goals first
      | (have hki2 : k < i := hki
         have hkn : k < n := by omega
         have hb2 := hls k hkn
         have ho1 := hov i k
         have hak := hat k (by omega) (hc k hkn)
         have hxk := hax k hkn
         have hyk := hay k hkn
         rw [hxk, hyk] at hak
         have hos : ovTo ls i (k + 1) = ovTo ls i k + (if ovl (ls.getD i default) (ls.getD k default) then 1 else 0) := rfl
         have hol : ovl (ls.getD i default) (ls.getD k default) = (decide (((ls.getD i default).x - (ls.getD k default).x).natAbs < 8) && decide (((ls.getD i default).y - (ls.getD k default).y).natAbs < 3)) := rfl
         repeat' (first
           | (simp only [go_sem, reduceIte, Nat.reduceEqDiff, Nat.reduceBEq, Nat.reduceAdd, Nat.reduceSub, Nat.reduceLeDiff, Bool.false_eq_true])
           | (simp (disch := omega) only [w64, nadd1])
           | (refine Rm_need (by first | exact True.intro | omega | (simp; omega)) ?_)
           | (rw [hn])
           | (refine Rm_w rfl (hak) (by trivial) ?_)
           | (refine Rm_w ?_ (hak) (by trivial) ?_; · (simp [viewOfs, viewOf, List.take_of_length_le, cutL]; done))
           | (refine Rm_w rfl (k_l7Abs _ (by omega)) (by trivial) ?_)
           | (refine Rm_w ?_ (k_l7Abs _ (by omega)) (by trivial) ?_; · (simp [viewOfs, viewOf, List.take_of_length_le, cutL]; done))
           | (refine Rm_gi (by first | omega | (simp; omega)) ?_)
           | (refine Rm_gb (by first | omega | (simp; omega)) ?_)
           | (refine Rm_ga (by first | omega | (simp; omega)) _ rfl (Nat.le_of_ble_eq_true rfl) ?_)
           | (refine Rm_gm (by first | omega | (simp; omega)) _ rfl ?_)
           | (refine Rm_part _ _ rfl rfl ?_)
           | (refine Rm_puti (by first | omega | (simp; omega)) rfl ?_)
           | (refine Dm_draw [] (by simp) ?_)
           | (refine Tm_both ?_ ?_)
           | (refine Tm_fin (by simp only [hideOK, newsE]; simp []) ?_)
           | (refine Cm_split (fun h => ?_) (fun h => ?_) <;> (try (simp only [decide_eq_true_eq, decide_eq_false_iff_not] at h)) <;> (try omega))
           | (refine Gm_split (fun h => ?_) (fun h => ?_) <;> (try simp only [ne_eq, Bool.not_eq_true, Bool.not_eq_false] at h) <;> (try rw [h]) <;> (try (simp only [decide_eq_true_eq, decide_eq_false_iff_not, bne_iff_ne, beq_iff_eq, bne_eq_false_iff_eq, beq_eq_false_iff_ne, Bool.not_eq_true, Bool.not_eq_true', Bool.not_eq_false, Bool.not_eq_false', ne_eq, Bool.and_eq_true, Bool.or_eq_true, true_eq_decide_iff, false_eq_decide_iff] at h)) <;> (try omega))
           | (refine Sm_split (fun h => ?_) (fun h => ?_) <;> (try (simp only [decide_eq_true_eq, decide_eq_false_iff_not] at h)) <;> (try omega))
           | (exact ret_p rfl ⟨rfl, rfl⟩)
           | (refine ret_okv (by first | trivial | simp only [go_sem, detD, detDs, detP, and_self, and_true]) ?_)
           | (exact ret_gen _ _ _ rfl rfl rfl ⟨rfl, rfl⟩)
           | (simp only [Option.some.injEq, DV.tup.injEq, DV.p.injEq, List.cons.injEq, PV.int.injEq, PV.bool.injEq, PV.str.injEq, and_true, true_and])
           | rfl
           | (refine Bool.eq_iff_iff.2 ?_; simp only [decide_eq_true_eq, Bool.and_eq_true, Bool.or_eq_true, Bool.not_eq_true', decide_eq_false_iff_not, Bool.false_eq_true, beq_iff_eq, bne_iff_ne, ne_eq, false_iff, iff_false, true_iff, iff_true]; omega)
           | omega)
         all_goals first
           | (have hcnt : ovTo ls i (k + 1) = ovTo ls i k + 1 := by
                rw [hos, hol]; clear hls hon hc hat hax hay hcv hov htr; grind
              refine Xm_inv_n (i - (k + 1)) (by omega) ⟨k + 1, by omega, rfl, ?_, rfl⟩
              rw [hcnt]; rfl)
           | (have hcnt : ovTo ls i (k + 1) = ovTo ls i k := by
                rw [hos, hol]; clear hls hon hc hat hax hay hcv hov htr; grind
              refine Xm_inv_n (i - (k + 1)) (by omega) ⟨k + 1, by omega, rfl, ?_, rfl⟩
              rw [hcnt]; rfl))
      | (obtain rfl : k = i := by omega
         clear hki hk
         have ho1 := hov k k
         repeat' (first
           | (simp only [go_sem, reduceIte, Nat.reduceEqDiff])
           | (simp (disch := omega) only [w64, w8, bytesOf_cons, tmod10, tdiv10, tn48, nsub1, nadd1, nsub, nadd, nmul, List.take_length, Int.toNat_zero, Int.reduceAdd, Int.reduceSub, Int.reduceToNat, Int.reduceMul, Nat.sub_zero, Nat.min_self])
           | (refine Rm_need (by first | exact True.intro | omega | (simp; omega)) ?_)
           | (rw [hn])
           | (refine Rm_gi (by first | omega | (simp; omega)) ?_)
           | (refine Rm_gb (by first | omega | (simp; omega)) ?_)
           | (refine Rm_ga (by first | omega | (simp; omega)) _ rfl (Nat.le_of_ble_eq_true rfl) ?_)
           | (refine Rm_gm (by first | omega | (simp; omega)) _ rfl ?_)
           | (refine Rm_part _ _ rfl rfl ?_)
           | (refine Rm_puti (by first | omega | (simp; omega)) rfl ?_)
           | (refine Dm_draw [] (by simp) ?_)
           | (refine Tm_both ?_ ?_)
           | (refine Tm_fin (by simp only [hideOK, newsE]; simp []) ?_)
           | (refine Cm_split (fun h => ?_) (fun h => ?_) <;> (try (simp only [decide_eq_true_eq, decide_eq_false_iff_not] at h)) <;> (try omega))
           | (refine Gm_split (fun h => ?_) (fun h => ?_) <;> (try simp only [ne_eq, Bool.not_eq_true, Bool.not_eq_false] at h) <;> (try rw [h]) <;> (try (simp only [decide_eq_true_eq, decide_eq_false_iff_not, bne_iff_ne, beq_iff_eq, bne_eq_false_iff_eq, beq_eq_false_iff_ne, Bool.not_eq_true, Bool.not_eq_true', Bool.not_eq_false, Bool.not_eq_false', ne_eq, Bool.and_eq_true, Bool.or_eq_true, true_eq_decide_iff, false_eq_decide_iff] at h)) <;> (try omega))
           | (refine Sm_split (fun h => ?_) (fun h => ?_) <;> (try (simp only [decide_eq_true_eq, decide_eq_false_iff_not, bne_iff_ne, beq_iff_eq, bne_eq_false_iff_eq, beq_eq_false_iff_ne, Bool.not_eq_true, Bool.not_eq_true', Bool.not_eq_false, Bool.not_eq_false', ne_eq, Bool.and_eq_true, Bool.or_eq_true, true_eq_decide_iff, false_eq_decide_iff] at h)) <;> (try omega))
           | (exact ret_p rfl ⟨rfl, rfl⟩)
           | (refine ret_okv (by first | trivial | simp only [go_sem, detD, detDs, detP, and_self, and_true]) ?_)
           | (exact ret_gen _ _ _ rfl rfl rfl ⟨rfl, rfl⟩)
           | (simp only [Option.some.injEq, DV.tup.injEq, DV.p.injEq, List.cons.injEq, PV.int.injEq, PV.bool.injEq, PV.str.injEq, and_true, true_and])
           | rfl
           | (refine Bool.eq_iff_iff.2 ?_; simp only [decide_eq_true_eq, Bool.and_eq_true, Bool.or_eq_true, Bool.not_eq_true', decide_eq_false_iff_not, Bool.false_eq_true, beq_iff_eq, bne_iff_ne, ne_eq, false_iff, iff_false, true_iff, iff_true]; omega)
           | omega)
         refine Dm_loop [0, 1, 5, 6, 7, 10] (fun m ds H' => ∃ j : Nat, j ≤ n ∧ m = n - j ∧ ds = [.p (spS xs), .p (slI .i64 cs), .p (.int .i64 (trTo xs ls n k + ovTo ls k k + cvTo xs (ls.getD k default) j : Nat)), .p (.int .i64 k), .ptr 0 0 0, .p (.int .i64 j)] ∧
           H' = [.box 49 [.p (.int .i64 (ls.getD k default).x), .p (.int .i64 (ls.getD k default).y)]]) n ⟨0, by omega, by omega, rfl, rfl⟩ ?_
         rintro m ds H' ⟨j, hj, rfl, rfl, rfl⟩ -
         rcases Nat.lt_or_ge j n with hjn | hjn
         · have hc1 := hcv (ls.getD k default) j
           have hcs : cvTo xs (ls.getD k default) (j + 1) = cvTo xs (ls.getD k default) j + (if cov (ls.getD k default) (xs.getD j default) then 1 else 0) := rfl
           have hcc := k_l23Covers (ls.getD k default).x (ls.getD k default).y (xs.getD j default).x (xs.getD j default).y (by omega) (by omega)
           have he2 : cov ⟨(ls.getD k default).x, (ls.getD k default).y⟩ ⟨(xs.getD j default).x, (xs.getD j default).y⟩ = cov (ls.getD k default) (xs.getD j default) := rfl
           rw [he2] at hcc
           repeat' (first
             | (simp only [go_sem, reduceIte, Nat.reduceEqDiff, Nat.reduceAdd, Nat.reduceLeDiff])
             | (simp (disch := omega) only [w64, nadd1])
             | (refine Rm_need (by first | exact True.intro | omega | (simp; omega)) ?_)
             | (refine Dm_draw [0] ?_ ?_; · (simp; done))
             | (refine Rm_w rfl (hcc) (by trivial) ?_)
             | (refine Rm_w ?_ (hcc) (by trivial) ?_; · (simp [viewOfs, viewOf, List.take_of_length_le, cutL]; done))
             | (refine Rm_gi (by first | omega | (simp; omega)) ?_)
             | (refine Rm_gb (by first | omega | (simp; omega)) ?_)
             | (refine Rm_ga (by first | omega | (simp; omega)) _ rfl (Nat.le_of_ble_eq_true rfl) ?_)
             | (refine Rm_gm (by first | omega | (simp; omega)) _ rfl ?_)
             | (refine Rm_part _ _ rfl rfl ?_)
             | (refine Rm_puti (by first | omega | (simp; omega)) rfl ?_)
             | (refine Dm_draw [] (by simp) ?_)
             | (refine Tm_both ?_ ?_)
             | (refine Tm_fin (by simp only [hideOK, newsE]; simp []) ?_)
             | (refine Cm_split (fun h => ?_) (fun h => ?_) <;> (try (simp only [decide_eq_true_eq, decide_eq_false_iff_not] at h)) <;> (try omega))
             | (refine Gm_split (fun h => ?_) (fun h => ?_) <;> (try simp only [ne_eq, Bool.not_eq_true, Bool.not_eq_false] at h) <;> (try rw [h]) <;> (try (simp only [decide_eq_true_eq, decide_eq_false_iff_not, bne_iff_ne, beq_iff_eq, bne_eq_false_iff_eq, beq_eq_false_iff_ne, Bool.not_eq_true, Bool.not_eq_true', Bool.not_eq_false, Bool.not_eq_false', ne_eq, Bool.and_eq_true, Bool.or_eq_true, true_eq_decide_iff, false_eq_decide_iff] at h)) <;> (try omega))
             | (refine Sm_split (fun h => ?_) (fun h => ?_) <;> (try (simp only [decide_eq_true_eq, decide_eq_false_iff_not, bne_iff_ne, beq_iff_eq, bne_eq_false_iff_eq, beq_eq_false_iff_ne, Bool.not_eq_true, Bool.not_eq_true', Bool.not_eq_false, Bool.not_eq_false', ne_eq, Bool.and_eq_true, Bool.or_eq_true, true_eq_decide_iff, false_eq_decide_iff] at h)) <;> (try omega))
             | (exact ret_p rfl ⟨rfl, rfl⟩)
             | (refine ret_okv (by first | trivial | simp only [go_sem, detD, detDs, detP, and_self, and_true]) ?_)
             | (exact ret_gen _ _ _ rfl rfl rfl ⟨rfl, rfl⟩)
             | (simp only [Option.some.injEq, DV.tup.injEq, DV.p.injEq, List.cons.injEq, PV.int.injEq, PV.bool.injEq, PV.str.injEq, and_true, true_and])
             | rfl
             | (refine Bool.eq_iff_iff.2 ?_; simp only [decide_eq_true_eq, Bool.and_eq_true, Bool.or_eq_true, Bool.not_eq_true', decide_eq_false_iff_not, Bool.false_eq_true, beq_iff_eq, bne_iff_ne, ne_eq, false_iff, iff_false, true_iff, iff_true]; omega)
             | omega)
           all_goals first
             | (have hcnt : cvTo xs (ls.getD k default) (j + 1) = cvTo xs (ls.getD k default) j + 1 := by
                  rw [hcs]; clear hls hon hc hat hax hay hcv hov htr; grind
                refine Xm_inv_n (n - (j + 1)) (by omega) ⟨j + 1, by omega, rfl, ?_, rfl⟩
                rw [hcnt]; rfl)
             | (have hcnt : cvTo xs (ls.getD k default) (j + 1) = cvTo xs (ls.getD k default) j := by
                  rw [hcs]; clear hls hon hc hat hax hay hcv hov htr; grind
                refine Xm_inv_n (n - (j + 1)) (by omega) ⟨j + 1, by omega, rfl, ?_, rfl⟩
                rw [hcnt]; rfl)
         · obtain rfl : j = n := by omega
           repeat' (first
             | (simp only [go_sem, reduceIte, Nat.reduceEqDiff])
             | (simp (disch := omega) only [w64, nadd1])
             | (refine Rm_need (by first | exact True.intro | omega | (simp; omega)) ?_)
             | (refine Rm_gi (by first | omega | (simp; omega)) ?_)
             | (refine Rm_gb (by first | omega | (simp; omega)) ?_)
             | (refine Rm_ga (by first | omega | (simp; omega)) _ rfl (Nat.le_of_ble_eq_true rfl) ?_)
             | (refine Rm_gm (by first | omega | (simp; omega)) _ rfl ?_)
             | (refine Rm_part _ _ rfl rfl ?_)
             | (refine Rm_puti (by first | omega | (simp; omega)) rfl ?_)
             | (refine Dm_draw [] (by simp) ?_)
             | (refine Tm_both ?_ ?_)
             | (refine Tm_fin (by simp only [hideOK, newsE]; simp []) ?_)
             | (refine Cm_split (fun h => ?_) (fun h => ?_) <;> (try (simp only [decide_eq_true_eq, decide_eq_false_iff_not] at h)) <;> (try omega))
             | (refine Gm_split (fun h => ?_) (fun h => ?_) <;> (try simp only [ne_eq, Bool.not_eq_true, Bool.not_eq_false] at h) <;> (try rw [h]) <;> (try (simp only [decide_eq_true_eq, decide_eq_false_iff_not, bne_iff_ne, beq_iff_eq, bne_eq_false_iff_eq, beq_eq_false_iff_ne, Bool.not_eq_true, Bool.not_eq_true', Bool.not_eq_false, Bool.not_eq_false', ne_eq, Bool.and_eq_true, Bool.or_eq_true, true_eq_decide_iff, false_eq_decide_iff] at h)) <;> (try omega))
             | (refine Sm_split (fun h => ?_) (fun h => ?_) <;> (try (simp only [decide_eq_true_eq, decide_eq_false_iff_not, bne_iff_ne, beq_iff_eq, bne_eq_false_iff_eq, beq_eq_false_iff_ne, Bool.not_eq_true, Bool.not_eq_true', Bool.not_eq_false, Bool.not_eq_false', ne_eq, Bool.and_eq_true, Bool.or_eq_true, true_eq_decide_iff, false_eq_decide_iff] at h)) <;> (try omega))
             | (exact ret_p rfl ⟨rfl, rfl⟩)
             | (refine ret_okv (by first | trivial | simp only [go_sem, detD, detDs, detP, and_self, and_true]) ?_)
             | (exact ret_gen _ _ _ rfl rfl rfl ⟨rfl, rfl⟩)
             | (simp only [Option.some.injEq, DV.tup.injEq, DV.p.injEq, List.cons.injEq, PV.int.injEq, PV.bool.injEq, PV.str.injEq, and_true, true_and])
             | rfl
             | (refine Bool.eq_iff_iff.2 ?_; simp only [decide_eq_true_eq, Bool.and_eq_true, Bool.or_eq_true, Bool.not_eq_true', decide_eq_false_iff_not, Bool.false_eq_true, beq_iff_eq, bne_iff_ne, ne_eq, false_iff, iff_false, true_iff, iff_true]; omega)
             | omega)
           exact Xm_inv_n (j - (k + 1)) (by omega) ⟨k + 1, by omega, rfl, rfl, rfl⟩)
  · obtain rfl : i = n := by omega
    repeat' (first
      | (simp only [go_sem, reduceIte, Nat.reduceEqDiff])
      | (simp (disch := omega) only [w64, w8, bytesOf_cons, tmod10, tdiv10, tn48, nsub1, nadd1, nsub, nadd, nmul, List.take_length, Int.toNat_zero, Int.reduceAdd, Int.reduceSub, Int.reduceToNat, Int.reduceMul, Nat.sub_zero, Nat.min_self])
      | (refine Rm_need (by first | exact True.intro | omega | (simp; omega)) ?_)
      | (rw [hn])
      | (refine Rm_gi (by first | omega | (simp; omega)) ?_)
      | (refine Rm_gb (by first | omega | (simp; omega)) ?_)
      | (refine Rm_ga (by first | omega | (simp; omega)) _ rfl (Nat.le_of_ble_eq_true rfl) ?_)
      | (refine Rm_gm (by first | omega | (simp; omega)) _ rfl ?_)
      | (refine Rm_part _ _ rfl rfl ?_)
      | (refine Rm_puti (by first | omega | (simp; omega)) rfl ?_)
      | (refine Dm_draw [] (by simp) ?_)
      | (refine Tm_both ?_ ?_)
      | (refine Tm_fin (by simp only [hideOK, newsE]; simp []) ?_)
      | (refine Cm_split (fun h => ?_) (fun h => ?_) <;> (try (simp only [decide_eq_true_eq, decide_eq_false_iff_not] at h)) <;> (try omega))
      | (refine Gm_split (fun h => ?_) (fun h => ?_) <;> (try simp only [ne_eq, Bool.not_eq_true, Bool.not_eq_false] at h) <;> (try rw [h]) <;> (try (simp only [decide_eq_true_eq, decide_eq_false_iff_not, bne_iff_ne, beq_iff_eq, bne_eq_false_iff_eq, beq_eq_false_iff_ne, Bool.not_eq_true, Bool.not_eq_true', Bool.not_eq_false, Bool.not_eq_false', ne_eq, Bool.and_eq_true, Bool.or_eq_true, true_eq_decide_iff, false_eq_decide_iff] at h)) <;> (try omega))
      | (refine Sm_split (fun h => ?_) (fun h => ?_) <;> (try (simp only [decide_eq_true_eq, decide_eq_false_iff_not, bne_iff_ne, beq_iff_eq, bne_eq_false_iff_eq, beq_eq_false_iff_ne, Bool.not_eq_true, Bool.not_eq_true', Bool.not_eq_false, Bool.not_eq_false', ne_eq, Bool.and_eq_true, Bool.or_eq_true, true_eq_decide_iff, false_eq_decide_iff] at h)) <;> (try omega))
      | (exact ret_p rfl ⟨rfl, rfl⟩)
      | (refine ret_okv (by first | trivial | simp only [go_sem, detD, detDs, detP, and_self, and_true]) ?_)
      | (exact ret_gen _ _ _ rfl rfl rfl ⟨rfl, rfl⟩)
      | (simp only [Option.some.injEq, DV.tup.injEq, DV.p.injEq, List.cons.injEq, PV.int.injEq, PV.bool.injEq, PV.str.injEq, and_true, true_and])
      | rfl
      | (refine Bool.eq_iff_iff.2 ?_; simp only [decide_eq_true_eq, Bool.and_eq_true, Bool.or_eq_true, Bool.not_eq_true', decide_eq_false_iff_not, Bool.false_eq_true, beq_iff_eq, bne_iff_ne, ne_eq, false_iff, iff_false, true_iff, iff_true]; omega)
      | omega)
end Go.Proofs.Ytakpkggmhgkicaa

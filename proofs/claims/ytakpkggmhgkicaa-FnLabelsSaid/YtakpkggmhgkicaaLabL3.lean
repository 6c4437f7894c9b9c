import Derived.Test.YtakpkggmhgkicaaLabL2
namespace Go.Proofs.Ytakpkggmhgkicaa
open Go.Dv Go.Dv.EvL
attribute [local irreducible] Ok Rm Dm Om Sm Xm Cm Gm Hm Tm

/-- the covered spots before number i, and i itself if one of the first k labels covers it -/
def cvK (xs : List Sp) (cs : List Int) (i k : Nat) : List Int := coverTo xs cs i ++ (if cvd xs cs i k then [(i : Int)] else [])
theorem cvK_last {xs : List Sp} {cs : List Int} {i k : Nat} (h : 0 < (cvK xs cs i k).length) : (cvd xs cs i k = true → (cvK xs cs i k).getD ((cvK xs cs i k).length - 1) 0 = i) ∧ (cvd xs cs i k = false → (cvK xs cs i k).getD ((cvK xs cs i k).length - 1) 0 < i) := cover_last h
theorem cvK_len {xs : List Sp} {cs : List Int} {i k : Nat} : (cvK xs cs i k).length ≤ i + 1 := by
  have := cover_len (xs := xs) (cs := cs) (i := i)
  unfold cvK
  split <;> simp <;> omega
theorem cvK_step {xs : List Sp} {cs : List Int} {i k : Nat} {v : Bool} (hv : cov (at1 (xs.getD k default) (cs.getD k 0)) (xs.getD i default) = v) :
    cvK xs cs i (k + 1) = if v = true ∧ cvd xs cs i k = false then cvK xs cs i k ++ [(i : Int)] else cvK xs cs i k := by
  unfold cvK
  rw [cvd, hv]
  cases v <;> cases cvd xs cs i k <;> simp
set_option maxRecDepth 100000 in
set_option maxHeartbeats 16000000 in
/-- impl.CoveredSpots -/
theorem k_iCovered (xs : List Sp) (cs : List Int) (hb : xs.length ≤ 1048576) (hc : cs.length ≤ 1048576) : Okw Try.prog 20 [spS xs, slI .i64 cs] (IntN (cvO xs cs)) := by
  refine ok_D hmix c_impl_CoveredSpots (by simp) ?_
  have hg := k_IsPlacing xs cs hb hc
  unfold IntN IntO cvO
  cases h : plB xs cs
  · rw [h] at hg
    simp only [envOf, envFrom, go_sem, reduceIte, Nat.reduceEqDiff, Bool.false_eq_true]
    repeat' (first
      | (simp only [go_sem, reduceIte, Nat.reduceEqDiff])
      | (simp (disch := omega) only [w64, w8, bytesOf_cons, tmod10, tdiv10, tn48, nsub1, nadd1, nsub, nadd, nmul, List.take_length, Int.toNat_zero, Int.reduceAdd, Int.reduceSub, Int.reduceToNat, Int.reduceMul, Nat.sub_zero, Nat.min_self])
      | (refine Rm_need (by first | exact True.intro | omega | (simp; omega)) ?_)
      | (refine Rm_w rfl (hg) (by trivial) ?_)
      | (refine Rm_w ?_ (hg) (by trivial) ?_; · (simp [viewOfs, viewOf, List.take_of_length_le, cutL]; done))
      | (refine Rm_gi (by first | omega | (simp; omega)) ?_)
      | (refine Rm_gb (by first | omega | (simp; omega)) ?_)
      | (refine Rm_ga (by first | omega | (simp; omega)) _ rfl (Nat.le_of_ble_eq_true rfl) ?_)
      | (refine Rm_gm (by first | omega | (simp; omega)) _ rfl ?_)
      | (refine Rm_part _ _ rfl rfl ?_)
      | (refine Rm_puti (by first | omega | (simp; omega)) rfl ?_)
      | (refine Dm_draw [] (by simp) ?_)
      | (refine Tm_both ?_ ?_)
      | (refine Tm_fin (by simp only [hideOK, newsE]; simp []) ?_)
      | (refine Cm_split (fun h => ?_) (fun h => ?_) <;> (try (simp only [decide_eq_true_eq, decide_eq_false_iff_not, bne_iff_ne, beq_iff_eq, bne_eq_false_iff_eq, beq_eq_false_iff_ne, Bool.not_eq_true, Bool.not_eq_true', Bool.not_eq_false, Bool.not_eq_false', ne_eq, Bool.and_eq_true, Bool.or_eq_true, true_eq_decide_iff, false_eq_decide_iff] at h)) <;> (try omega))
      | (refine Gm_split (fun h => ?_) (fun h => ?_) <;> (try simp only [ne_eq, Bool.not_eq_true, Bool.not_eq_false] at h) <;> (try rw [h]) <;> (try (simp only [decide_eq_true_eq, decide_eq_false_iff_not, bne_iff_ne, beq_iff_eq, bne_eq_false_iff_eq, beq_eq_false_iff_ne, Bool.not_eq_true, Bool.not_eq_true', Bool.not_eq_false, Bool.not_eq_false', ne_eq, Bool.and_eq_true, Bool.or_eq_true, true_eq_decide_iff, false_eq_decide_iff] at h)) <;> (try omega))
      | (refine Sm_split (fun h => ?_) (fun h => ?_) <;> (try (simp only [decide_eq_true_eq, decide_eq_false_iff_not, bne_iff_ne, beq_iff_eq, bne_eq_false_iff_eq, beq_eq_false_iff_ne, Bool.not_eq_true, Bool.not_eq_true', Bool.not_eq_false, Bool.not_eq_false', ne_eq, Bool.and_eq_true, Bool.or_eq_true, true_eq_decide_iff, false_eq_decide_iff] at h)) <;> (try omega))
      | (exact ret_p rfl ⟨rfl, rfl⟩)
      | (refine ret_okv (by first | trivial | simp only [go_sem, detD, detDs, detP, and_self, and_true]) ?_)
      | (exact ret_gen _ _ _ rfl rfl rfl ⟨rfl, rfl⟩)
      | (simp only [Option.some.injEq, DV.tup.injEq, DV.p.injEq, List.cons.injEq, PV.int.injEq, PV.bool.injEq, PV.str.injEq, and_true, true_and])
      | rfl
      | (refine Bool.eq_iff_iff.2 ?_; simp only [decide_eq_true_eq, Bool.and_eq_true, Bool.or_eq_true, Bool.not_eq_true', decide_eq_false_iff_not, Bool.false_eq_true, beq_iff_eq, bne_iff_ne, ne_eq, false_iff, iff_false, true_iff, iff_true]; omega)
      | omega)
    exact ret_gen _ _ _ rfl rfl rfl (.inr ⟨rfl, rfl⟩)
  · rw [h] at hg
    simp only [if_true]
    obtain ⟨hx, hon, hl, hcc⟩ := pl_plin h
    have hle := (pl_in h).2.1
    have hat := fun i hi => k_labelAt (xs.getD i default).x (xs.getD i default).y (cs.getD i 0) (hon i hi)
    clear h
    simp only [envOf, envFrom, go_sem, reduceIte, Nat.reduceEqDiff]
    repeat' (first
      | (simp only [go_sem, reduceIte, Nat.reduceEqDiff])
      | (simp (disch := omega) only [w64, w8, bytesOf_cons, tmod10, tdiv10, tn48, nsub1, nadd1, nsub, nadd, nmul, List.take_length, Int.toNat_zero, Int.reduceAdd, Int.reduceSub, Int.reduceToNat, Int.reduceMul, Nat.sub_zero, Nat.min_self])
      | (refine Rm_need (by first | exact True.intro | omega | (simp; omega)) ?_)
      | (refine Rm_w rfl (hg) (by trivial) ?_)
      | (refine Rm_w ?_ (hg) (by trivial) ?_; · (simp [viewOfs, viewOf, List.take_of_length_le, cutL]; done))
      | (refine Rm_gi (by first | omega | (simp; omega)) ?_)
      | (refine Rm_gb (by first | omega | (simp; omega)) ?_)
      | (refine Rm_ga (by first | omega | (simp; omega)) _ rfl (Nat.le_of_ble_eq_true rfl) ?_)
      | (refine Rm_gm (by first | omega | (simp; omega)) _ rfl ?_)
      | (refine Rm_part _ _ rfl rfl ?_)
      | (refine Rm_puti (by first | omega | (simp; omega)) rfl ?_)
      | (refine Dm_draw [] (by simp) ?_)
      | (refine Tm_both ?_ ?_)
      | (refine Tm_fin (by simp only [hideOK, newsE]; simp []) ?_)
      | (refine Cm_split (fun h => ?_) (fun h => ?_) <;> (try (simp only [decide_eq_true_eq, decide_eq_false_iff_not, bne_iff_ne, beq_iff_eq, bne_eq_false_iff_eq, beq_eq_false_iff_ne, Bool.not_eq_true, Bool.not_eq_true', Bool.not_eq_false, Bool.not_eq_false', ne_eq, Bool.and_eq_true, Bool.or_eq_true, true_eq_decide_iff, false_eq_decide_iff] at h)) <;> (try omega))
      | (refine Gm_split (fun h => ?_) (fun h => ?_) <;> (try simp only [ne_eq, Bool.not_eq_true, Bool.not_eq_false] at h) <;> (try rw [h]) <;> (try (simp only [decide_eq_true_eq, decide_eq_false_iff_not, bne_iff_ne, beq_iff_eq, bne_eq_false_iff_eq, beq_eq_false_iff_ne, Bool.not_eq_true, Bool.not_eq_true', Bool.not_eq_false, Bool.not_eq_false', ne_eq, Bool.and_eq_true, Bool.or_eq_true, true_eq_decide_iff, false_eq_decide_iff] at h)) <;> (try omega))
      | (refine Sm_split (fun h => ?_) (fun h => ?_) <;> (try (simp only [decide_eq_true_eq, decide_eq_false_iff_not, bne_iff_ne, beq_iff_eq, bne_eq_false_iff_eq, beq_eq_false_iff_ne, Bool.not_eq_true, Bool.not_eq_true', Bool.not_eq_false, Bool.not_eq_false', ne_eq, Bool.and_eq_true, Bool.or_eq_true, true_eq_decide_iff, false_eq_decide_iff] at h)) <;> (try omega))
      | (exact ret_p rfl ⟨rfl, rfl⟩)
      | (refine ret_okv (by first | trivial | simp only [go_sem, detD, detDs, detP, and_self, and_true]) ?_)
      | (exact ret_gen _ _ _ rfl rfl rfl ⟨rfl, rfl⟩)
      | (simp only [Option.some.injEq, DV.tup.injEq, DV.p.injEq, List.cons.injEq, PV.int.injEq, PV.bool.injEq, PV.str.injEq, and_true, true_and])
      | rfl
      | (refine Bool.eq_iff_iff.2 ?_; simp only [decide_eq_true_eq, Bool.and_eq_true, Bool.or_eq_true, Bool.not_eq_true', decide_eq_false_iff_not, Bool.false_eq_true, beq_iff_eq, bne_iff_ne, ne_eq, false_iff, iff_false, true_iff, iff_true]; omega)
      | omega)
    refine Dm_loop [0, 1, 6, 17, 18, 19] (fun m ds H' => ∃ i : Nat, i ≤ xs.length ∧ m = xs.length - i ∧
      ((0 < (coverTo xs cs i).length ∧ ds = [.p (spS xs), .p (slI .i64 cs), .own 0 0 (coverTo xs cs i).length, .p (spS xs), .p (.int .i64 xs.length), .p (.int .i64 i)] ∧ H' = [.arr 3 1 ((coverTo xs cs i).map (.int .i64))]) ∨
       (coverTo xs cs i = [] ∧ ds = [.p (spS xs), .p (slI .i64 cs), .nil, .p (spS xs), .p (.int .i64 xs.length), .p (.int .i64 i)] ∧ H' = []))) xs.length ⟨0, by omega, by omega, .inr ⟨rfl, rfl, rfl⟩⟩ ?_
    rintro m ds H' ⟨i, hi, rfl, hh⟩ -
    have hfin : i = xs.length → coverTo xs cs xs.length = coverTo xs cs i := by rintro rfl; rfl
    have hs : coverTo xs cs (i + 1) = cvK xs cs i xs.length := rfl
    have hz0 : coverTo xs cs i = cvK xs cs i 0 := by simp [cvK, cvd]
    rcases Nat.lt_or_ge i xs.length with hil | hil
    · rw [hz0] at hh
      clear hfin hz0
      have key : ∀ (k : Nat) (ds : List DV) (H' : Heap), k ≤ xs.length →
        ((0 < (cvK xs cs i k).length ∧ ds = [.p (spS xs), .p (slI .i64 cs), .own 0 0 (cvK xs cs i k).length, .p (.int .i64 i), .ptr 1 0 0, .p (spS xs), .p (.int .i64 xs.length), .p (.int .i64 i), .p (slI .i64 cs), .p (.int .i64 cs.length), .p (.int .i64 k)] ∧
            H' = [.arr 3 1 ((cvK xs cs i k).map (.int .i64)), .box 49 [.p (.int .i64 (xs.getD i default).x), .p (.int .i64 (xs.getD i default).y)]]) ∨
         (cvK xs cs i k = [] ∧ ds = [.p (spS xs), .p (slI .i64 cs), .nil, .p (.int .i64 i), .ptr 0 0 0, .p (spS xs), .p (.int .i64 xs.length), .p (.int .i64 i), .p (slI .i64 cs), .p (.int .i64 cs.length), .p (.int .i64 k)] ∧
            H' = [.box 49 [.p (.int .i64 (xs.getD i default).x), .p (.int .i64 (xs.getD i default).y)]])) → True := fun _ _ _ _ _ => trivial
      rcases hh with ⟨hz, rfl, rfl⟩ | ⟨hz, rfl, rfl⟩
      all_goals
        repeat' (first
          | (simp only [go_sem, reduceIte, Nat.reduceEqDiff, Nat.reduceAdd, Nat.reduceLeDiff])
          | (simp (disch := omega) only [w64, w8, bytesOf_cons, tmod10, tdiv10, tn48, nsub1, nadd1, nsub, nadd, nmul, List.take_length, Int.toNat_zero, Int.reduceAdd, Int.reduceSub, Int.reduceToNat, Int.reduceMul, Nat.sub_zero, Nat.min_self])
          | (refine Rm_need (by first | exact True.intro | omega | (simp; omega)) ?_)
          | (refine Rm_gi (by first | omega | (simp; omega)) ?_)
          | (refine Rm_gb (by first | omega | (simp; omega)) ?_)
          | (refine Rm_ga (by first | omega | (simp; omega)) _ rfl (Nat.le_of_ble_eq_true rfl) ?_)
          | (refine Rm_gm (by first | omega | (simp; omega)) _ rfl ?_)
          | (refine Rm_part _ _ rfl rfl ?_)
          | (refine Rm_puti (by first | omega | (simp; omega)) rfl ?_)
          | (refine Dm_draw [] (by simp) ?_)
          | (refine Tm_both ?_ ?_)
          | (refine Tm_fin (by simp only [hideOK, newsE]; simp []) ?_)
          | (refine Cm_split (fun h => ?_) (fun h => ?_) <;> (try (simp only [decide_eq_true_eq, decide_eq_false_iff_not] at h)) <;> (try omega))
          | (refine Gm_split (fun h => ?_) (fun h => ?_) <;> (try simp only [ne_eq, Bool.not_eq_true, Bool.not_eq_false] at h) <;> (try rw [h]) <;> (try (simp only [decide_eq_true_eq, decide_eq_false_iff_not, bne_iff_ne, beq_iff_eq, bne_eq_false_iff_eq, beq_eq_false_iff_ne, Bool.not_eq_true, Bool.not_eq_true', Bool.not_eq_false, Bool.not_eq_false', ne_eq, Bool.and_eq_true, Bool.or_eq_true, true_eq_decide_iff, false_eq_decide_iff] at h)) <;> (try omega))
          | (refine Sm_split (fun h => ?_) (fun h => ?_) <;> (try (simp only [decide_eq_true_eq, decide_eq_false_iff_not, bne_iff_ne, beq_iff_eq, bne_eq_false_iff_eq, beq_eq_false_iff_ne, Bool.not_eq_true, Bool.not_eq_true', Bool.not_eq_false, Bool.not_eq_false', ne_eq, Bool.and_eq_true, Bool.or_eq_true, true_eq_decide_iff, false_eq_decide_iff] at h)) <;> (try omega))
          | (exact ret_p rfl ⟨rfl, rfl⟩)
          | (refine ret_okv (by first | trivial | simp only [go_sem, detD, detDs, detP, and_self, and_true]) ?_)
          | (exact ret_gen _ _ _ rfl rfl rfl ⟨rfl, rfl⟩)
          | (simp only [Option.some.injEq, DV.tup.injEq, DV.p.injEq, List.cons.injEq, PV.int.injEq, PV.bool.injEq, PV.str.injEq, and_true, true_and])
          | rfl
          | (refine Bool.eq_iff_iff.2 ?_; simp only [decide_eq_true_eq, Bool.and_eq_true, Bool.or_eq_true, Bool.not_eq_true', decide_eq_false_iff_not, Bool.false_eq_true, beq_iff_eq, bne_iff_ne, ne_eq, false_iff, iff_false, true_iff, iff_true]; omega)
          | omega)
        refine Dm_loop [0, 1, 6, 7, 8, 17, 18, 19, 24, 25, 26] (fun m ds H' => ∃ k : Nat, k ≤ xs.length ∧ m = xs.length - k ∧
          ((0 < (cvK xs cs i k).length ∧ ds = [.p (spS xs), .p (slI .i64 cs), .own 0 0 (cvK xs cs i k).length, .p (.int .i64 i), .ptr 1 0 0, .p (spS xs), .p (.int .i64 xs.length), .p (.int .i64 i), .p (slI .i64 cs), .p (.int .i64 cs.length), .p (.int .i64 k)] ∧
            H' = [.arr 3 1 ((cvK xs cs i k).map (.int .i64)), .box 49 [.p (.int .i64 (xs.getD i default).x), .p (.int .i64 (xs.getD i default).y)]]) ∨
           (cvK xs cs i k = [] ∧ ds = [.p (spS xs), .p (slI .i64 cs), .nil, .p (.int .i64 i), .ptr 0 0 0, .p (spS xs), .p (.int .i64 xs.length), .p (.int .i64 i), .p (slI .i64 cs), .p (.int .i64 cs.length), .p (.int .i64 k)] ∧
            H' = [.box 49 [.p (.int .i64 (xs.getD i default).x), .p (.int .i64 (xs.getD i default).y)]]))) xs.length ⟨0, by omega, by omega, by first | exact .inl ⟨hz, rfl, rfl⟩ | exact .inr ⟨hz, rfl, rfl⟩⟩ ?_
        clear key hz
        rintro m ds H' ⟨k, hk, rfl, hh⟩ -
        have hkf : k = xs.length → cvK xs cs i xs.length = cvK xs cs i k := by rintro rfl; rfl
        have hlast := cvK_last (xs := xs) (cs := cs) (i := i) (k := k)
        have hln := cvK_len (xs := xs) (cs := cs) (i := i) (k := k)
        rcases Nat.lt_or_ge k xs.length with hkl | hkl
        · clear hkf
          have hak := hat k hkl (hcc k (by omega))
          have hb1 := at_in (c := cs.getD k 0) (hon k hkl)
          have hcv := k_covered (atX (xs.getD k default).x (cs.getD k 0)) (atY (xs.getD k default).y (cs.getD k 0)) (xs.getD i default).x (xs.getD i default).y (by omega) (by omega)
          have he2 : cov ⟨atX (xs.getD k default).x (cs.getD k 0), atY (xs.getD k default).y (cs.getD k 0)⟩ ⟨(xs.getD i default).x, (xs.getD i default).y⟩ = cov (at1 (xs.getD k default) (cs.getD k 0)) (xs.getD i default) := rfl
          rw [he2] at hcv
          cases hv : cov (at1 (xs.getD k default) (cs.getD k 0)) (xs.getD i default)
          · have hst := cvK_step (i := i) hv
            rw [if_neg (by simp)] at hst
            rw [hv] at hcv
            rcases hh with ⟨hz, rfl, rfl⟩ | ⟨hz, rfl, rfl⟩
            · repeat' (first
                | (simp only [go_sem, reduceIte, Nat.reduceEqDiff, Nat.reduceAdd, Nat.reduceLeDiff])
                | (simp (disch := omega) only [w64, nadd1])
                | (refine Rm_need (by first | exact True.intro | omega | (simp; omega)) ?_)
                | (refine Rm_w rfl (hak) (by trivial) ?_)
                | (refine Rm_w ?_ (hak) (by trivial) ?_; · (simp [viewOfs, viewOf, List.take_of_length_le, cutL]; done))
                | (refine Rm_w rfl (hcv) (by trivial) ?_)
                | (refine Rm_w ?_ (hcv) (by trivial) ?_; · (simp [viewOfs, viewOf, List.take_of_length_le, cutL]; done))
                | (refine Rm_gi (by first | omega | (simp; omega)) ?_)
                | (refine Rm_gb (by first | omega | (simp; omega)) ?_)
                | (refine Rm_ga (by first | omega | (simp; omega)) _ rfl (Nat.le_of_ble_eq_true rfl) ?_)
                | (refine Rm_gm (by first | omega | (simp; omega)) _ rfl ?_)
                | (refine Rm_part _ _ rfl rfl ?_)
                | (refine Rm_puti (by first | omega | (simp; omega)) rfl ?_)
                | (refine Dm_draw [] (by simp) ?_)
                | (refine Tm_both ?_ ?_)
                | (refine Tm_fin (by simp only [hideOK, newsE]; simp []) ?_)
                | (refine Cm_split (fun h => ?_) (fun h => ?_) <;> (try (simp only [decide_eq_true_eq, decide_eq_false_iff_not] at h)) <;> (try omega))
                | (refine Gm_split (fun h => ?_) (fun h => ?_) <;> (try simp only [ne_eq, Bool.not_eq_true, Bool.not_eq_false] at h) <;> (try rw [h]) <;> (try (simp only [decide_eq_true_eq, decide_eq_false_iff_not, bne_iff_ne, beq_iff_eq, bne_eq_false_iff_eq, beq_eq_false_iff_ne, Bool.not_eq_true, Bool.not_eq_true', Bool.not_eq_false, Bool.not_eq_false', ne_eq, Bool.and_eq_true, Bool.or_eq_true, true_eq_decide_iff, false_eq_decide_iff] at h)) <;> (try omega))
                | (refine Sm_split (fun h => ?_) (fun h => ?_) <;> (try (simp only [decide_eq_true_eq, decide_eq_false_iff_not, bne_iff_ne, beq_iff_eq, bne_eq_false_iff_eq, beq_eq_false_iff_ne, Bool.not_eq_true, Bool.not_eq_true', Bool.not_eq_false, Bool.not_eq_false', ne_eq, Bool.and_eq_true, Bool.or_eq_true, true_eq_decide_iff, false_eq_decide_iff] at h)) <;> (try omega))
                | (exact ret_p rfl ⟨rfl, rfl⟩)
                | (refine ret_okv (by first | trivial | simp only [go_sem, detD, detDs, detP, and_self, and_true]) ?_)
                | (exact ret_gen _ _ _ rfl rfl rfl ⟨rfl, rfl⟩)
                | (simp only [Option.some.injEq, DV.tup.injEq, DV.p.injEq, List.cons.injEq, PV.int.injEq, PV.bool.injEq, PV.str.injEq, and_true, true_and])
                | rfl
                | (refine Bool.eq_iff_iff.2 ?_; simp only [decide_eq_true_eq, Bool.and_eq_true, Bool.or_eq_true, Bool.not_eq_true', decide_eq_false_iff_not, Bool.false_eq_true, beq_iff_eq, bne_iff_ne, ne_eq, false_iff, iff_false, true_iff, iff_true]; omega)
                | omega)
              exact Xm_inv_n (xs.length - (k + 1)) (by omega) ⟨k + 1, by omega, rfl, .inl ⟨by rw [hst]; exact hz, by rw [hst]; rfl, by rw [hst]; rfl⟩⟩
            · repeat' (first
                | (simp only [go_sem, reduceIte, Nat.reduceEqDiff, Nat.reduceAdd, Nat.reduceLeDiff])
                | (simp (disch := omega) only [w64, nadd1])
                | (refine Rm_need (by first | exact True.intro | omega | (simp; omega)) ?_)
                | (refine Rm_w rfl (hak) (by trivial) ?_)
                | (refine Rm_w ?_ (hak) (by trivial) ?_; · (simp [viewOfs, viewOf, List.take_of_length_le, cutL]; done))
                | (refine Rm_w rfl (hcv) (by trivial) ?_)
                | (refine Rm_w ?_ (hcv) (by trivial) ?_; · (simp [viewOfs, viewOf, List.take_of_length_le, cutL]; done))
                | (refine Rm_gi (by first | omega | (simp; omega)) ?_)
                | (refine Rm_gb (by first | omega | (simp; omega)) ?_)
                | (refine Rm_ga (by first | omega | (simp; omega)) _ rfl (Nat.le_of_ble_eq_true rfl) ?_)
                | (refine Rm_gm (by first | omega | (simp; omega)) _ rfl ?_)
                | (refine Rm_part _ _ rfl rfl ?_)
                | (refine Rm_puti (by first | omega | (simp; omega)) rfl ?_)
                | (refine Dm_draw [] (by simp) ?_)
                | (refine Tm_both ?_ ?_)
                | (refine Tm_fin (by simp only [hideOK, newsE]; simp []) ?_)
                | (refine Cm_split (fun h => ?_) (fun h => ?_) <;> (try (simp only [decide_eq_true_eq, decide_eq_false_iff_not] at h)) <;> (try omega))
                | (refine Gm_split (fun h => ?_) (fun h => ?_) <;> (try simp only [ne_eq, Bool.not_eq_true, Bool.not_eq_false] at h) <;> (try rw [h]) <;> (try (simp only [decide_eq_true_eq, decide_eq_false_iff_not, bne_iff_ne, beq_iff_eq, bne_eq_false_iff_eq, beq_eq_false_iff_ne, Bool.not_eq_true, Bool.not_eq_true', Bool.not_eq_false, Bool.not_eq_false', ne_eq, Bool.and_eq_true, Bool.or_eq_true, true_eq_decide_iff, false_eq_decide_iff] at h)) <;> (try omega))
                | (refine Sm_split (fun h => ?_) (fun h => ?_) <;> (try (simp only [decide_eq_true_eq, decide_eq_false_iff_not, bne_iff_ne, beq_iff_eq, bne_eq_false_iff_eq, beq_eq_false_iff_ne, Bool.not_eq_true, Bool.not_eq_true', Bool.not_eq_false, Bool.not_eq_false', ne_eq, Bool.and_eq_true, Bool.or_eq_true, true_eq_decide_iff, false_eq_decide_iff] at h)) <;> (try omega))
                | (exact ret_p rfl ⟨rfl, rfl⟩)
                | (refine ret_okv (by first | trivial | simp only [go_sem, detD, detDs, detP, and_self, and_true]) ?_)
                | (exact ret_gen _ _ _ rfl rfl rfl ⟨rfl, rfl⟩)
                | (simp only [Option.some.injEq, DV.tup.injEq, DV.p.injEq, List.cons.injEq, PV.int.injEq, PV.bool.injEq, PV.str.injEq, and_true, true_and])
                | rfl
                | (refine Bool.eq_iff_iff.2 ?_; simp only [decide_eq_true_eq, Bool.and_eq_true, Bool.or_eq_true, Bool.not_eq_true', decide_eq_false_iff_not, Bool.false_eq_true, beq_iff_eq, bne_iff_ne, ne_eq, false_iff, iff_false, true_iff, iff_true]; omega)
                | omega)
              exact Xm_inv_n (xs.length - (k + 1)) (by omega) ⟨k + 1, by omega, rfl, .inr ⟨by rw [hst]; exact hz, rfl, rfl⟩⟩
          · have hst := cvK_step (i := i) hv
            rw [hv] at hcv
            rcases hh with ⟨hz, rfl, rfl⟩ | ⟨hz, rfl, rfl⟩
            · have hl2 := hlast hz
              have hput := k_putInt (cvK xs cs i k) i (by omega) hz (by cases hd : cvd xs cs i k; exact Int.le_of_lt (hl2.2 hd); exact Int.le_of_eq (hl2.1 hd))
              repeat' (first
                | (simp only [go_sem, reduceIte, Nat.reduceEqDiff, Nat.reduceAdd, Nat.reduceLeDiff])
                | (simp (disch := omega) only [w64, nadd1])
                | (refine Rm_need (by first | exact True.intro | omega | (simp; omega)) ?_)
                | (refine Rm_w rfl (hak) (by trivial) ?_)
                | (refine Rm_w ?_ (hak) (by trivial) ?_; · (simp [viewOfs, viewOf, List.take_of_length_le, cutL]; done))
                | (refine Rm_w rfl (hcv) (by trivial) ?_)
                | (refine Rm_w ?_ (hcv) (by trivial) ?_; · (simp [viewOfs, viewOf, List.take_of_length_le, cutL]; done))
                | (refine Rm_i [0] hput (by simp) (by simp) ⟨_, _, rfl, .inl rfl, _, _, rfl, .inl rfl, rfl⟩ (fun r H2 hh => ?_); rcases hh with ⟨hq, rfl, rfl⟩ | ⟨hq, rfl, rfl⟩)
                | (refine Rm_gi (by first | omega | (simp; omega)) ?_)
                | (refine Rm_gb (by first | omega | (simp; omega)) ?_)
                | (refine Rm_ga (by first | omega | (simp; omega)) _ rfl (Nat.le_of_ble_eq_true rfl) ?_)
                | (refine Rm_gm (by first | omega | (simp; omega)) _ rfl ?_)
                | (refine Rm_part _ _ rfl rfl ?_)
                | (refine Rm_puti (by first | omega | (simp; omega)) rfl ?_)
                | (refine Dm_draw [] (by simp) ?_)
                | (refine Tm_both ?_ ?_)
                | (refine Tm_fin (by simp only [hideOK, newsE]; simp []) ?_)
                | (refine Cm_split (fun h => ?_) (fun h => ?_) <;> (try (simp only [decide_eq_true_eq, decide_eq_false_iff_not] at h)) <;> (try omega))
                | (refine Gm_split (fun h => ?_) (fun h => ?_) <;> (try simp only [ne_eq, Bool.not_eq_true, Bool.not_eq_false] at h) <;> (try rw [h]) <;> (try (simp only [decide_eq_true_eq, decide_eq_false_iff_not, bne_iff_ne, beq_iff_eq, bne_eq_false_iff_eq, beq_eq_false_iff_ne, Bool.not_eq_true, Bool.not_eq_true', Bool.not_eq_false, Bool.not_eq_false', ne_eq, Bool.and_eq_true, Bool.or_eq_true, true_eq_decide_iff, false_eq_decide_iff] at h)) <;> (try omega))
                | (refine Sm_split (fun h => ?_) (fun h => ?_) <;> (try (simp only [decide_eq_true_eq, decide_eq_false_iff_not, bne_iff_ne, beq_iff_eq, bne_eq_false_iff_eq, beq_eq_false_iff_ne, Bool.not_eq_true, Bool.not_eq_true', Bool.not_eq_false, Bool.not_eq_false', ne_eq, Bool.and_eq_true, Bool.or_eq_true, true_eq_decide_iff, false_eq_decide_iff] at h)) <;> (try omega))
                | (exact ret_p rfl ⟨rfl, rfl⟩)
                | (refine ret_okv (by first | trivial | simp only [go_sem, detD, detDs, detP, and_self, and_true]) ?_)
                | (exact ret_gen _ _ _ rfl rfl rfl ⟨rfl, rfl⟩)
                | (simp only [Option.some.injEq, DV.tup.injEq, DV.p.injEq, List.cons.injEq, PV.int.injEq, PV.bool.injEq, PV.str.injEq, and_true, true_and])
                | rfl
                | (refine Bool.eq_iff_iff.2 ?_; simp only [decide_eq_true_eq, Bool.and_eq_true, Bool.or_eq_true, Bool.not_eq_true', decide_eq_false_iff_not, Bool.false_eq_true, beq_iff_eq, bne_iff_ne, ne_eq, false_iff, iff_false, true_iff, iff_true]; omega)
                | omega)
              · have hd : cvd xs cs i k = true := by
                  cases hd : cvd xs cs i k
                  · have := hl2.2 hd; omega
                  · rfl
                rw [if_neg (by simp [hd])] at hst
                exact Xm_inv_n (xs.length - (k + 1)) (by omega) ⟨k + 1, by omega, rfl, .inl ⟨by rw [hst]; exact hz, by rw [hst]; rfl, by rw [hst]; rfl⟩⟩
              · have hd : cvd xs cs i k = false := by
                  cases hd : cvd xs cs i k
                  · rfl
                  · have := hl2.1 hd; omega
                rw [if_pos ⟨rfl, hd⟩] at hst
                exact Xm_inv_n (xs.length - (k + 1)) (by omega) ⟨k + 1, by omega, rfl, .inl ⟨by rw [hst]; simp, by rw [hst]; rfl, by rw [hst]; rfl⟩⟩
            · have hd : cvd xs cs i k = false := by
                cases hd : cvd xs cs i k
                · rfl
                · unfold cvK at hz
                  rw [hd] at hz
                  simp at hz
              rw [if_pos ⟨rfl, hd⟩, hz] at hst
              repeat' (first
                | (simp only [go_sem, reduceIte, Nat.reduceEqDiff, Nat.reduceAdd, Nat.reduceLeDiff])
                | (simp (disch := omega) only [w64, nadd1])
                | (refine Rm_need (by first | exact True.intro | omega | (simp; omega)) ?_)
                | (refine Rm_w rfl (hak) (by trivial) ?_)
                | (refine Rm_w ?_ (hak) (by trivial) ?_; · (simp [viewOfs, viewOf, List.take_of_length_le, cutL]; done))
                | (refine Rm_w rfl (hcv) (by trivial) ?_)
                | (refine Rm_w ?_ (hcv) (by trivial) ?_; · (simp [viewOfs, viewOf, List.take_of_length_le, cutL]; done))
                | (refine Rm_i [] (k_putInt0 i) (by simp) (by simp) ⟨_, _, rfl, .inl rfl, _, _, rfl, .inl rfl, rfl⟩ (fun r H2 hh => ?_); obtain ⟨rfl, rfl⟩ := hh)
                | (refine Rm_gi (by first | omega | (simp; omega)) ?_)
                | (refine Rm_gb (by first | omega | (simp; omega)) ?_)
                | (refine Rm_ga (by first | omega | (simp; omega)) _ rfl (Nat.le_of_ble_eq_true rfl) ?_)
                | (refine Rm_gm (by first | omega | (simp; omega)) _ rfl ?_)
                | (refine Rm_part _ _ rfl rfl ?_)
                | (refine Rm_puti (by first | omega | (simp; omega)) rfl ?_)
                | (refine Dm_draw [] (by simp) ?_)
                | (refine Tm_both ?_ ?_)
                | (refine Tm_fin (by simp only [hideOK, newsE]; simp []) ?_)
                | (refine Cm_split (fun h => ?_) (fun h => ?_) <;> (try (simp only [decide_eq_true_eq, decide_eq_false_iff_not] at h)) <;> (try omega))
                | (refine Gm_split (fun h => ?_) (fun h => ?_) <;> (try simp only [ne_eq, Bool.not_eq_true, Bool.not_eq_false] at h) <;> (try rw [h]) <;> (try (simp only [decide_eq_true_eq, decide_eq_false_iff_not, bne_iff_ne, beq_iff_eq, bne_eq_false_iff_eq, beq_eq_false_iff_ne, Bool.not_eq_true, Bool.not_eq_true', Bool.not_eq_false, Bool.not_eq_false', ne_eq, Bool.and_eq_true, Bool.or_eq_true, true_eq_decide_iff, false_eq_decide_iff] at h)) <;> (try omega))
                | (refine Sm_split (fun h => ?_) (fun h => ?_) <;> (try (simp only [decide_eq_true_eq, decide_eq_false_iff_not, bne_iff_ne, beq_iff_eq, bne_eq_false_iff_eq, beq_eq_false_iff_ne, Bool.not_eq_true, Bool.not_eq_true', Bool.not_eq_false, Bool.not_eq_false', ne_eq, Bool.and_eq_true, Bool.or_eq_true, true_eq_decide_iff, false_eq_decide_iff] at h)) <;> (try omega))
                | (exact ret_p rfl ⟨rfl, rfl⟩)
                | (refine ret_okv (by first | trivial | simp only [go_sem, detD, detDs, detP, and_self, and_true]) ?_)
                | (exact ret_gen _ _ _ rfl rfl rfl ⟨rfl, rfl⟩)
                | (simp only [Option.some.injEq, DV.tup.injEq, DV.p.injEq, List.cons.injEq, PV.int.injEq, PV.bool.injEq, PV.str.injEq, and_true, true_and])
                | rfl
                | (refine Bool.eq_iff_iff.2 ?_; simp only [decide_eq_true_eq, Bool.and_eq_true, Bool.or_eq_true, Bool.not_eq_true', decide_eq_false_iff_not, Bool.false_eq_true, beq_iff_eq, bne_iff_ne, ne_eq, false_iff, iff_false, true_iff, iff_true]; omega)
                | omega)
              exact Xm_inv_n (xs.length - (k + 1)) (by omega) ⟨k + 1, by omega, rfl, .inl ⟨by rw [hst]; simp, by rw [hst]; rfl, by rw [hst]; rfl⟩⟩
        · rw [hkf (by omega)] at hs
          rcases hh with ⟨hz, rfl, rfl⟩ | ⟨hz, rfl, rfl⟩
          · repeat' (first
              | (simp only [go_sem, reduceIte, Nat.reduceEqDiff])
              | (simp (disch := omega) only [w64, nadd1])
              | (refine Rm_need (by first | exact True.intro | omega | (simp; omega)) ?_)
              | (refine Rm_gi (by first | omega | (simp; omega)) ?_)
              | (refine Rm_gb (by first | omega | (simp; omega)) ?_)
              | (refine Rm_ga (by first | omega | (simp; omega)) _ rfl (Nat.le_of_ble_eq_true rfl) ?_)
              | (refine Rm_gm (by first | omega | (simp; omega)) _ rfl ?_)
              | (refine Rm_part _ _ rfl rfl ?_)
              | (refine Rm_puti (by first | omega | (simp; omega)) rfl ?_)
              | (refine Dm_draw [] (by simp) ?_)
              | (refine Tm_both ?_ ?_)
              | (refine Tm_fin (by simp only [hideOK, newsE]; simp []) ?_)
              | (refine Cm_split (fun h => ?_) (fun h => ?_) <;> (try (simp only [decide_eq_true_eq, decide_eq_false_iff_not] at h)) <;> (try omega))
              | (refine Gm_split (fun h => ?_) (fun h => ?_) <;> (try simp only [ne_eq, Bool.not_eq_true, Bool.not_eq_false] at h) <;> (try rw [h]) <;> (try (simp only [decide_eq_true_eq, decide_eq_false_iff_not, bne_iff_ne, beq_iff_eq, bne_eq_false_iff_eq, beq_eq_false_iff_ne, Bool.not_eq_true, Bool.not_eq_true', Bool.not_eq_false, Bool.not_eq_false', ne_eq, Bool.and_eq_true, Bool.or_eq_true, true_eq_decide_iff, false_eq_decide_iff] at h)) <;> (try omega))
              | (refine Sm_split (fun h => ?_) (fun h => ?_) <;> (try (simp only [decide_eq_true_eq, decide_eq_false_iff_not, bne_iff_ne, beq_iff_eq, bne_eq_false_iff_eq, beq_eq_false_iff_ne, Bool.not_eq_true, Bool.not_eq_true', Bool.not_eq_false, Bool.not_eq_false', ne_eq, Bool.and_eq_true, Bool.or_eq_true, true_eq_decide_iff, false_eq_decide_iff] at h)) <;> (try omega))
              | (exact ret_p rfl ⟨rfl, rfl⟩)
              | (refine ret_okv (by first | trivial | simp only [go_sem, detD, detDs, detP, and_self, and_true]) ?_)
              | (exact ret_gen _ _ _ rfl rfl rfl ⟨rfl, rfl⟩)
              | (simp only [Option.some.injEq, DV.tup.injEq, DV.p.injEq, List.cons.injEq, PV.int.injEq, PV.bool.injEq, PV.str.injEq, and_true, true_and])
              | rfl
              | (refine Bool.eq_iff_iff.2 ?_; simp only [decide_eq_true_eq, Bool.and_eq_true, Bool.or_eq_true, Bool.not_eq_true', decide_eq_false_iff_not, Bool.false_eq_true, beq_iff_eq, bne_iff_ne, ne_eq, false_iff, iff_false, true_iff, iff_true]; omega)
              | omega)
            exact Xm_inv_n (xs.length - (i + 1)) (by omega) ⟨i + 1, by omega, rfl, .inl ⟨by rw [hs]; exact hz, by rw [hs]; rfl, by rw [hs]; rfl⟩⟩
          · repeat' (first
              | (simp only [go_sem, reduceIte, Nat.reduceEqDiff])
              | (simp (disch := omega) only [w64, nadd1])
              | (refine Rm_need (by first | exact True.intro | omega | (simp; omega)) ?_)
              | (refine Rm_gi (by first | omega | (simp; omega)) ?_)
              | (refine Rm_gb (by first | omega | (simp; omega)) ?_)
              | (refine Rm_ga (by first | omega | (simp; omega)) _ rfl (Nat.le_of_ble_eq_true rfl) ?_)
              | (refine Rm_gm (by first | omega | (simp; omega)) _ rfl ?_)
              | (refine Rm_part _ _ rfl rfl ?_)
              | (refine Rm_puti (by first | omega | (simp; omega)) rfl ?_)
              | (refine Dm_draw [] (by simp) ?_)
              | (refine Tm_both ?_ ?_)
              | (refine Tm_fin (by simp only [hideOK, newsE]; simp []) ?_)
              | (refine Cm_split (fun h => ?_) (fun h => ?_) <;> (try (simp only [decide_eq_true_eq, decide_eq_false_iff_not] at h)) <;> (try omega))
              | (refine Gm_split (fun h => ?_) (fun h => ?_) <;> (try simp only [ne_eq, Bool.not_eq_true, Bool.not_eq_false] at h) <;> (try rw [h]) <;> (try (simp only [decide_eq_true_eq, decide_eq_false_iff_not, bne_iff_ne, beq_iff_eq, bne_eq_false_iff_eq, beq_eq_false_iff_ne, Bool.not_eq_true, Bool.not_eq_true', Bool.not_eq_false, Bool.not_eq_false', ne_eq, Bool.and_eq_true, Bool.or_eq_true, true_eq_decide_iff, false_eq_decide_iff] at h)) <;> (try omega))
              | (refine Sm_split (fun h => ?_) (fun h => ?_) <;> (try (simp only [decide_eq_true_eq, decide_eq_false_iff_not, bne_iff_ne, beq_iff_eq, bne_eq_false_iff_eq, beq_eq_false_iff_ne, Bool.not_eq_true, Bool.not_eq_true', Bool.not_eq_false, Bool.not_eq_false', ne_eq, Bool.and_eq_true, Bool.or_eq_true, true_eq_decide_iff, false_eq_decide_iff] at h)) <;> (try omega))
              | (exact ret_p rfl ⟨rfl, rfl⟩)
              | (refine ret_okv (by first | trivial | simp only [go_sem, detD, detDs, detP, and_self, and_true]) ?_)
              | (exact ret_gen _ _ _ rfl rfl rfl ⟨rfl, rfl⟩)
              | (simp only [Option.some.injEq, DV.tup.injEq, DV.p.injEq, List.cons.injEq, PV.int.injEq, PV.bool.injEq, PV.str.injEq, and_true, true_and])
              | rfl
              | (refine Bool.eq_iff_iff.2 ?_; simp only [decide_eq_true_eq, Bool.and_eq_true, Bool.or_eq_true, Bool.not_eq_true', decide_eq_false_iff_not, Bool.false_eq_true, beq_iff_eq, bne_iff_ne, ne_eq, false_iff, iff_false, true_iff, iff_true]; omega)
              | omega)
            exact Xm_inv_n (xs.length - (i + 1)) (by omega) ⟨i + 1, by omega, rfl, .inr ⟨by rw [hs]; exact hz, rfl, rfl⟩⟩
    · rw [hfin (by omega)]
      rcases hh with ⟨hz, rfl, rfl⟩ | ⟨hz, rfl, rfl⟩
      · repeat' (first
          | (simp only [go_sem, reduceIte, Nat.reduceEqDiff])
          | (simp (disch := omega) only [w64, w8, bytesOf_cons, tmod10, tdiv10, tn48, nsub1, nadd1, nsub, nadd, nmul, List.take_length, Int.toNat_zero, Int.reduceAdd, Int.reduceSub, Int.reduceToNat, Int.reduceMul, Nat.sub_zero, Nat.min_self])
          | (refine Rm_need (by first | exact True.intro | omega | (simp; omega)) ?_)
          | (refine Rm_gi (by first | omega | (simp; omega)) ?_)
          | (refine Rm_gb (by first | omega | (simp; omega)) ?_)
          | (refine Rm_ga (by first | omega | (simp; omega)) _ rfl (Nat.le_of_ble_eq_true rfl) ?_)
          | (refine Rm_gm (by first | omega | (simp; omega)) _ rfl ?_)
          | (refine Rm_part _ _ rfl rfl ?_)
          | (refine Rm_puti (by first | omega | (simp; omega)) rfl ?_)
          | (refine Dm_draw [] (by simp) ?_)
          | (refine Tm_both ?_ ?_)
          | (refine Tm_fin (by simp only [hideOK, newsE]; simp []) ?_)
          | (refine Cm_split (fun h => ?_) (fun h => ?_) <;> (try (simp only [decide_eq_true_eq, decide_eq_false_iff_not] at h)) <;> (try omega))
          | (refine Gm_split (fun h => ?_) (fun h => ?_) <;> (try simp only [ne_eq, Bool.not_eq_true, Bool.not_eq_false] at h) <;> (try rw [h]) <;> (try (simp only [decide_eq_true_eq, decide_eq_false_iff_not, bne_iff_ne, beq_iff_eq, bne_eq_false_iff_eq, beq_eq_false_iff_ne, Bool.not_eq_true, Bool.not_eq_true', Bool.not_eq_false, Bool.not_eq_false', ne_eq, Bool.and_eq_true, Bool.or_eq_true, true_eq_decide_iff, false_eq_decide_iff] at h)) <;> (try omega))
          | (refine Sm_split (fun h => ?_) (fun h => ?_) <;> (try (simp only [decide_eq_true_eq, decide_eq_false_iff_not, bne_iff_ne, beq_iff_eq, bne_eq_false_iff_eq, beq_eq_false_iff_ne, Bool.not_eq_true, Bool.not_eq_true', Bool.not_eq_false, Bool.not_eq_false', ne_eq, Bool.and_eq_true, Bool.or_eq_true, true_eq_decide_iff, false_eq_decide_iff] at h)) <;> (try omega))
          | (exact ret_p rfl ⟨rfl, rfl⟩)
          | (refine ret_okv (by first | trivial | simp only [go_sem, detD, detDs, detP, and_self, and_true]) ?_)
          | (exact ret_gen _ _ _ rfl rfl rfl ⟨rfl, rfl⟩)
          | (simp only [Option.some.injEq, DV.tup.injEq, DV.p.injEq, List.cons.injEq, PV.int.injEq, PV.bool.injEq, PV.str.injEq, and_true, true_and])
          | rfl
          | (refine Bool.eq_iff_iff.2 ?_; simp only [decide_eq_true_eq, Bool.and_eq_true, Bool.or_eq_true, Bool.not_eq_true', decide_eq_false_iff_not, Bool.false_eq_true, beq_iff_eq, bne_iff_ne, ne_eq, false_iff, iff_false, true_iff, iff_true]; omega)
          | omega)
        exact ret_gen _ _ _ rfl rfl rfl (.inl ⟨rfl, rfl⟩)
      · repeat' (first
          | (simp only [go_sem, reduceIte, Nat.reduceEqDiff])
          | (simp (disch := omega) only [w64, w8, bytesOf_cons, tmod10, tdiv10, tn48, nsub1, nadd1, nsub, nadd, nmul, List.take_length, Int.toNat_zero, Int.reduceAdd, Int.reduceSub, Int.reduceToNat, Int.reduceMul, Nat.sub_zero, Nat.min_self])
          | (refine Rm_need (by first | exact True.intro | omega | (simp; omega)) ?_)
          | (refine Rm_gi (by first | omega | (simp; omega)) ?_)
          | (refine Rm_gb (by first | omega | (simp; omega)) ?_)
          | (refine Rm_ga (by first | omega | (simp; omega)) _ rfl (Nat.le_of_ble_eq_true rfl) ?_)
          | (refine Rm_gm (by first | omega | (simp; omega)) _ rfl ?_)
          | (refine Rm_part _ _ rfl rfl ?_)
          | (refine Rm_puti (by first | omega | (simp; omega)) rfl ?_)
          | (refine Dm_draw [] (by simp) ?_)
          | (refine Tm_both ?_ ?_)
          | (refine Tm_fin (by simp only [hideOK, newsE]; simp []) ?_)
          | (refine Cm_split (fun h => ?_) (fun h => ?_) <;> (try (simp only [decide_eq_true_eq, decide_eq_false_iff_not] at h)) <;> (try omega))
          | (refine Gm_split (fun h => ?_) (fun h => ?_) <;> (try simp only [ne_eq, Bool.not_eq_true, Bool.not_eq_false] at h) <;> (try rw [h]) <;> (try (simp only [decide_eq_true_eq, decide_eq_false_iff_not, bne_iff_ne, beq_iff_eq, bne_eq_false_iff_eq, beq_eq_false_iff_ne, Bool.not_eq_true, Bool.not_eq_true', Bool.not_eq_false, Bool.not_eq_false', ne_eq, Bool.and_eq_true, Bool.or_eq_true, true_eq_decide_iff, false_eq_decide_iff] at h)) <;> (try omega))
          | (refine Sm_split (fun h => ?_) (fun h => ?_) <;> (try (simp only [decide_eq_true_eq, decide_eq_false_iff_not, bne_iff_ne, beq_iff_eq, bne_eq_false_iff_eq, beq_eq_false_iff_ne, Bool.not_eq_true, Bool.not_eq_true', Bool.not_eq_false, Bool.not_eq_false', ne_eq, Bool.and_eq_true, Bool.or_eq_true, true_eq_decide_iff, false_eq_decide_iff] at h)) <;> (try omega))
          | (exact ret_p rfl ⟨rfl, rfl⟩)
          | (refine ret_okv (by first | trivial | simp only [go_sem, detD, detDs, detP, and_self, and_true]) ?_)
          | (exact ret_gen _ _ _ rfl rfl rfl ⟨rfl, rfl⟩)
          | (simp only [Option.some.injEq, DV.tup.injEq, DV.p.injEq, List.cons.injEq, PV.int.injEq, PV.bool.injEq, PV.str.injEq, and_true, true_and])
          | rfl
          | (refine Bool.eq_iff_iff.2 ?_; simp only [decide_eq_true_eq, Bool.and_eq_true, Bool.or_eq_true, Bool.not_eq_true', decide_eq_false_iff_not, Bool.false_eq_true, beq_iff_eq, bne_iff_ne, ne_eq, false_iff, iff_false, true_iff, iff_true]; omega)
          | omega)
        exact ret_gen _ _ _ rfl rfl rfl (.inr ⟨rfl, rfl, hz⟩)
end Go.Proofs.Ytakpkggmhgkicaa

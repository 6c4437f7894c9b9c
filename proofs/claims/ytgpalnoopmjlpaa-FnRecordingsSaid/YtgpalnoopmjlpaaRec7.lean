import Derived.Test.YtgpalnoopmjlpaaRec6
namespace Go.Proofs.Ytgpalnoopmjlpaa
open Go.Dv Go.Dv.EvL
attribute [local irreducible] Ok Rm Dm Om Sm Xm Cm Gm Hm Tm

theorem lines_at (xs : List Rcd) : (xs.map bodyO ++ [[]]).length = xs.length + 1 ∧ (xs.map bodyO ++ [[]]).getD xs.length default = [] ∧ ∀ i, i < xs.length → (xs.map bodyO ++ [[]]).getD i default = bodyO (xs.getD i default) := by
  refine ⟨by simp, ?_, fun i hi => ?_⟩
  · rw [List.getD_eq_getElem?_getD, List.getElem?_append_right (by simp), List.length_map, Nat.sub_self]
    rfl
  · rw [List.getD_eq_getElem?_getD, List.getElem?_append_left (by simpa using hi), List.getElem?_map, List.getElem?_eq_getElem hi, List.getD_eq_getElem?_getD, List.getElem?_eq_getElem hi]
    rfl
set_option maxRecDepth 100000 in
set_option maxHeartbeats 16000000 in
/-- spec.ParseRecording, of the text of a recording -/
theorem k_sParse1 (xs : List Rcd) (h : recsB xs = true) : Okw Try.prog 33 [.str (textO xs)] (OutO (xs, true)) := by
  refine ok_D hmix c_spec_ParseRecording (by simp) ?_
  unfold OutO
  have hx := recs_mem h
  have hl := (recs_at h).1
  have ht := text_len20 hx
  have hs := k_l1Split (textO xs) 10 (by omega)
  rw [split_text hx] at hs
  obtain ⟨hLl, hLe, hLi⟩ := lines_at xs
  generalize hL : xs.map bodyO ++ [[]] = L at *
  have hn1 : L.length - 1 = xs.length := by omega
  have hv := k_l25Good xs (by omega) (fun r hr => by have := rcd_in (hx r hr); omega)
  rw [h] at hv
  have htx := k_l25Text xs h
  simp only [envOf, envFrom, go_sem, Nat.lt_add_one, reduceIte, Nat.reduceEqDiff, Nat.reduceAdd, Nat.reduceMul, Nat.reduceLeDiff]
  repeat' (first
    | (simp only [go_sem, reduceIte, Nat.reduceEqDiff, Nat.reduceBEq])
    | (simp (disch := omega) only [w64, nsub1])
    | (refine Rm_need (by first | exact True.intro | omega | (simp; omega)) ?_)
    | (refine Rm_o hs rfl (fun r H2 hh => ?_); obtain ⟨rfl, rfl⟩ := hh)
    | (rw [hn1])
    | (rw [hLe])
    | (refine Rm_gi (by first | omega | (simp; omega)) ?_)
    | (refine Rm_gb (by first | omega | (simp; omega)) ?_)
    | (refine Rm_ga (by first | omega | (simp; omega)) _ rfl (Nat.le_of_ble_eq_true rfl) ?_)
    | (refine Rm_gm (by first | omega | (simp; omega)) _ rfl ?_)
    | (refine Rm_part _ _ rfl rfl ?_)
    | (refine Rm_puti (by first | omega | (simp; omega)) rfl ?_)
    | (refine Dm_draw [] (by simp) ?_)
    | (refine Tm_both ?_ ?_)
    | (refine Tm_fin (by simp only [hideOK, newsE]; simp []) ?_)
    | (refine Cm_split (fun h => ?_) (fun h => ?_) <;> (try (simp only [decide_eq_true_eq, decide_eq_false_iff_not, bne_iff_ne, beq_iff_eq, bne_eq_false_iff_eq, beq_eq_false_iff_ne, Bool.not_eq_true, Bool.not_eq_true', Bool.not_eq_false, Bool.not_eq_false', ne_eq, Bool.and_eq_true, Bool.or_eq_true, true_eq_decide_iff, false_eq_decide_iff] at h)) <;> (try omega))
    | (refine Gm_split (fun h => ?_) (fun h => ?_) <;> (try simp only [ne_eq, Bool.not_eq_true, Bool.not_eq_false] at h) <;> (try rw [h]) <;> (try (simp only [decide_eq_true_eq, decide_eq_false_iff_not, bne_iff_ne, beq_iff_eq, bne_eq_false_iff_eq, beq_eq_false_iff_ne, Bool.not_eq_true, Bool.not_eq_true', Bool.not_eq_false, Bool.not_eq_false', ne_eq, Bool.and_eq_true, Bool.or_eq_true, true_eq_decide_iff, false_eq_decide_iff] at h)) <;> (try omega))
    | (refine Sm_split (fun h => ?_) (fun h => ?_) <;> (try (simp only [decide_eq_true_eq, decide_eq_false_iff_not] at h)) <;> (try omega))
    | (exact ret_p rfl ⟨rfl, rfl⟩)
    | (refine ret_okv (by first | trivial | simp only [go_sem, detD, detDs, detP, and_self, and_true]) ?_)
    | (exact ret_gen _ _ _ rfl rfl rfl ⟨rfl, rfl⟩)
    | (simp only [Option.some.injEq, DV.tup.injEq, DV.p.injEq, List.cons.injEq, PV.int.injEq, PV.bool.injEq, PV.str.injEq, and_true, true_and])
    | rfl
    | (refine Bool.eq_iff_iff.2 ?_; simp only [decide_eq_true_eq, Bool.and_eq_true, Bool.or_eq_true, Bool.not_eq_true', decide_eq_false_iff_not, Bool.false_eq_true, beq_iff_eq, bne_iff_ne, ne_eq, false_iff, iff_false, true_iff, iff_true]; omega)
    | omega)
  refine Dm_loop [0, 4, 5, 6] (fun m ds H' => ∃ i : Nat, i ≤ xs.length ∧ m = xs.length - i ∧
    ds = [.p (.str (textO xs)), .own 0 0 (xs.take i).length, .own 1 0 L.length, .p (.int .i64 i)] ∧ H' = [.arr 58 2 ((xs.take i).map Rcd.pv), .arr 9 1 (L.map .str)]) xs.length ⟨0, by omega, by omega, by rfl, by rfl⟩ ?_
  rintro m ds H' ⟨i, hi, rfl, rfl, rfl⟩ -
  have hstep := fun h : i < xs.length => take_snoc (d := (default : Rcd)) h
  rcases Nat.lt_or_ge i xs.length with hlt | hge
  · have hLi := hLi i hlt
    have hr := hx _ (getD_mem (d := default) hlt)
    have hp := body_parts hr
    have hstep := hstep hlt
    have hcut := k_l24Cut (bodyO (xs.getD i default)) [32] (by omega) (by simp)
    rw [show bodyO (xs.getD i default) = num (xs.getD i default).sec ++ 32 :: (xs.getD i default).hex from rfl, cut2_at hp.2.1] at hcut
    have hrd := k_l1Read (num (xs.getD i default).sec) (by rw [hp.2.2.2.1]; omega)
    rw [hp.2.2.2.1] at hrd hcut
    rw [read_dec (by have := rcd_in hr; omega), show (((xs.getD i default).sec.toNat : Nat) : Int) = (xs.getD i default).sec from by have := rcd_in hr; omega] at hrd
    have hLi : L.getD i default = dec (xs.getD i default).sec.toNat ++ 32 :: (xs.getD i default).hex := by rw [hLi, bodyO, hp.2.2.2.1]
    have htl : (xs.take i).length = i := by rw [List.length_take]; omega
    generalize dec (xs.getD i default).sec.toNat = w at *
    generalize xs.take i = Z at *
    repeat' (first
      | (simp only [go_sem, Nat.lt_add_one, reduceIte, Nat.reduceEqDiff, Nat.reduceBEq, Nat.reduceAdd, Nat.reduceMul, Nat.reduceLeDiff])
      | (simp (disch := omega) only [w64, nsub1, nadd1, List.take_length])
      | (refine Rm_need (by first | exact True.intro | omega | (simp; omega)) ?_)
      | (rw [hn1])
      | (rw [hLi])
      | (refine Rm_w rfl (hcut) (by trivial) ?_)
      | (refine Rm_w ?_ (hcut) (by trivial) ?_; · (simp [viewOfs, viewOf, List.take_of_length_le, cutL]; done))
      | (refine Rm_w rfl (hrd) (by trivial) ?_)
      | (refine Rm_w ?_ (hrd) (by trivial) ?_; · (simp [viewOfs, viewOf, List.take_of_length_le, cutL]; done))
      | (rw [rcd_app])
      | (refine Rm_gi (by first | omega | (simp; omega)) ?_)
      | (refine Rm_gb (by first | omega | (simp; omega)) ?_)
      | (refine Rm_ga (by first | omega | (simp; omega)) _ rfl (Nat.le_of_ble_eq_true rfl) ?_)
      | (refine Rm_gm (by first | omega | (simp; omega)) _ rfl ?_)
      | (refine Rm_part _ _ rfl rfl ?_)
      | (refine Rm_puti (by first | omega | (simp; omega)) rfl ?_)
      | (refine Dm_draw [] (by simp) ?_)
      | (refine Tm_both ?_ ?_)
      | (refine Tm_fin (by simp only [hideOK, newsE]; simp []) ?_)
      | (refine Cm_split (fun h => ?_) (fun h => ?_) <;> (try (simp only [decide_eq_true_eq, decide_eq_false_iff_not] at h)) <;> (try omega))
      | (refine Gm_split (fun h => ?_) (fun h => ?_) <;> (try simp only [ne_eq, Bool.not_eq_true, Bool.not_eq_false] at h) <;> (try rw [h]) <;> (try (simp only [decide_eq_true_eq, decide_eq_false_iff_not, bne_iff_ne, beq_iff_eq, bne_eq_false_iff_eq, beq_eq_false_iff_ne, Bool.not_eq_true, Bool.not_eq_true', Bool.not_eq_false, Bool.not_eq_false', ne_eq, Bool.and_eq_true, Bool.or_eq_true, true_eq_decide_iff, false_eq_decide_iff] at h)) <;> (try omega))
      | (refine Sm_split (fun h => ?_) (fun h => ?_) <;> (try (simp only [decide_eq_true_eq, decide_eq_false_iff_not, bne_iff_ne, beq_iff_eq, bne_eq_false_iff_eq, beq_eq_false_iff_ne, Bool.not_eq_true, Bool.not_eq_true', Bool.not_eq_false, Bool.not_eq_false', ne_eq, Bool.and_eq_true, Bool.or_eq_true, true_eq_decide_iff, false_eq_decide_iff] at h)) <;> (try omega))
      | (exact ret_p rfl ⟨rfl, rfl⟩)
      | (refine ret_okv (by first | trivial | simp only [go_sem, detD, detDs, detP, and_self, and_true]) ?_)
      | (exact ret_gen _ _ _ rfl rfl rfl ⟨rfl, rfl⟩)
      | (simp only [Option.some.injEq, DV.tup.injEq, DV.p.injEq, List.cons.injEq, PV.int.injEq, PV.bool.injEq, PV.str.injEq, and_true, true_and])
      | rfl
      | (refine Bool.eq_iff_iff.2 ?_; simp only [decide_eq_true_eq, Bool.and_eq_true, Bool.or_eq_true, Bool.not_eq_true', decide_eq_false_iff_not, Bool.false_eq_true, beq_iff_eq, bne_iff_ne, ne_eq, false_iff, iff_false, true_iff, iff_true]; omega)
      | omega)
    all_goals first
      | (refine Xm_inv_n (xs.length - (i + 1)) (by omega) ⟨i + 1, by omega, rfl, ?_, ?_⟩
         · rw [hstep, List.length_append]; rfl
         · rw [hstep]; rfl)
      | skip
  · obtain rfl : i = xs.length := by omega
    rw [List.take_length]
    repeat' (first
      | (simp only [go_sem, reduceIte, Nat.reduceEqDiff, Nat.reduceBEq])
      | (simp (disch := omega) only [w64, nsub1])
      | (refine Rm_need (by first | exact True.intro | omega | (simp; omega)) ?_)
      | (rw [hn1])
      | (refine Rm_w rfl (hv) (by trivial) ?_)
      | (refine Rm_w ?_ (hv) (by trivial) ?_; · (simp [viewOfs, viewOf, List.take_of_length_le]; done))
      | (refine Rm_w rfl (htx) (by trivial) ?_)
      | (refine Rm_w ?_ (htx) (by trivial) ?_; · (simp [viewOfs, viewOf, List.take_of_length_le]; done))
      | (refine Rm_gi (by first | omega | (simp; omega)) ?_)
      | (refine Rm_gb (by first | omega | (simp; omega)) ?_)
      | (refine Rm_ga (by first | omega | (simp; omega)) _ rfl (Nat.le_of_ble_eq_true rfl) ?_)
      | (refine Rm_gm (by first | omega | (simp; omega)) _ rfl ?_)
      | (refine Rm_part _ _ rfl rfl ?_)
      | (refine Rm_puti (by first | omega | (simp; omega)) rfl ?_)
      | (refine Dm_draw [] (by simp) ?_)
      | (refine Tm_both ?_ ?_)
      | (refine Tm_fin (by simp only [hideOK, newsE]; simp []) ?_)
      | (refine Cm_split (fun h => ?_) (fun h => ?_) <;> (try (simp only [decide_eq_true_eq, decide_eq_false_iff_not] at h)) <;> (try omega))
      | (refine Gm_split (fun h => ?_) (fun h => ?_) <;> (try simp only [ne_eq, Bool.not_eq_true, Bool.not_eq_false] at h) <;> (try rw [h]) <;> (try (simp only [decide_eq_true_eq, decide_eq_false_iff_not, bne_iff_ne, beq_iff_eq, bne_eq_false_iff_eq, beq_eq_false_iff_ne, Bool.not_eq_true, Bool.not_eq_true', Bool.not_eq_false, Bool.not_eq_false', ne_eq, Bool.and_eq_true, Bool.or_eq_true, true_eq_decide_iff, false_eq_decide_iff] at h)) <;> (try omega))
      | (refine Sm_split (fun h => ?_) (fun h => ?_) <;> (try (simp only [decide_eq_true_eq, decide_eq_false_iff_not, bne_iff_ne, beq_iff_eq, bne_eq_false_iff_eq, beq_eq_false_iff_ne, Bool.not_eq_true, Bool.not_eq_true', Bool.not_eq_false, Bool.not_eq_false', ne_eq, Bool.and_eq_true, Bool.or_eq_true, true_eq_decide_iff, false_eq_decide_iff] at h)) <;> (try omega))
      | (exact ret_p rfl ⟨rfl, rfl⟩)
      | (refine ret_okv (by first | trivial | simp only [go_sem, detD, detDs, detP, and_self, and_true]) ?_)
      | (exact ret_gen _ _ _ rfl rfl rfl ⟨rfl, rfl⟩)
      | (simp only [Option.some.injEq, DV.tup.injEq, DV.p.injEq, List.cons.injEq, PV.int.injEq, PV.bool.injEq, PV.str.injEq, and_true, true_and])
      | rfl
      | (refine Bool.eq_iff_iff.2 ?_; simp only [decide_eq_true_eq, Bool.and_eq_true, Bool.or_eq_true, Bool.not_eq_true', decide_eq_false_iff_not, Bool.false_eq_true, beq_iff_eq, bne_iff_ne, ne_eq, false_iff, iff_false, true_iff, iff_true]; omega)
      | omega)
    all_goals first
      | exact ret_gen _ _ _ rfl rfl rfl ⟨rfl, rfl⟩
      | skip

theorem glue_mem {c : UInt8} {X : List (List UInt8)} {x : List UInt8} (h : x ∈ glue [c] X) : x ∈ X ∨ (∃ y ∈ X, x = c :: y) ∨ x = [c] := by
  cases X with
  | nil => exact .inr (.inr (by simpa [glue] using h))
  | cons y t =>
    simp only [glue, List.mem_cons] at h
    rcases h with rfl | h
    · exact .inr (.inl ⟨y, by simp, rfl⟩)
    · exact .inl (by simp [h])
theorem split_mem (b : UInt8) : ∀ (s : List UInt8) (x : List UInt8), x ∈ splitB b s → x.length ≤ s.length
  | [], x, h => by
    simp [splitB] at h
    simp [h]
  | c :: s, x, h => by
    rw [splitB] at h
    split at h
    · rcases List.mem_cons.1 h with rfl | h
      · simp
      · have := split_mem b s x h
        simp only [List.length_cons]
        omega
    · rcases glue_mem h with h | ⟨y, hy, rfl⟩ | rfl
      · have := split_mem b s x h
        simp only [List.length_cons]
        omega
      · have := split_mem b s y hy
        simp only [List.length_cons]
        omega
      · simp
theorem cut2_len (s w : List UInt8) : (cut2 s w).1.length ≤ s.length ∧ (cut2 s w).2.1.length ≤ s.length := by
  unfold cut2
  split
  · exact ⟨by simp; omega, by simp⟩
  · exact ⟨Nat.le_refl _, by simp⟩
set_option maxRecDepth 100000 in
set_option maxHeartbeats 16000000 in
/-- spec.ParseRecording, of another text -/
theorem k_sParse0 (s : List UInt8) (hl : s.length ≤ 1048576) (hno : ∀ xs, recsB xs = true → textO xs ≠ s) : Okw Try.prog 33 [.str s] (OutO ([], false)) := by
  refine ok_D hmix c_spec_ParseRecording (by simp) ?_
  unfold OutO
  have hs := k_l1Split s 10 (by omega)
  have hL0 := split_len 10 s
  have hLm := split_mem 10 s
  generalize splitB 10 s = L at *
  by_cases h5 : s.length ≤ 500
  · simp only [envOf, envFrom, go_sem, Nat.lt_add_one, reduceIte, Nat.reduceEqDiff, Nat.reduceAdd, Nat.reduceMul, Nat.reduceLeDiff]
    repeat' (first
      | (simp only [go_sem, reduceIte, Nat.reduceEqDiff, Nat.reduceBEq])
      | (simp (disch := omega) only [w64, nsub1])
      | (refine Rm_need (by first | exact True.intro | omega | (simp; omega)) ?_)
      | (refine Rm_o hs rfl (fun r H2 hh => ?_); obtain ⟨rfl, rfl⟩ := hh)
      | (refine Rm_gi (by first | omega | (simp; omega)) ?_)
      | (refine Rm_gb (by first | omega | (simp; omega)) ?_)
      | (refine Rm_ga (by first | omega | (simp; omega)) _ rfl (Nat.le_of_ble_eq_true rfl) ?_)
      | (refine Rm_gm (by first | omega | (simp; omega)) _ rfl ?_)
      | (refine Rm_part _ _ rfl rfl ?_)
      | (refine Rm_puti (by first | omega | (simp; omega)) rfl ?_)
      | (refine Dm_draw [] (by simp) ?_)
      | (refine Tm_both ?_ ?_)
      | (refine Tm_fin (by simp only [hideOK, newsE]; simp []) ?_)
      | (refine Cm_split (fun h => ?_) (fun h => ?_) <;> (try (simp only [beq_iff_eq, beq_eq_false_iff_ne, Bool.not_eq_true', Bool.not_eq_false', ne_eq] at h)) <;> (try omega))
      | (refine Gm_split (fun h => ?_) (fun h => ?_) <;> (try simp only [ne_eq, Bool.not_eq_true, Bool.not_eq_false] at h) <;> (try rw [h]) <;> (try (simp only [decide_eq_true_eq, decide_eq_false_iff_not, bne_iff_ne, beq_iff_eq, bne_eq_false_iff_eq, beq_eq_false_iff_ne, Bool.not_eq_true, Bool.not_eq_true', Bool.not_eq_false, Bool.not_eq_false', ne_eq, Bool.and_eq_true, Bool.or_eq_true, true_eq_decide_iff, false_eq_decide_iff] at h)) <;> (try omega))
      | (refine Sm_split (fun h => ?_) (fun h => ?_) <;> (try (simp only [decide_eq_true_eq, decide_eq_false_iff_not] at h)) <;> (try omega))
      | (exact ret_p rfl ⟨rfl, rfl⟩)
      | (refine ret_okv (by first | trivial | simp only [go_sem, detD, detDs, detP, and_self, and_true]) ?_)
      | (exact ret_gen _ _ _ rfl rfl rfl ⟨rfl, rfl⟩)
      | (simp only [Option.some.injEq, DV.tup.injEq, DV.p.injEq, List.cons.injEq, PV.int.injEq, PV.bool.injEq, PV.str.injEq, and_true, true_and])
      | rfl
      | (refine Bool.eq_iff_iff.2 ?_; simp only [decide_eq_true_eq, Bool.and_eq_true, Bool.or_eq_true, Bool.not_eq_true', decide_eq_false_iff_not, Bool.false_eq_true, beq_iff_eq, bne_iff_ne, ne_eq, false_iff, iff_false, true_iff, iff_true]; omega)
      | omega)
    all_goals try exact ret_gen _ _ _ rfl rfl rfl ⟨rfl, rfl⟩
    refine Dm_loop [0, 4, 5, 6] (fun m ds H' => ∃ (i : Nat) (Z : List Rcd), i + 1 ≤ L.length ∧ m = L.length - i ∧ Z.length = i ∧ (∀ r ∈ Z, r.hex.length ≤ 500) ∧
      ds = [.p (.str s), .own 0 0 Z.length, .own 1 0 L.length, .p (.int .i64 i)] ∧ H' = [.arr 58 2 (Z.map Rcd.pv), .arr 9 1 (L.map .str)]) L.length ⟨0, [], by omega, by omega, rfl, by simp, by rfl, by rfl⟩ ?_
    rintro m ds H' ⟨i, Z, hi, rfl, hZl, hZ, rfl, rfl⟩ -
    rcases Nat.lt_or_ge i (L.length - 1) with hlt | hge
    · have hx := hLm _ (getD_mem (d := default) (show i < L.length by omega))
      have hcut := k_l24Cut (L.getD i default) [32] (by omega) (by simp)
      have hcl := cut2_len (L.getD i default) [32]
      have hrd := k_l1Read (cut2 (L.getD i default) [32]).1 (by omega)
      generalize cut2 (L.getD i default) [32] = C at *
      obtain ⟨C1, C2, C3⟩ := C
      simp only [] at hcut hcl hrd
      generalize readO C1 = Q at *
      obtain ⟨Q1, Q2⟩ := Q
      simp only [] at hrd
      have hZ2 : ∀ r ∈ Z ++ [⟨Q1, C2⟩], r.hex.length ≤ 500 := fun r hr => by
        rcases List.mem_append.1 hr with hr | hr
        · exact hZ r hr
        · simp only [List.mem_singleton] at hr
          subst hr
          simp only []
          omega
      repeat' (first
        | (simp only [go_sem, Nat.lt_add_one, reduceIte, Nat.reduceEqDiff, Nat.reduceBEq, Nat.reduceAdd, Nat.reduceMul, Nat.reduceLeDiff])
        | (simp (disch := omega) only [w64, nsub1, nadd1, List.take_length])
        | (refine Rm_need (by first | exact True.intro | omega | (simp; omega)) ?_)
        | (refine Rm_w rfl (hcut) (by trivial) ?_)
        | (refine Rm_w ?_ (hcut) (by trivial) ?_; · (simp [viewOfs, viewOf, List.take_of_length_le, cutL]; done))
        | (refine Rm_w rfl (hrd) (by trivial) ?_)
        | (refine Rm_w ?_ (hrd) (by trivial) ?_; · (simp [viewOfs, viewOf, List.take_of_length_le, cutL]; done))
        | (rw [rcd_app])
        | (refine Rm_gi (by first | omega | (simp; omega)) ?_)
        | (refine Rm_gb (by first | omega | (simp; omega)) ?_)
        | (refine Rm_ga (by first | omega | (simp; omega)) _ rfl (Nat.le_of_ble_eq_true rfl) ?_)
        | (refine Rm_gm (by first | omega | (simp; omega)) _ rfl ?_)
        | (refine Rm_part _ _ rfl rfl ?_)
        | (refine Rm_puti (by first | omega | (simp; omega)) rfl ?_)
        | (refine Dm_draw [] (by simp) ?_)
        | (refine Tm_both ?_ ?_)
        | (refine Tm_fin (by simp only [hideOK, newsE]; simp []) ?_)
        | (refine Cm_split (fun h => ?_) (fun h => ?_) <;> (try (simp only [decide_eq_true_eq, decide_eq_false_iff_not, Bool.not_eq_true', Bool.not_eq_false'] at h)) <;> (try omega))
        | (refine Gm_split (fun h => ?_) (fun h => ?_) <;> (try simp only [ne_eq, Bool.not_eq_true, Bool.not_eq_false] at h) <;> (try rw [h]) <;> (try (simp only [decide_eq_true_eq, decide_eq_false_iff_not, bne_iff_ne, beq_iff_eq, bne_eq_false_iff_eq, beq_eq_false_iff_ne, Bool.not_eq_true, Bool.not_eq_true', Bool.not_eq_false, Bool.not_eq_false', ne_eq, Bool.and_eq_true, Bool.or_eq_true, true_eq_decide_iff, false_eq_decide_iff] at h)) <;> (try omega))
        | (refine Sm_split (fun h => ?_) (fun h => ?_) <;> (try (simp only [Bool.not_eq_true', Bool.not_eq_false'] at h)) <;> (try omega))
        | (exact ret_p rfl ⟨rfl, rfl⟩)
        | (refine ret_okv (by first | trivial | simp only [go_sem, detD, detDs, detP, and_self, and_true]) ?_)
        | (exact ret_gen _ _ _ rfl rfl rfl ⟨rfl, rfl⟩)
        | (simp only [Option.some.injEq, DV.tup.injEq, DV.p.injEq, List.cons.injEq, PV.int.injEq, PV.bool.injEq, PV.str.injEq, and_true, true_and])
        | rfl
        | (refine Bool.eq_iff_iff.2 ?_; simp only [decide_eq_true_eq, Bool.and_eq_true, Bool.or_eq_true, Bool.not_eq_true', decide_eq_false_iff_not, Bool.false_eq_true, beq_iff_eq, bne_iff_ne, ne_eq, false_iff, iff_false, true_iff, iff_true]; omega)
        | omega)
      all_goals first
        | exact ret_gen _ _ _ rfl rfl rfl ⟨rfl, rfl⟩
        | (refine Xm_inv_n (L.length - (i + 1)) (by omega) ⟨i + 1, Z ++ [⟨Q1, C2⟩], by omega, rfl, by simp; omega, hZ2, ?_, rfl⟩
           rw [List.length_append]; rfl)
        | skip
    · have hv := k_l25Good Z (by omega) (fun r hr => by have := hZ r hr; omega)
      cases hr : recsB Z
      · rw [hr] at hv
        repeat' (first
          | (simp only [go_sem, Nat.lt_add_one, reduceIte, Nat.reduceEqDiff, Nat.reduceBEq, Nat.reduceAdd, Nat.reduceMul, Nat.reduceLeDiff])
          | (simp (disch := omega) only [w64, nsub1])
          | (refine Rm_need (by first | exact True.intro | omega | (simp; omega)) ?_)
          | (refine Rm_w rfl (hv) (by trivial) ?_)
          | (refine Rm_w ?_ (hv) (by trivial) ?_; · (simp [viewOfs, viewOf, List.take_of_length_le]; done))
          | (refine Rm_gi (by first | omega | (simp; omega)) ?_)
          | (refine Rm_gb (by first | omega | (simp; omega)) ?_)
          | (refine Rm_ga (by first | omega | (simp; omega)) _ rfl (Nat.le_of_ble_eq_true rfl) ?_)
          | (refine Rm_gm (by first | omega | (simp; omega)) _ rfl ?_)
          | (refine Rm_part _ _ rfl rfl ?_)
          | (refine Rm_puti (by first | omega | (simp; omega)) rfl ?_)
          | (refine Dm_draw [] (by simp) ?_)
          | (refine Tm_both ?_ ?_)
          | (refine Tm_fin (by simp only [hideOK, newsE]; simp []) ?_)
          | (refine Cm_split (fun h => ?_) (fun h => ?_) <;> (try (simp only [decide_eq_true_eq, decide_eq_false_iff_not] at h)) <;> (try omega))
          | (refine Gm_split (fun h => ?_) (fun h => ?_) <;> (try simp only [ne_eq, Bool.not_eq_true, Bool.not_eq_false] at h) <;> (try rw [h]) <;> (try (simp only [decide_eq_true_eq, decide_eq_false_iff_not, bne_iff_ne, beq_iff_eq, bne_eq_false_iff_eq, beq_eq_false_iff_ne, Bool.not_eq_true, Bool.not_eq_true', Bool.not_eq_false, Bool.not_eq_false', ne_eq, Bool.and_eq_true, Bool.or_eq_true, true_eq_decide_iff, false_eq_decide_iff] at h)) <;> (try omega))
          | (refine Sm_split (fun h => ?_) (fun h => ?_) <;> (try (simp only [decide_eq_true_eq, decide_eq_false_iff_not, bne_iff_ne, beq_iff_eq, bne_eq_false_iff_eq, beq_eq_false_iff_ne, Bool.not_eq_true, Bool.not_eq_true', Bool.not_eq_false, Bool.not_eq_false', ne_eq, Bool.and_eq_true, Bool.or_eq_true, true_eq_decide_iff, false_eq_decide_iff] at h)) <;> (try omega))
          | (exact ret_p rfl ⟨rfl, rfl⟩)
          | (refine ret_okv (by first | trivial | simp only [go_sem, detD, detDs, detP, and_self, and_true]) ?_)
          | (exact ret_gen _ _ _ rfl rfl rfl ⟨rfl, rfl⟩)
          | (simp only [Option.some.injEq, DV.tup.injEq, DV.p.injEq, List.cons.injEq, PV.int.injEq, PV.bool.injEq, PV.str.injEq, and_true, true_and])
          | rfl
          | (refine Bool.eq_iff_iff.2 ?_; simp only [decide_eq_true_eq, Bool.and_eq_true, Bool.or_eq_true, Bool.not_eq_true', decide_eq_false_iff_not, Bool.false_eq_true, beq_iff_eq, bne_iff_ne, ne_eq, false_iff, iff_false, true_iff, iff_true]; omega)
          | omega)
        all_goals first
          | exact ret_gen _ _ _ rfl rfl rfl ⟨rfl, rfl⟩
          | skip
      · have htx := k_l25Text Z hr
        have hne := hno Z hr
        rw [hr] at hv
        generalize textO Z = T at *
        repeat' (first
          | (simp only [go_sem, Nat.lt_add_one, reduceIte, Nat.reduceEqDiff, Nat.reduceBEq, Nat.reduceAdd, Nat.reduceMul, Nat.reduceLeDiff])
          | (simp (disch := omega) only [w64, nsub1])
          | (refine Rm_need (by first | exact True.intro | omega | (simp; omega)) ?_)
          | (refine Rm_w rfl (hv) (by trivial) ?_)
          | (refine Rm_w ?_ (hv) (by trivial) ?_; · (simp [viewOfs, viewOf, List.take_of_length_le]; done))
          | (refine Rm_w rfl (htx) (by trivial) ?_)
          | (refine Rm_w ?_ (htx) (by trivial) ?_; · (simp [viewOfs, viewOf, List.take_of_length_le]; done))
          | (refine Rm_gi (by first | omega | (simp; omega)) ?_)
          | (refine Rm_gb (by first | omega | (simp; omega)) ?_)
          | (refine Rm_ga (by first | omega | (simp; omega)) _ rfl (Nat.le_of_ble_eq_true rfl) ?_)
          | (refine Rm_gm (by first | omega | (simp; omega)) _ rfl ?_)
          | (refine Rm_part _ _ rfl rfl ?_)
          | (refine Rm_puti (by first | omega | (simp; omega)) rfl ?_)
          | (refine Dm_draw [] (by simp) ?_)
          | (refine Tm_both ?_ ?_)
          | (refine Tm_fin (by simp only [hideOK, newsE]; simp []) ?_)
          | (refine Cm_split (fun h => ?_) (fun h => ?_) <;> (try (simp only [decide_eq_true_eq, decide_eq_false_iff_not, beq_iff_eq, beq_eq_false_iff_ne, Bool.not_eq_true', Bool.not_eq_false', ne_eq] at h)) <;> (try omega))
          | (refine Gm_split (fun h => ?_) (fun h => ?_) <;> (try simp only [ne_eq, Bool.not_eq_true, Bool.not_eq_false] at h) <;> (try rw [h]) <;> (try (simp only [decide_eq_true_eq, decide_eq_false_iff_not, bne_iff_ne, beq_iff_eq, bne_eq_false_iff_eq, beq_eq_false_iff_ne, Bool.not_eq_true, Bool.not_eq_true', Bool.not_eq_false, Bool.not_eq_false', ne_eq, Bool.and_eq_true, Bool.or_eq_true, true_eq_decide_iff, false_eq_decide_iff] at h)) <;> (try omega))
          | (refine Sm_split (fun h => ?_) (fun h => ?_) <;> (try (simp only [decide_eq_true_eq, decide_eq_false_iff_not, bne_iff_ne, beq_iff_eq, bne_eq_false_iff_eq, beq_eq_false_iff_ne, Bool.not_eq_true, Bool.not_eq_true', Bool.not_eq_false, Bool.not_eq_false', ne_eq, Bool.and_eq_true, Bool.or_eq_true, true_eq_decide_iff, false_eq_decide_iff] at h)) <;> (try omega))
          | (exact ret_p rfl ⟨rfl, rfl⟩)
          | (refine ret_okv (by first | trivial | simp only [go_sem, detD, detDs, detP, and_self, and_true]) ?_)
          | (exact ret_gen _ _ _ rfl rfl rfl ⟨rfl, rfl⟩)
          | (simp only [Option.some.injEq, DV.tup.injEq, DV.p.injEq, List.cons.injEq, PV.int.injEq, PV.bool.injEq, PV.str.injEq, and_true, true_and])
          | rfl
          | (refine Bool.eq_iff_iff.2 ?_; simp only [decide_eq_true_eq, Bool.and_eq_true, Bool.or_eq_true, Bool.not_eq_true', decide_eq_false_iff_not, Bool.false_eq_true, beq_iff_eq, bne_iff_ne, ne_eq, false_iff, iff_false, true_iff, iff_true]; omega)
          | omega)
        all_goals first
          | exact ret_gen _ _ _ rfl rfl rfl ⟨rfl, rfl⟩
          | (exfalso; exact hne (by assumption))
          | skip
  · simp only [envOf, envFrom, go_sem, Nat.lt_add_one, reduceIte, Nat.reduceEqDiff, Nat.reduceAdd, Nat.reduceMul, Nat.reduceLeDiff]
    repeat' (first
      | (simp only [go_sem, reduceIte, Nat.reduceEqDiff, Nat.reduceBEq])
      | (simp (disch := omega) only [w64, w8, bytesOf_cons, tmod10, tdiv10, tn48, nsub1, nadd1, nsub, nadd, nmul, List.take_length, Int.toNat_zero, Int.reduceAdd, Int.reduceSub, Int.reduceToNat, Int.reduceMul, Nat.sub_zero, Nat.min_self])
      | (refine Rm_need (by first | exact True.intro | omega | (simp; omega)) ?_)
      | (refine Rm_o hs rfl (fun r H2 hh => ?_); obtain ⟨rfl, rfl⟩ := hh)
      | (refine Rm_gi (by first | omega | (simp; omega)) ?_)
      | (refine Rm_gb (by first | omega | (simp; omega)) ?_)
      | (refine Rm_ga (by first | omega | (simp; omega)) _ rfl (Nat.le_of_ble_eq_true rfl) ?_)
      | (refine Rm_gm (by first | omega | (simp; omega)) _ rfl ?_)
      | (refine Rm_part _ _ rfl rfl ?_)
      | (refine Rm_puti (by first | omega | (simp; omega)) rfl ?_)
      | (refine Dm_draw [] (by simp) ?_)
      | (refine Tm_both ?_ ?_)
      | (refine Tm_fin (by simp only [hideOK, newsE]; simp []) ?_)
      | (refine Cm_split (fun h => ?_) (fun h => ?_) <;> (try (simp only [decide_eq_true_eq, decide_eq_false_iff_not, bne_iff_ne, beq_iff_eq, bne_eq_false_iff_eq, beq_eq_false_iff_ne, Bool.not_eq_true, Bool.not_eq_true', Bool.not_eq_false, Bool.not_eq_false', ne_eq, Bool.and_eq_true, Bool.or_eq_true, true_eq_decide_iff, false_eq_decide_iff] at h)) <;> (try omega))
      | (refine Gm_split (fun h => ?_) (fun h => ?_) <;> (try simp only [ne_eq, Bool.not_eq_true, Bool.not_eq_false] at h) <;> (try rw [h]) <;> (try (simp only [decide_eq_true_eq, decide_eq_false_iff_not, bne_iff_ne, beq_iff_eq, bne_eq_false_iff_eq, beq_eq_false_iff_ne, Bool.not_eq_true, Bool.not_eq_true', Bool.not_eq_false, Bool.not_eq_false', ne_eq, Bool.and_eq_true, Bool.or_eq_true, true_eq_decide_iff, false_eq_decide_iff] at h)) <;> (try omega))
      | (refine Sm_split (fun h => ?_) (fun h => ?_) <;> (try (simp only [decide_eq_true_eq, decide_eq_false_iff_not] at h)) <;> (try omega))
      | (exact ret_p rfl ⟨rfl, rfl⟩)
      | (refine ret_okv (by first | trivial | simp only [go_sem, detD, detDs, detP, and_self, and_true]) ?_)
      | (exact ret_gen _ _ _ rfl rfl rfl ⟨rfl, rfl⟩)
      | (simp only [Option.some.injEq, DV.tup.injEq, DV.p.injEq, List.cons.injEq, PV.int.injEq, PV.bool.injEq, PV.str.injEq, and_true, true_and])
      | rfl
      | (refine Bool.eq_iff_iff.2 ?_; simp only [decide_eq_true_eq, Bool.and_eq_true, Bool.or_eq_true, Bool.not_eq_true', decide_eq_false_iff_not, Bool.false_eq_true, beq_iff_eq, bne_iff_ne, ne_eq, false_iff, iff_false, true_iff, iff_true]; omega)
      | omega)
    all_goals first
      | exact ret_gen _ _ _ rfl rfl rfl ⟨rfl, rfl⟩
      | skip

theorem take_last {L : List (List UInt8)} (h0 : 0 < L.length) (h : L.getD (L.length - 1) default = []) : L = L.take (L.length - 1) ++ [[]] := by
  have := take_snoc (d := (default : List UInt8)) (l := L) (i := L.length - 1) (by omega)
  rw [h, show L.length - 1 + 1 = L.length from by omega, List.take_length] at this
  exact this
theorem two_words {s w0 w1 : List UInt8} (h : splitB 32 s = [w0, w1]) : s = w0 ++ 32 :: w1 := by
  have := join_split 32 s
  rw [h] at this
  exact this.symm
theorem len_two {W : List (List UInt8)} (h : W.length = 2) : W = [W.getD 0 default, W.getD 1 default] := by
  match W, h with
  | [a, b], _ => rfl
set_option maxRecDepth 100000 in
set_option maxHeartbeats 16000000 in
/-- impl.ParseRecording, of another text -/
theorem k_iParse0 (s : List UInt8) (hl : s.length ≤ 1048576) (hno : ∀ xs, recsB xs = true → textO xs ≠ s) : Okw Try.prog 34 [.str s] (OutN ([], false)) := by
  refine ok_D hmix c_impl_ParseRecording (by simp) ?_
  unfold OutN OutO
  have hs := k_split s 10 (by omega)
  have hL0 := split_len 10 s
  have hLm := split_mem 10 s
  have hjn := join_split 10 s
  generalize splitB 10 s = L at *
  simp only [envOf, envFrom, go_sem, reduceIte, Nat.reduceEqDiff]
  repeat' (first
    | (simp only [go_sem, reduceIte, Nat.reduceEqDiff, Nat.reduceBEq])
    | (simp (disch := omega) only [w64, nsub1, Nat.sub_zero])
    | (refine Rm_need (by first | exact True.intro | omega | (simp; omega)) ?_)
    | (refine Rm_o hs rfl (fun r H2 hh => ?_); obtain ⟨rfl, rfl⟩ := hh)
    | (refine Rm_gi (by first | omega | (simp; omega)) ?_)
    | (refine Rm_gb (by first | omega | (simp; omega)) ?_)
    | (refine Rm_ga (by first | omega | (simp; omega)) _ rfl (Nat.le_of_ble_eq_true rfl) ?_)
    | (refine Rm_gm (by first | omega | (simp; omega)) _ rfl ?_)
    | (refine Rm_part _ _ rfl rfl ?_)
    | (refine Rm_puti (by first | omega | (simp; omega)) rfl ?_)
    | (refine Dm_draw [] (by simp) ?_)
    | (refine Tm_both ?_ ?_)
    | (refine Tm_fin (by simp only [hideOK, newsE]; simp []) ?_)
    | (refine Cm_split (fun h => ?_) (fun h => ?_) <;> (try (simp only [decide_eq_true_eq, decide_eq_false_iff_not] at h)) <;> (try omega))
    | (refine Gm_split (fun h => ?_) (fun h => ?_) <;> (try simp only [ne_eq, Bool.not_eq_true, Bool.not_eq_false] at h) <;> (try rw [h]) <;> (try (simp only [decide_eq_true_eq, decide_eq_false_iff_not, bne_iff_ne, beq_iff_eq, bne_eq_false_iff_eq, beq_eq_false_iff_ne, Bool.not_eq_true, Bool.not_eq_true', Bool.not_eq_false, Bool.not_eq_false', ne_eq, Bool.and_eq_true, Bool.or_eq_true, true_eq_decide_iff, false_eq_decide_iff] at h)) <;> (try omega))
    | (refine Sm_split (fun h => ?_) (fun h => ?_) <;> (try (simp only [beq_iff_eq, beq_eq_false_iff_ne, Bool.not_eq_true', Bool.not_eq_false', ne_eq] at h)) <;> (try omega))
    | (exact ret_p rfl ⟨rfl, rfl⟩)
    | (refine ret_okv (by first | trivial | simp only [go_sem, detD, detDs, detP, and_self, and_true]) ?_)
    | (exact ret_gen _ _ _ rfl rfl rfl ⟨rfl, rfl⟩)
    | (simp only [Option.some.injEq, DV.tup.injEq, DV.p.injEq, List.cons.injEq, PV.int.injEq, PV.bool.injEq, PV.str.injEq, and_true, true_and])
    | rfl
    | (refine Bool.eq_iff_iff.2 ?_; simp only [decide_eq_true_eq, Bool.and_eq_true, Bool.or_eq_true, Bool.not_eq_true', decide_eq_false_iff_not, Bool.false_eq_true, beq_iff_eq, bne_iff_ne, ne_eq, false_iff, iff_false, true_iff, iff_true]; omega)
    | omega)
  all_goals try exact ret_gen _ _ _ rfl rfl rfl (.inr ⟨rfl, rfl⟩)
  have hlast := take_last (L := L) (by omega) (by assumption)
  have hn20 : L.length - 1 ≤ 20 := by omega
  refine Dm_loop [5, 30, 31, 32] (fun m ds H' => ∃ (i : Nat) (Z : List Rcd), i + 1 ≤ L.length ∧ m = L.length - i ∧ Z.length = i ∧ Z.map bodyO = L.take i ∧ (∀ r ∈ Z, r.hex.length ≤ 1048576) ∧
    ((Z = [] ∧ ds = [.nil, .own 0 0 (L.length - 1), .p (.int .i64 (L.length - 1 : Nat)), .p (.int .i64 i)] ∧ H' = [.arr 9 1 (L.map .str)]) ∨
     (ds = [.own 0 0 Z.length, .own 1 0 (L.length - 1), .p (.int .i64 (L.length - 1 : Nat)), .p (.int .i64 i)] ∧ H' = [.arr 58 2 (Z.map Rcd.pv), .arr 9 1 (L.map .str)]))) L.length ⟨0, [], by omega, by omega, rfl, rfl, by simp, .inl ⟨rfl, by rfl, by rfl⟩⟩ ?_
  rintro m ds H' ⟨i, Z, hi, rfl, hZl, hZb, hZ, hcase⟩ -
  rcases Nat.lt_or_ge i (L.length - 1) with hlt | hge
  · have hx := hLm _ (getD_mem (d := default) (show i < L.length by omega))
    have hw := k_split (L.getD i default) 32 (by omega)
    have hstep := take_snoc (d := (default : List UInt8)) (l := L) (i := i) (by omega)
    generalize hW : splitB 32 (L.getD i default) = W at *
    by_cases h2 : W.length = 2
    · have hW2 := len_two h2
      generalize W.getD 0 default = w0 at *
      generalize W.getD 1 default = w1 at *
      subst hW2
      have hline := two_words hW
      have hwl : w0.length + w1.length ≤ 1048576 := by
        have := congrArg List.length hline
        simp only [List.length_append, List.length_cons] at this
        omega
      have hnum := k_number w0 (by omega)
      have hnt := numO_true (s := w0)
      generalize numO w0 = Q at *
      obtain ⟨Q1, Q2⟩ := Q
      simp only [] at hnum hnt
      cases Q2
      · rcases hcase with ⟨rfl, rfl, rfl⟩ | ⟨rfl, rfl⟩
        · repeat' (first
            | (simp only [go_sem, reduceIte, Nat.reduceEqDiff, Nat.reduceAdd])
            | (simp (disch := omega) only [Int.toNat_zero])
            | (refine Rm_need (by first | exact True.intro | omega | (simp; omega)) ?_)
            | (refine Rm_o hw rfl (fun r H2 hh => ?_); obtain ⟨rfl, rfl⟩ := hh)
            | (refine Rm_w rfl (hnum) (by trivial) ?_)
            | (refine Rm_w ?_ (hnum) (by trivial) ?_; · (simp [viewOfs, viewOf, List.take_of_length_le, cutL]; done))
            | (refine Rm_gi (by first | omega | (simp; omega)) ?_)
            | (refine Rm_gb (by first | omega | (simp; omega)) ?_)
            | (refine Rm_ga (by first | omega | (simp; omega)) _ rfl (Nat.le_of_ble_eq_true rfl) ?_)
            | (refine Rm_gm (by first | omega | (simp; omega)) _ rfl ?_)
            | (refine Rm_part _ _ rfl rfl ?_)
            | (refine Rm_puti (by first | omega | (simp; omega)) rfl ?_)
            | (refine Dm_draw [] (by simp) ?_)
            | (refine Tm_both ?_ ?_)
            | (refine Tm_fin (by simp only [hideOK, newsE]; simp []) ?_)
            | (refine Cm_split (fun h => ?_) (fun h => ?_) <;> (try (simp only [decide_eq_true_eq, decide_eq_false_iff_not, bne_iff_ne, bne_eq_false_iff_eq, ne_eq] at h)) <;> (try omega))
            | (refine Gm_split (fun h => ?_) (fun h => ?_) <;> (try simp only [ne_eq, Bool.not_eq_true, Bool.not_eq_false] at h) <;> (try rw [h]) <;> (try (simp only [decide_eq_true_eq, decide_eq_false_iff_not, bne_iff_ne, beq_iff_eq, bne_eq_false_iff_eq, beq_eq_false_iff_ne, Bool.not_eq_true, Bool.not_eq_true', Bool.not_eq_false, Bool.not_eq_false', ne_eq, Bool.and_eq_true, Bool.or_eq_true, true_eq_decide_iff, false_eq_decide_iff] at h)) <;> (try omega))
            | (refine Sm_split (fun h => ?_) (fun h => ?_) <;> (try (simp only [decide_eq_true_eq, decide_eq_false_iff_not, bne_iff_ne, beq_iff_eq, bne_eq_false_iff_eq, beq_eq_false_iff_ne, Bool.not_eq_true, Bool.not_eq_true', Bool.not_eq_false, Bool.not_eq_false', ne_eq, Bool.and_eq_true, Bool.or_eq_true, true_eq_decide_iff, false_eq_decide_iff] at h)) <;> (try omega))
            | (exact ret_p rfl ⟨rfl, rfl⟩)
            | (refine ret_okv (by first | trivial | simp only [go_sem, detD, detDs, detP, and_self, and_true]) ?_)
            | (exact ret_gen _ _ _ rfl rfl rfl ⟨rfl, rfl⟩)
            | (simp only [Option.some.injEq, DV.tup.injEq, DV.p.injEq, List.cons.injEq, PV.int.injEq, PV.bool.injEq, PV.str.injEq, and_true, true_and])
            | rfl
            | (refine Bool.eq_iff_iff.2 ?_; simp only [decide_eq_true_eq, Bool.and_eq_true, Bool.or_eq_true, Bool.not_eq_true', decide_eq_false_iff_not, Bool.false_eq_true, beq_iff_eq, bne_iff_ne, ne_eq, false_iff, iff_false, true_iff, iff_true]; omega)
            | omega)
          all_goals exact ret_gen _ _ _ rfl rfl rfl (.inr ⟨rfl, rfl⟩)
        · repeat' (first
            | (simp only [go_sem, reduceIte, Nat.reduceEqDiff, Nat.reduceAdd])
            | (simp (disch := omega) only [Int.toNat_zero])
            | (refine Rm_need (by first | exact True.intro | omega | (simp; omega)) ?_)
            | (refine Rm_o hw rfl (fun r H2 hh => ?_); obtain ⟨rfl, rfl⟩ := hh)
            | (refine Rm_w rfl (hnum) (by trivial) ?_)
            | (refine Rm_w ?_ (hnum) (by trivial) ?_; · (simp [viewOfs, viewOf, List.take_of_length_le, cutL]; done))
            | (refine Rm_gi (by first | omega | (simp; omega)) ?_)
            | (refine Rm_gb (by first | omega | (simp; omega)) ?_)
            | (refine Rm_ga (by first | omega | (simp; omega)) _ rfl (Nat.le_of_ble_eq_true rfl) ?_)
            | (refine Rm_gm (by first | omega | (simp; omega)) _ rfl ?_)
            | (refine Rm_part _ _ rfl rfl ?_)
            | (refine Rm_puti (by first | omega | (simp; omega)) rfl ?_)
            | (refine Dm_draw [] (by simp) ?_)
            | (refine Tm_both ?_ ?_)
            | (refine Tm_fin (by simp only [hideOK, newsE]; simp []) ?_)
            | (refine Cm_split (fun h => ?_) (fun h => ?_) <;> (try (simp only [decide_eq_true_eq, decide_eq_false_iff_not, bne_iff_ne, bne_eq_false_iff_eq, ne_eq] at h)) <;> (try omega))
            | (refine Gm_split (fun h => ?_) (fun h => ?_) <;> (try simp only [ne_eq, Bool.not_eq_true, Bool.not_eq_false] at h) <;> (try rw [h]) <;> (try (simp only [decide_eq_true_eq, decide_eq_false_iff_not, bne_iff_ne, beq_iff_eq, bne_eq_false_iff_eq, beq_eq_false_iff_ne, Bool.not_eq_true, Bool.not_eq_true', Bool.not_eq_false, Bool.not_eq_false', ne_eq, Bool.and_eq_true, Bool.or_eq_true, true_eq_decide_iff, false_eq_decide_iff] at h)) <;> (try omega))
            | (refine Sm_split (fun h => ?_) (fun h => ?_) <;> (try (simp only [decide_eq_true_eq, decide_eq_false_iff_not, bne_iff_ne, beq_iff_eq, bne_eq_false_iff_eq, beq_eq_false_iff_ne, Bool.not_eq_true, Bool.not_eq_true', Bool.not_eq_false, Bool.not_eq_false', ne_eq, Bool.and_eq_true, Bool.or_eq_true, true_eq_decide_iff, false_eq_decide_iff] at h)) <;> (try omega))
            | (exact ret_p rfl ⟨rfl, rfl⟩)
            | (refine ret_okv (by first | trivial | simp only [go_sem, detD, detDs, detP, and_self, and_true]) ?_)
            | (exact ret_gen _ _ _ rfl rfl rfl ⟨rfl, rfl⟩)
            | (simp only [Option.some.injEq, DV.tup.injEq, DV.p.injEq, List.cons.injEq, PV.int.injEq, PV.bool.injEq, PV.str.injEq, and_true, true_and])
            | rfl
            | (refine Bool.eq_iff_iff.2 ?_; simp only [decide_eq_true_eq, Bool.and_eq_true, Bool.or_eq_true, Bool.not_eq_true', decide_eq_false_iff_not, Bool.false_eq_true, beq_iff_eq, bne_iff_ne, ne_eq, false_iff, iff_false, true_iff, iff_true]; omega)
            | omega)
          all_goals exact ret_gen _ _ _ rfl rfl rfl (.inr ⟨rfl, rfl⟩)
      · obtain ⟨n, hn1, hn2, hn3⟩ := hnt rfl
        have hQ : Q1 = n := by simpa using hn2
        subst hQ
        have hbody : bodyO ⟨(n : Int), w1⟩ = L.getD i default := by
          rw [hline, hn1, bodyO, num_dec (by simp only []; omega), Int.toNat_natCast]
        have hZ2 : ∀ r ∈ Z ++ [⟨(n : Int), w1⟩], r.hex.length ≤ 1048576 := fun r hr => by
          rcases List.mem_append.1 hr with hr | hr
          · exact hZ r hr
          · simp only [List.mem_singleton] at hr
            subst hr
            simp only []
            omega
        have hZb2 : (Z ++ [(⟨(n : Int), w1⟩ : Rcd)]).map bodyO = L.take (i + 1) := by rw [List.map_append, hZb, hstep, List.map_cons, hbody]; rfl
        clear hn1 hn2 hline
        rcases hcase with ⟨rfl, rfl, rfl⟩ | ⟨rfl, rfl⟩
        · repeat' (first
            | (simp only [go_sem, Nat.lt_add_one, reduceIte, Nat.reduceEqDiff, Nat.reduceAdd, Nat.reduceMul, Nat.reduceLeDiff])
            | (simp (disch := omega) only [w64, nadd1, Int.toNat_zero, Int.reduceToNat])
            | (refine Rm_need (by first | exact True.intro | omega | (simp; omega)) ?_)
            | (refine Rm_o hw rfl (fun r H2 hh => ?_); obtain ⟨rfl, rfl⟩ := hh)
            | (refine Rm_w rfl (hnum) (by trivial) ?_)
            | (refine Rm_w ?_ (hnum) (by trivial) ?_; · (simp [viewOfs, viewOf, List.take_of_length_le, cutL]; done))
            | (rw [rcd_row])
            | (refine Rm_gi (by first | omega | (simp; omega)) ?_)
            | (refine Rm_gb (by first | omega | (simp; omega)) ?_)
            | (refine Rm_ga (by first | omega | (simp; omega)) _ rfl (Nat.le_of_ble_eq_true rfl) ?_)
            | (refine Rm_gm (by first | omega | (simp; omega)) _ rfl ?_)
            | (refine Rm_part _ _ rfl rfl ?_)
            | (refine Rm_puti (by first | omega | (simp; omega)) rfl ?_)
            | (refine Dm_draw [] (by simp) ?_)
            | (refine Tm_both ?_ ?_)
            | (refine Tm_fin (by simp only [hideOK, newsE]; simp []) ?_)
            | (refine Cm_split (fun h => ?_) (fun h => ?_) <;> (try (simp only [decide_eq_true_eq, decide_eq_false_iff_not, bne_iff_ne, bne_eq_false_iff_eq, ne_eq] at h)) <;> (try omega))
            | (refine Gm_split (fun h => ?_) (fun h => ?_) <;> (try simp only [ne_eq, Bool.not_eq_true, Bool.not_eq_false] at h) <;> (try rw [h]) <;> (try (simp only [decide_eq_true_eq, decide_eq_false_iff_not, bne_iff_ne, beq_iff_eq, bne_eq_false_iff_eq, beq_eq_false_iff_ne, Bool.not_eq_true, Bool.not_eq_true', Bool.not_eq_false, Bool.not_eq_false', ne_eq, Bool.and_eq_true, Bool.or_eq_true, true_eq_decide_iff, false_eq_decide_iff] at h)) <;> (try omega))
            | (refine Sm_split (fun h => ?_) (fun h => ?_) <;> (try (simp only [decide_eq_true_eq, decide_eq_false_iff_not, bne_iff_ne, beq_iff_eq, bne_eq_false_iff_eq, beq_eq_false_iff_ne, Bool.not_eq_true, Bool.not_eq_true', Bool.not_eq_false, Bool.not_eq_false', ne_eq, Bool.and_eq_true, Bool.or_eq_true, true_eq_decide_iff, false_eq_decide_iff] at h)) <;> (try omega))
            | (exact ret_p rfl ⟨rfl, rfl⟩)
            | (refine ret_okv (by first | trivial | simp only [go_sem, detD, detDs, detP, and_self, and_true]) ?_)
            | (exact ret_gen _ _ _ rfl rfl rfl ⟨rfl, rfl⟩)
            | (simp only [Option.some.injEq, DV.tup.injEq, DV.p.injEq, List.cons.injEq, PV.int.injEq, PV.bool.injEq, PV.str.injEq, and_true, true_and])
            | rfl
            | (refine Bool.eq_iff_iff.2 ?_; simp only [decide_eq_true_eq, Bool.and_eq_true, Bool.or_eq_true, Bool.not_eq_true', decide_eq_false_iff_not, Bool.false_eq_true, beq_iff_eq, bne_iff_ne, ne_eq, false_iff, iff_false, true_iff, iff_true]; omega)
            | omega)
          all_goals first
            | (refine Xm_inv_n (L.length - (i + 1)) (by omega) ⟨i + 1, [⟨(n : Int), w1⟩], by omega, rfl, by simp at hZl ⊢; omega, hZb2, hZ2, .inr ⟨by rfl, by rfl⟩⟩)
            | skip
        · repeat' (first
            | (simp only [go_sem, Nat.lt_add_one, reduceIte, Nat.reduceEqDiff, Nat.reduceAdd, Nat.reduceMul, Nat.reduceLeDiff])
            | (simp (disch := omega) only [w64, nadd1, List.take_length, Int.toNat_zero, Int.reduceToNat])
            | (refine Rm_need (by first | exact True.intro | omega | (simp; omega)) ?_)
            | (refine Rm_o hw rfl (fun r H2 hh => ?_); obtain ⟨rfl, rfl⟩ := hh)
            | (refine Rm_w rfl (hnum) (by trivial) ?_)
            | (refine Rm_w ?_ (hnum) (by trivial) ?_; · (simp [viewOfs, viewOf, List.take_of_length_le, cutL]; done))
            | (rw [rcd_app])
            | (refine Rm_gi (by first | omega | (simp; omega)) ?_)
            | (refine Rm_gb (by first | omega | (simp; omega)) ?_)
            | (refine Rm_ga (by first | omega | (simp; omega)) _ rfl (Nat.le_of_ble_eq_true rfl) ?_)
            | (refine Rm_gm (by first | omega | (simp; omega)) _ rfl ?_)
            | (refine Rm_part _ _ rfl rfl ?_)
            | (refine Rm_puti (by first | omega | (simp; omega)) rfl ?_)
            | (refine Dm_draw [] (by simp) ?_)
            | (refine Tm_both ?_ ?_)
            | (refine Tm_fin (by simp only [hideOK, newsE]; simp []) ?_)
            | (refine Cm_split (fun h => ?_) (fun h => ?_) <;> (try (simp only [decide_eq_true_eq, decide_eq_false_iff_not, bne_iff_ne, bne_eq_false_iff_eq, ne_eq] at h)) <;> (try omega))
            | (refine Gm_split (fun h => ?_) (fun h => ?_) <;> (try simp only [ne_eq, Bool.not_eq_true, Bool.not_eq_false] at h) <;> (try rw [h]) <;> (try (simp only [decide_eq_true_eq, decide_eq_false_iff_not, bne_iff_ne, beq_iff_eq, bne_eq_false_iff_eq, beq_eq_false_iff_ne, Bool.not_eq_true, Bool.not_eq_true', Bool.not_eq_false, Bool.not_eq_false', ne_eq, Bool.and_eq_true, Bool.or_eq_true, true_eq_decide_iff, false_eq_decide_iff] at h)) <;> (try omega))
            | (refine Sm_split (fun h => ?_) (fun h => ?_) <;> (try (simp only [decide_eq_true_eq, decide_eq_false_iff_not, bne_iff_ne, beq_iff_eq, bne_eq_false_iff_eq, beq_eq_false_iff_ne, Bool.not_eq_true, Bool.not_eq_true', Bool.not_eq_false, Bool.not_eq_false', ne_eq, Bool.and_eq_true, Bool.or_eq_true, true_eq_decide_iff, false_eq_decide_iff] at h)) <;> (try omega))
            | (exact ret_p rfl ⟨rfl, rfl⟩)
            | (refine ret_okv (by first | trivial | simp only [go_sem, detD, detDs, detP, and_self, and_true]) ?_)
            | (exact ret_gen _ _ _ rfl rfl rfl ⟨rfl, rfl⟩)
            | (simp only [Option.some.injEq, DV.tup.injEq, DV.p.injEq, List.cons.injEq, PV.int.injEq, PV.bool.injEq, PV.str.injEq, and_true, true_and])
            | rfl
            | (refine Bool.eq_iff_iff.2 ?_; simp only [decide_eq_true_eq, Bool.and_eq_true, Bool.or_eq_true, Bool.not_eq_true', decide_eq_false_iff_not, Bool.false_eq_true, beq_iff_eq, bne_iff_ne, ne_eq, false_iff, iff_false, true_iff, iff_true]; omega)
            | omega)
          all_goals first
            | (refine Xm_inv_n (L.length - (i + 1)) (by omega) ⟨i + 1, Z ++ [⟨(n : Int), w1⟩], by omega, rfl, by simp; omega, hZb2, hZ2, .inr ⟨by rw [List.length_append]; rfl, by rfl⟩⟩)
            | skip
    · have h2n : ¬ ((W.length : Nat) : Int) = 2 := by omega
      rcases hcase with ⟨rfl, rfl, rfl⟩ | ⟨rfl, rfl⟩
      · repeat' (first
          | (simp only [go_sem, reduceIte, Nat.reduceEqDiff])
          | (simp (disch := omega) only [w64, w8, bytesOf_cons, tmod10, tdiv10, tn48, nsub1, nadd1, nsub, nadd, nmul, List.take_length, Int.toNat_zero, Int.reduceAdd, Int.reduceSub, Int.reduceToNat, Int.reduceMul, Nat.sub_zero, Nat.min_self])
          | (refine Rm_need (by first | exact True.intro | omega | (simp; omega)) ?_)
          | (refine Rm_o hw rfl (fun r H2 hh => ?_); obtain ⟨rfl, rfl⟩ := hh)
          | (refine Rm_gi (by first | omega | (simp; omega)) ?_)
          | (refine Rm_gb (by first | omega | (simp; omega)) ?_)
          | (refine Rm_ga (by first | omega | (simp; omega)) _ rfl (Nat.le_of_ble_eq_true rfl) ?_)
          | (refine Rm_gm (by first | omega | (simp; omega)) _ rfl ?_)
          | (refine Rm_part _ _ rfl rfl ?_)
          | (refine Rm_puti (by first | omega | (simp; omega)) rfl ?_)
          | (refine Dm_draw [] (by simp) ?_)
          | (refine Tm_both ?_ ?_)
          | (refine Tm_fin (by simp only [hideOK, newsE]; simp []) ?_)
          | (refine Cm_split (fun h => ?_) (fun h => ?_) <;> (try (simp only [decide_eq_true_eq, decide_eq_false_iff_not, bne_iff_ne, bne_eq_false_iff_eq, ne_eq] at h)) <;> (try omega))
          | (refine Gm_split (fun h => ?_) (fun h => ?_) <;> (try simp only [ne_eq, Bool.not_eq_true, Bool.not_eq_false] at h) <;> (try rw [h]) <;> (try (simp only [decide_eq_true_eq, decide_eq_false_iff_not, bne_iff_ne, beq_iff_eq, bne_eq_false_iff_eq, beq_eq_false_iff_ne, Bool.not_eq_true, Bool.not_eq_true', Bool.not_eq_false, Bool.not_eq_false', ne_eq, Bool.and_eq_true, Bool.or_eq_true, true_eq_decide_iff, false_eq_decide_iff] at h)) <;> (try omega))
          | (refine Sm_split (fun h => ?_) (fun h => ?_) <;> (try (simp only [decide_eq_true_eq, decide_eq_false_iff_not, bne_iff_ne, beq_iff_eq, bne_eq_false_iff_eq, beq_eq_false_iff_ne, Bool.not_eq_true, Bool.not_eq_true', Bool.not_eq_false, Bool.not_eq_false', ne_eq, Bool.and_eq_true, Bool.or_eq_true, true_eq_decide_iff, false_eq_decide_iff] at h)) <;> (try omega))
          | (exact ret_p rfl ⟨rfl, rfl⟩)
          | (refine ret_okv (by first | trivial | simp only [go_sem, detD, detDs, detP, and_self, and_true]) ?_)
          | (exact ret_gen _ _ _ rfl rfl rfl ⟨rfl, rfl⟩)
          | (simp only [Option.some.injEq, DV.tup.injEq, DV.p.injEq, List.cons.injEq, PV.int.injEq, PV.bool.injEq, PV.str.injEq, and_true, true_and])
          | rfl
          | (refine Bool.eq_iff_iff.2 ?_; simp only [decide_eq_true_eq, Bool.and_eq_true, Bool.or_eq_true, Bool.not_eq_true', decide_eq_false_iff_not, Bool.false_eq_true, beq_iff_eq, bne_iff_ne, ne_eq, false_iff, iff_false, true_iff, iff_true]; omega)
          | omega)
        all_goals exact ret_gen _ _ _ rfl rfl rfl (.inr ⟨rfl, rfl⟩)
      · repeat' (first
          | (simp only [go_sem, reduceIte, Nat.reduceEqDiff, Nat.reduceAdd])
          | (simp (disch := omega) only [w64, w8, bytesOf_cons, tmod10, tdiv10, tn48, nsub1, nadd1, nsub, nadd, nmul, List.take_length, Int.toNat_zero, Int.reduceAdd, Int.reduceSub, Int.reduceToNat, Int.reduceMul, Nat.sub_zero, Nat.min_self])
          | (refine Rm_need (by first | exact True.intro | omega | (simp; omega)) ?_)
          | (refine Rm_o hw rfl (fun r H2 hh => ?_); obtain ⟨rfl, rfl⟩ := hh)
          | (refine Rm_gi (by first | omega | (simp; omega)) ?_)
          | (refine Rm_gb (by first | omega | (simp; omega)) ?_)
          | (refine Rm_ga (by first | omega | (simp; omega)) _ rfl (Nat.le_of_ble_eq_true rfl) ?_)
          | (refine Rm_gm (by first | omega | (simp; omega)) _ rfl ?_)
          | (refine Rm_part _ _ rfl rfl ?_)
          | (refine Rm_puti (by first | omega | (simp; omega)) rfl ?_)
          | (refine Dm_draw [] (by simp) ?_)
          | (refine Tm_both ?_ ?_)
          | (refine Tm_fin (by simp only [hideOK, newsE]; simp []) ?_)
          | (refine Cm_split (fun h => ?_) (fun h => ?_) <;> (try (simp only [decide_eq_true_eq, decide_eq_false_iff_not, bne_iff_ne, bne_eq_false_iff_eq, ne_eq] at h)) <;> (try omega))
          | (refine Gm_split (fun h => ?_) (fun h => ?_) <;> (try simp only [ne_eq, Bool.not_eq_true, Bool.not_eq_false] at h) <;> (try rw [h]) <;> (try (simp only [decide_eq_true_eq, decide_eq_false_iff_not, bne_iff_ne, beq_iff_eq, bne_eq_false_iff_eq, beq_eq_false_iff_ne, Bool.not_eq_true, Bool.not_eq_true', Bool.not_eq_false, Bool.not_eq_false', ne_eq, Bool.and_eq_true, Bool.or_eq_true, true_eq_decide_iff, false_eq_decide_iff] at h)) <;> (try omega))
          | (refine Sm_split (fun h => ?_) (fun h => ?_) <;> (try (simp only [decide_eq_true_eq, decide_eq_false_iff_not, bne_iff_ne, beq_iff_eq, bne_eq_false_iff_eq, beq_eq_false_iff_ne, Bool.not_eq_true, Bool.not_eq_true', Bool.not_eq_false, Bool.not_eq_false', ne_eq, Bool.and_eq_true, Bool.or_eq_true, true_eq_decide_iff, false_eq_decide_iff] at h)) <;> (try omega))
          | (exact ret_p rfl ⟨rfl, rfl⟩)
          | (refine ret_okv (by first | trivial | simp only [go_sem, detD, detDs, detP, and_self, and_true]) ?_)
          | (exact ret_gen _ _ _ rfl rfl rfl ⟨rfl, rfl⟩)
          | (simp only [Option.some.injEq, DV.tup.injEq, DV.p.injEq, List.cons.injEq, PV.int.injEq, PV.bool.injEq, PV.str.injEq, and_true, true_and])
          | rfl
          | (refine Bool.eq_iff_iff.2 ?_; simp only [decide_eq_true_eq, Bool.and_eq_true, Bool.or_eq_true, Bool.not_eq_true', decide_eq_false_iff_not, Bool.false_eq_true, beq_iff_eq, bne_iff_ne, ne_eq, false_iff, iff_false, true_iff, iff_true]; omega)
          | omega)
        all_goals exact ret_gen _ _ _ rfl rfl rfl (.inr ⟨rfl, rfl⟩)
  · have hi2 : i = L.length - 1 := by omega
    have hall : recsB Z = false := by
      cases hr : recsB Z
      · rfl
      · exfalso
        refine hno Z hr ?_
        rw [text_lines, hZb, ← hjn]
        rw [hi2]
        conv => rhs; rw [hlast]
        rw [join_lines]
    have hv := k_iRecs Z (by omega) (fun r hr => by have := hZ r hr; omega)
    rw [hall] at hv
    rcases hcase with ⟨rfl, rfl, rfl⟩ | ⟨rfl, rfl⟩
    · simp [recsB, recsTo] at hall
    · repeat' (first
        | (simp only [go_sem, reduceIte, Nat.reduceEqDiff])
        | (simp (disch := omega) only [w64, w8, bytesOf_cons, tmod10, tdiv10, tn48, nsub1, nadd1, nsub, nadd, nmul, List.take_length, Int.toNat_zero, Int.reduceAdd, Int.reduceSub, Int.reduceToNat, Int.reduceMul, Nat.sub_zero, Nat.min_self])
        | (refine Rm_need (by first | exact True.intro | omega | (simp; omega)) ?_)
        | (refine Rm_w rfl (hv) (by trivial) ?_)
        | (refine Rm_w ?_ (hv) (by trivial) ?_; · (simp [viewOfs, viewOf, List.take_of_length_le]; done))
        | (refine Rm_gi (by first | omega | (simp; omega)) ?_)
        | (refine Rm_gb (by first | omega | (simp; omega)) ?_)
        | (refine Rm_ga (by first | omega | (simp; omega)) _ rfl (Nat.le_of_ble_eq_true rfl) ?_)
        | (refine Rm_gm (by first | omega | (simp; omega)) _ rfl ?_)
        | (refine Rm_part _ _ rfl rfl ?_)
        | (refine Rm_puti (by first | omega | (simp; omega)) rfl ?_)
        | (refine Dm_draw [] (by simp) ?_)
        | (refine Tm_both ?_ ?_)
        | (refine Tm_fin (by simp only [hideOK, newsE]; simp []) ?_)
        | (refine Cm_split (fun h => ?_) (fun h => ?_) <;> (try (simp only [decide_eq_true_eq, decide_eq_false_iff_not] at h)) <;> (try omega))
        | (refine Gm_split (fun h => ?_) (fun h => ?_) <;> (try simp only [ne_eq, Bool.not_eq_true, Bool.not_eq_false] at h) <;> (try rw [h]) <;> (try (simp only [decide_eq_true_eq, decide_eq_false_iff_not, bne_iff_ne, beq_iff_eq, bne_eq_false_iff_eq, beq_eq_false_iff_ne, Bool.not_eq_true, Bool.not_eq_true', Bool.not_eq_false, Bool.not_eq_false', ne_eq, Bool.and_eq_true, Bool.or_eq_true, true_eq_decide_iff, false_eq_decide_iff] at h)) <;> (try omega))
        | (refine Sm_split (fun h => ?_) (fun h => ?_) <;> (try (simp only [decide_eq_true_eq, decide_eq_false_iff_not, bne_iff_ne, beq_iff_eq, bne_eq_false_iff_eq, beq_eq_false_iff_ne, Bool.not_eq_true, Bool.not_eq_true', Bool.not_eq_false, Bool.not_eq_false', ne_eq, Bool.and_eq_true, Bool.or_eq_true, true_eq_decide_iff, false_eq_decide_iff] at h)) <;> (try omega))
        | (exact ret_p rfl ⟨rfl, rfl⟩)
        | (refine ret_okv (by first | trivial | simp only [go_sem, detD, detDs, detP, and_self, and_true]) ?_)
        | (exact ret_gen _ _ _ rfl rfl rfl ⟨rfl, rfl⟩)
        | (simp only [Option.some.injEq, DV.tup.injEq, DV.p.injEq, List.cons.injEq, PV.int.injEq, PV.bool.injEq, PV.str.injEq, and_true, true_and])
        | rfl
        | (refine Bool.eq_iff_iff.2 ?_; simp only [decide_eq_true_eq, Bool.and_eq_true, Bool.or_eq_true, Bool.not_eq_true', decide_eq_false_iff_not, Bool.false_eq_true, beq_iff_eq, bne_iff_ne, ne_eq, false_iff, iff_false, true_iff, iff_true]; omega)
        | omega)
      all_goals exact ret_gen _ _ _ rfl rfl rfl (.inr ⟨rfl, rfl⟩)
end Go.Proofs.Ytgpalnoopmjlpaa

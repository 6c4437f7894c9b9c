import Derived.Test.YtchekagoaidlpaaSp12
namespace Go.Proofs.Ytchekagoaidlpaa
open Go.Dv Go.Dv.EvL
attribute [local irreducible] Ok Rm Dm Om Sm Xm Cm Gm Hm Tm

theorem cut2_len (s w : Txt) : (cut2 s w).1.length ≤ s.length ∧ (cut2 s w).2.1.length ≤ s.length := by
  unfold cut2
  split
  · simp only [List.length_take, List.length_drop]; omega
  · simp
theorem trims_mem {ps : List Txt} {r : Txt} {k : Nat} (h : r ∈ trims ps) (hk : ∀ q ∈ ps, q.length ≤ k) : r.length ≤ k := by
  cases ps with
  | nil => simp [trims] at h
  | cons p ps =>
    simp only [trims, List.mem_cons, List.mem_map] at h
    rcases h with rfl | ⟨q, hq, rfl⟩
    · exact hk _ (by simp)
    · have := hk q (by simp [hq])
      rw [List.length_drop]
      omega
theorem split_mem {b : UInt8} {s q : Txt} (h : q ∈ splitB b s) : q.length ≤ s.length := by
  obtain ⟨i, hi, rfl⟩ := List.mem_iff_getElem.1 h
  have h3 := s_one hi
  have h4 := split_sum b s
  simp only [List.getD_eq_getElem?_getD, List.getElem?_eq_getElem hi, Option.getD_some] at h3
  omega
theorem spR_fits {r : Txt} (h : r.length ≤ 150) : (spR r).length ≤ 200 ∧ ∀ q ∈ spR r, q.length ≤ 150 := by
  unfold spR
  split
  · simp
  · have h1 := cut2_len (r.take (r.length - 1)) andW
    have h2 : (r.take (r.length - 1)).length ≤ r.length := by rw [List.length_take]; omega
    generalize cut2 (r.take (r.length - 1)) andW = C at *
    obtain ⟨c1, c2, c3⟩ := C
    simp only [] at *
    have h3 := (split_len 44 c1).1
    refine ⟨?_, fun q hq => ?_⟩
    · rw [List.length_append, trims_len]
      split <;> simp <;> omega
    · rw [List.mem_append] at hq
      rcases hq with hq | hq
      · exact trims_mem hq fun q hq => by have := split_mem hq; omega
      · split at hq
        · rw [List.mem_singleton] at hq
          subst hq
          omega
        · simp at hq
theorem spX_fits (s : Txt) (h : s.length ≤ 150) : StFits (spX s) := by
  have a1 := cut2_len s isAt
  have a2 := cut2_len (spA s).2.1 reach
  have a3 := cut2_len (spB s).2.1 atW
  have a4 := cut2_len (spD s) goW
  unfold spD spC spB spA at a4
  unfold spB spA at a3
  unfold spA at a2
  have a5 := spR_fits (r := (cut2 (spD s) goW).2.1) (by unfold spD spC spB spA; omega)
  refine ⟨?_, ?_, fun r hr => ?_⟩
  · rw [spX_nm]; unfold spA; omega
  · rw [spX_rt, List.length_cons]; omega
  · rw [spX_rt, List.mem_cons] at hr
    rcases hr with rfl | hr
    · unfold spC spB spA; omega
    · exact Nat.le_trans (a5.2 r hr) (by omega)
theorem take_cut2 {d : Txt} (h : 6 ≤ d.length) : (d.take 2).length = 2 ∧ (cutL d 3 5).length = 2 := by
  unfold cutL
  simp only [List.length_take, List.length_drop]
  omega
set_option maxRecDepth 100000 in
set_option maxHeartbeats 16000000 in
/-- spec.ParseStrip -/
theorem k_sParseStrip (s : Txt) (hl : s.length ≤ 1048576) : Okw Try.prog 42 [.str s] (OutS (sParse s)) := by
  refine ok_D hmix c_spec_ParseStrip (by simp) ?_
  have c1 := k_l24Cut s isAt (by omega) (by decide)
  have n1 := cut2_len s isAt
  have c2 := k_l24Cut (spA s).2.1 reach (by unfold spA; omega) (by decide)
  have n2 := cut2_len (spA s).2.1 reach
  have c3 := k_l24Cut (spB s).2.1 atW (by unfold spA at n2; unfold spB spA; omega) (by decide)
  have n3 := cut2_len (spB s).2.1 atW
  have c4 := k_l24Cut (spD s) goW (by unfold spB spA at n3; unfold spA at n2; unfold spD spC spB spA; omega) (by decide)
  have n4 := cut2_len (spD s) goW
  have hir : sParse s = if s.length ≤ 150 ∧ (spA s).2.2 = true ∧ (spB s).2.2 = true ∧ (spC s).2.2 = true ∧ 6 ≤ (spD s).length ∧ stB (spX s) = true ∧ stT (spX s) = s then some (spX s) else none := rfl
  have hXX : spX s = ⟨(spA s).1, (chkH (spB s).1 (hgS (spB s).1)).1, (spC s).1 :: spR (cut2 (spD s) goW).2.1, 60 * dig2 ((spD s).take 2) + dig2 (cutL (spD s) 3 5)⟩ := rfl
  have hfit := fun h => spX_fits s h
  have hB : cut2 (spA s).2.1 reach = spB s := rfl
  have hC : cut2 (spB s).2.1 atW = spC s := rfl
  have hA : cut2 s isAt = spA s := rfl
  have hD : spD s = (spC s).2.1 := rfl
  rw [hA] at c1 n1
  rw [hB] at c2 n2
  rw [hC] at c3 n3
  have hkh := k_sParseHeight (spB s).1 (by omega)
  have hch := chk_in (spB s).1 (hgS (spB s).1)
  rw [hXX] at hir hfit
  clear hXX hA hB hC
  rw [hD] at c4 n4 hir hfit
  clear hD
  generalize sParse s = o at *
  generalize hh1 : chkH (spB s).1 (hgS (spB s).1) = CH at *
  generalize spA s = A at *
  generalize spB s = B at *
  generalize spC s = C at *
  obtain ⟨nm, a, b1⟩ := A
  obtain ⟨h, b, b2⟩ := B
  obtain ⟨f, d, b3⟩ := C
  obtain ⟨ht, hb⟩ := CH
  simp only [] at *
  clear hh1
  have hd1 := fun h => k_l24Digits (d.take 2) h
  have hd2 := fun h => k_l24Digits (cutL d 3 5) h
  have hd3 := fun h => take_cut2 (d := d) h
  have hi1 := dig2_in (d.take 2)
  have hi2 := dig2_in (cutL d 3 5)
  generalize hq : cut2 d goW = G at *
  obtain ⟨g1, rest, g3⟩ := G
  simp only [] at *
  clear hq
  have hdf : (default : Txt) = [] := rfl
  by_cases hr : rest = []
  · subst hr
    have e : spR [] = [] := rfl
    rw [e] at hir hfit
    have hval := fun h8 => k_l24Good _ (hfit h8)
    have htxt := fun h8 => k_l24Text (⟨nm, ht, [f], 60 * dig2 (d.take 2) + dig2 (cutL d 3 5)⟩ : Stp) h8
    simp only [] at hval htxt
    generalize hvb : stB (⟨nm, ht, [f], 60 * dig2 (d.take 2) + dig2 (cutL d 3 5)⟩ : Stp) = vb at *
    generalize htt : stT (⟨nm, ht, [f], 60 * dig2 (d.take 2) + dig2 (cutL d 3 5)⟩ : Stp) = tt at *
    clear hvb htt hfit e
    unfold isAt at c1
    unfold reach at c2
    unfold atW at c3
    unfold goW at c4
    simp only [envOf, envFrom, go_sem, reduceIte, Nat.reduceEqDiff, Nat.reduceAdd, Nat.reduceLeDiff]
    repeat' (first
      | (simp only [go_sem, Nat.lt_add_one, reduceIte, Nat.reduceEqDiff, Nat.reduceBEq, Nat.reduceAdd, Nat.reduceMul, Nat.reduceLeDiff])
      | (simp (disch := omega) only [w64, Int.reduceToNat])
      | (refine Rm_need (by first | exact True.intro | omega | (simp; omega)) ?_)
      | (rw [hdf])
      | (refine Rm_w rfl (c1) (by trivial) ?_)
      | (refine Rm_w ?_ (c1) (by trivial) ?_; · (simp [viewOfs, viewOf]; done))
      | (refine Rm_w rfl (c2) (by trivial) ?_)
      | (refine Rm_w ?_ (c2) (by trivial) ?_; · (simp [viewOfs, viewOf]; done))
      | (refine Rm_w rfl (c3) (by trivial) ?_)
      | (refine Rm_w ?_ (c3) (by trivial) ?_; · (simp [viewOfs, viewOf]; done))
      | (refine Rm_w rfl (c4) (by trivial) ?_)
      | (refine Rm_w ?_ (c4) (by trivial) ?_; · (simp [viewOfs, viewOf, List.take_of_length_le, cutL]; done))
      | (refine Rm_w rfl (hkh) (by trivial) ?_)
      | (refine Rm_w ?_ (hkh) (by trivial) ?_; · (simp [viewOfs, viewOf, List.take_of_length_le, cutL]; done))
      | (rw [cutE])
      | (rw [cutZ])
      | (refine Rm_w rfl (hd1 (hd3 (by omega)).1) (by trivial) ?_)
      | (refine Rm_w ?_ (hd1 (hd3 (by omega)).1) (by trivial) ?_; · (simp [viewOfs, viewOf, cutL]; done))
      | (refine Rm_w rfl (hd2 (hd3 (by omega)).2) (by trivial) ?_)
      | (refine Rm_w ?_ (hd2 (hd3 (by omega)).2) (by trivial) ?_; · (simp [viewOfs, viewOf, List.take_of_length_le, cutL]; done))
      | (refine Rm_w rfl (hval (by omega)) (by trivial) ?_)
      | (refine Rm_w ?_ (hval (by omega)) (by trivial) ?_; · (simp [viewOfs, viewOf, List.take_of_length_le, cutL]; done))
      | (refine Rm_w rfl (htxt (by assumption)) (by trivial) ?_)
      | (refine Rm_w ?_ (htxt (by assumption)) (by trivial) ?_; · (simp [viewOfs, viewOf, List.take_of_length_le, cutL]; done))
      | (rw [hir, if_neg ?_]; exact ret_gen _ _ _ rfl rfl rfl ⟨rfl, rfl⟩; rintro ⟨q1, q2, q3, q4, q5, q6, q7⟩; first | omega | (simp_all; done) | (exact absurd q7 (by assumption)))
      | (rw [hir, if_pos ?_]; exact ret_gen _ _ _ rfl rfl rfl ⟨rfl, rfl⟩; exact ⟨by omega, by assumption, by assumption, by assumption, by omega, by assumption, by assumption⟩)
      | (refine Rm_gi (by first | omega | (simp; omega)) ?_)
      | (refine Rm_gb (by first | omega | (simp; omega)) ?_)
      | (refine Rm_ga (by first | omega | (simp; omega)) _ rfl (Nat.le_of_ble_eq_true rfl) ?_)
      | (refine Rm_gm (by first | omega | (simp; omega)) _ rfl ?_)
      | (refine Rm_part _ _ rfl rfl ?_)
      | (refine Rm_puti (by first | omega | (simp; omega)) rfl ?_)
      | (refine Dm_draw [] (by simp) ?_)
      | (refine Tm_both ?_ ?_)
      | (refine Tm_fin (by simp only [hideOK, newsE]; simp []) ?_)
      | (refine Cm_split (fun h => ?_) (fun h => ?_) <;> (try (simp only [decide_eq_true_eq, decide_eq_false_iff_not, beq_iff_eq, beq_eq_false_iff_ne, Bool.not_eq_true', Bool.not_eq_false', ne_eq] at h)) <;> (try omega))
      | (refine Gm_split (fun h => ?_) (fun h => ?_) <;> (try simp only [ne_eq, Bool.not_eq_true, Bool.not_eq_false] at h) <;> (try rw [h]) <;> (try (simp only [decide_eq_true_eq, decide_eq_false_iff_not, bne_iff_ne, beq_iff_eq, bne_eq_false_iff_eq, beq_eq_false_iff_ne, Bool.not_eq_true, Bool.not_eq_true', Bool.not_eq_false, Bool.not_eq_false', ne_eq, Bool.and_eq_true, Bool.or_eq_true, true_eq_decide_iff, false_eq_decide_iff] at h)) <;> (try omega))
      | (refine Sm_split (fun h => ?_) (fun h => ?_) <;> (try (simp only [decide_eq_true_eq, decide_eq_false_iff_not, Bool.not_eq_true', Bool.not_eq_false'] at h)) <;> (try omega))
      | (exact ret_p rfl ⟨rfl, rfl⟩)
      | (refine ret_okv (by first | trivial | simp only [go_sem, detD, detDs, detP, and_self, and_true]) ?_)
      | (exact ret_gen _ _ _ rfl rfl rfl ⟨rfl, rfl⟩)
      | (simp only [Option.some.injEq, DV.tup.injEq, DV.p.injEq, List.cons.injEq, PV.int.injEq, PV.bool.injEq, PV.str.injEq, and_true, true_and])
      | rfl
      | (refine Bool.eq_iff_iff.2 ?_; simp only [decide_eq_true_eq, Bool.and_eq_true, Bool.or_eq_true, Bool.not_eq_true', decide_eq_false_iff_not, Bool.false_eq_true, beq_iff_eq, bne_iff_ne, ne_eq, false_iff, iff_false, true_iff, iff_true]; omega)
      | omega)
    all_goals skip
  · have hr0 : 0 < rest.length := List.length_pos_iff.2 hr
    have c5 := k_l24Cut (rest.take (rest.length - 1)) andW (by rw [List.length_take]; omega) (by decide)
    have n5 := cut2_len (rest.take (rest.length - 1)) andW
    have n6 : (rest.take (rest.length - 1)).length ≤ rest.length := by rw [List.length_take]; omega
    have e : spR rest = trims (splitB 44 (cut2 (rest.take (rest.length - 1)) andW).1) ++ (if (cut2 (rest.take (rest.length - 1)) andW).2.2 = true then [(cut2 (rest.take (rest.length - 1)) andW).2.1] else []) := if_neg hr
    rw [e] at hir hfit
    clear e
    generalize cut2 (rest.take (rest.length - 1)) andW = H at *
    obtain ⟨lst, last, more⟩ := H
    simp only [] at *
    have c6 := k_l1Split lst 44 (by omega)
    have n7 := (split_len 44 lst).1
    have n8 := trims_len (splitB 44 lst)
    have n9 := fun i (h : i < (splitB 44 lst).length) => trims_get h
    have n10 := fun i (h : i < (splitB 44 lst).length) => split_mem (getD_mem (d := ([] : Txt)) h)
    generalize splitB 44 lst = ps at *
    generalize hts : trims ps = ts at *
    have hval := fun h8 => k_l24Good _ (hfit h8)
    have htxt := fun h8 => k_l24Text (⟨nm, ht, f :: (ts ++ if more = true then [last] else []), 60 * dig2 (d.take 2) + dig2 (cutL d 3 5)⟩ : Stp) h8
    simp only [] at hval htxt
    generalize hvb : stB (⟨nm, ht, f :: (ts ++ if more = true then [last] else []), 60 * dig2 (d.take 2) + dig2 (cutL d 3 5)⟩ : Stp) = vb at *
    generalize htt : stT (⟨nm, ht, f :: (ts ++ if more = true then [last] else []), 60 * dig2 (d.take 2) + dig2 (cutL d 3 5)⟩ : Stp) = tt at *
    clear hvb htt hfit hts
    unfold isAt at c1
    unfold reach at c2
    unfold atW at c3
    unfold goW at c4
    unfold andW at c5
    simp only [envOf, envFrom, go_sem, reduceIte, Nat.reduceEqDiff, Nat.reduceAdd, Nat.reduceLeDiff]
    repeat' (first
      | (simp only [go_sem, Nat.lt_add_one, reduceIte, Nat.reduceEqDiff, Nat.reduceBEq, Nat.reduceAdd, Nat.reduceMul, Nat.reduceLeDiff])
      | (simp (disch := omega) only [w64, nsub1, Int.reduceToNat])
      | (refine Rm_need (by first | exact True.intro | omega | (simp; omega)) ?_)
      | (rw [hdf])
      | (refine Rm_w rfl (c1) (by trivial) ?_)
      | (refine Rm_w ?_ (c1) (by trivial) ?_; · (simp [viewOfs, viewOf, cutL]; done))
      | (refine Rm_w rfl (c2) (by trivial) ?_)
      | (refine Rm_w ?_ (c2) (by trivial) ?_; · (simp [viewOfs, viewOf, cutL]; done))
      | (refine Rm_w rfl (c3) (by trivial) ?_)
      | (refine Rm_w ?_ (c3) (by trivial) ?_; · (simp [viewOfs, viewOf, cutL]; done))
      | (refine Rm_w rfl (c4) (by trivial) ?_)
      | (refine Rm_w ?_ (c4) (by trivial) ?_; · (simp [viewOfs, viewOf, cutL]; done))
      | (refine Rm_w rfl (c5) (by trivial) ?_)
      | (refine Rm_w ?_ (c5) (by trivial) ?_; · (simp [viewOfs, viewOf, List.take_of_length_le, cutL]; done))
      | (refine Rm_o c6 rfl (fun r H2 hh => ?_); obtain ⟨rfl, rfl⟩ := hh)
      | (refine Rm_w rfl (hkh) (by trivial) ?_)
      | (refine Rm_w ?_ (hkh) (by trivial) ?_; · (simp [viewOfs, viewOf, List.take_of_length_le, cutL]; done))
      | (rw [cutE])
      | (rw [cutZ])
      | (refine Rm_w rfl (hd1 (hd3 (by omega)).1) (by trivial) ?_)
      | (refine Rm_w ?_ (hd1 (hd3 (by omega)).1) (by trivial) ?_; · (simp [viewOfs, viewOf, cutL]; done))
      | (refine Rm_w rfl (hd2 (hd3 (by omega)).2) (by trivial) ?_)
      | (refine Rm_w ?_ (hd2 (hd3 (by omega)).2) (by trivial) ?_; · (simp [viewOfs, viewOf, List.take_of_length_le, cutL]; done))
      | (contradiction)
      | (rw [hir, if_neg ?_]; exact ret_gen _ _ _ rfl rfl rfl ⟨rfl, rfl⟩; rintro ⟨q1, q2, q3, q4, q5, q6, q7⟩; first | omega | (simp_all; done) | (exact absurd q7 (by assumption)))
      | (refine Rm_gi (by first | omega | (simp; omega)) ?_)
      | (refine Rm_gb (by first | omega | (simp; omega)) ?_)
      | (refine Rm_ga (by first | omega | (simp; omega)) _ rfl (Nat.le_of_ble_eq_true rfl) ?_)
      | (refine Rm_gm (by first | omega | (simp; omega)) _ rfl ?_)
      | (refine Rm_part _ _ rfl rfl ?_)
      | (refine Rm_puti (by first | omega | (simp; omega)) rfl ?_)
      | (refine Dm_draw [] (by simp) ?_)
      | (refine Tm_both ?_ ?_)
      | (refine Tm_fin (by simp only [hideOK, newsE]; simp []) ?_)
      | (refine Cm_split (fun h => ?_) (fun h => ?_) <;> (try (simp only [decide_eq_true_eq, decide_eq_false_iff_not, beq_iff_eq, beq_eq_false_iff_ne, Bool.not_eq_true', Bool.not_eq_false', ne_eq] at h)) <;> (try omega))
      | (refine Gm_split (fun h => ?_) (fun h => ?_) <;> (try simp only [ne_eq, Bool.not_eq_true, Bool.not_eq_false] at h) <;> (try rw [h]) <;> (try (simp only [decide_eq_true_eq, decide_eq_false_iff_not, bne_iff_ne, beq_iff_eq, bne_eq_false_iff_eq, beq_eq_false_iff_ne, Bool.not_eq_true, Bool.not_eq_true', Bool.not_eq_false, Bool.not_eq_false', ne_eq, Bool.and_eq_true, Bool.or_eq_true, true_eq_decide_iff, false_eq_decide_iff] at h)) <;> (try omega))
      | (refine Sm_split (fun h => ?_) (fun h => ?_) <;> (try (simp only [decide_eq_true_eq, decide_eq_false_iff_not, Bool.not_eq_true', Bool.not_eq_false'] at h)) <;> (try omega))
      | (exact ret_p rfl ⟨rfl, rfl⟩)
      | (refine ret_okv (by first | trivial | simp only [go_sem, detD, detDs, detP, and_self, and_true]) ?_)
      | (exact ret_gen _ _ _ rfl rfl rfl ⟨rfl, rfl⟩)
      | (simp only [Option.some.injEq, DV.tup.injEq, DV.p.injEq, List.cons.injEq, PV.int.injEq, PV.bool.injEq, PV.str.injEq, and_true, true_and])
      | rfl
      | (refine Bool.eq_iff_iff.2 ?_; simp only [decide_eq_true_eq, Bool.and_eq_true, Bool.or_eq_true, Bool.not_eq_true', decide_eq_false_iff_not, Bool.false_eq_true, beq_iff_eq, bne_iff_ne, ne_eq, false_iff, iff_false, true_iff, iff_true]; omega)
      | omega)
    refine Dm_loop [0, 2, 4, 16, 23, 24, 25, 26] (fun m ds H' => ∃ i : Nat, i ≤ ps.length ∧ m = ps.length - i ∧ ds = [.p (.str s), .ptr 0 0 0, .ptr 1 0 0, .ptr 2 0 0, .p (.str last), .p (.bool more), .own 3 0 ps.length, .p (.int .i64 i)] ∧
      H' = [.box 27 zstr, .box 27 zstr, .box 27 [.p (.str nm), .p (.int .i64 ht), .own 4 0 (i + 1), .p (.int .i64 (60 * dig2 (d.take 2) + dig2 (cutL d 3 5)))], .arr 9 1 (ps.map .str), .arr 9 1 ((f :: ts.take i).map .str)]) ps.length ⟨0, by omega, by omega, rfl, by simp; rfl⟩ ?_
    rintro m ds H' ⟨i, hi, rfl, rfl, rfl⟩ -
    have hR : (f :: ts.take i).length = i + 1 := by simp; omega
    rcases Nat.lt_or_ge i ps.length with hlt | hge
    · have n9 := n9 i hlt
      have n10 := n10 i hlt
      have hRs : f :: ts.take (i + 1) = (f :: ts.take i) ++ [ts.getD i []] := by
        rw [List.cons_append, List.take_add_one, List.getD_eq_getElem?_getD, List.getElem?_eq_getElem (show i < ts.length by omega)]
        rfl
      have hRm : PV.str f :: (ts.take (i + 1)).map PV.str = ((f :: ts.take i) ++ [ts.getD i []]).map PV.str := by rw [← hRs]; rfl
      generalize f :: ts.take i = R at *
      have hRt : (R.map PV.str).take (i + 1) = R.map PV.str := List.take_of_length_le (by simp; omega)
      clear hval htxt
      repeat' (first
        | (simp only [go_sem, Nat.lt_add_one, reduceIte, Nat.reduceEqDiff, Nat.reduceBEq, Nat.reduceAdd, Nat.reduceMul, Nat.reduceLeDiff, Bool.false_eq_true])
        | (simp (disch := omega) only [w64, nadd1, Int.reduceToNat])
        | (refine Rm_need (by first | exact True.intro | omega | (simp; omega)) ?_)
        | (rw [hdf])
        | (rw [cutE])
        | (rw [cutZ])
        | (refine Rm_gi (by first | omega | (simp; omega)) ?_)
        | (refine Rm_gb (by first | omega | (simp; omega)) ?_)
        | (refine Rm_ga (by first | omega | (simp; omega)) _ rfl (Nat.le_of_ble_eq_true rfl) ?_)
        | (refine Rm_gm (by first | omega | (simp; omega)) _ rfl ?_)
        | (refine Rm_part _ _ rfl rfl ?_)
        | (refine Rm_puti (by first | omega | (simp; omega)) rfl ?_)
        | (refine Dm_draw [] (by simp) ?_)
        | (refine Tm_both ?_ ?_)
        | (refine Tm_fin (by simp only [hideOK, newsE]; simp []) ?_)
        | (refine Cm_split (fun h => ?_) (fun h => ?_) <;> (try (simp only [decide_eq_true_eq, decide_eq_false_iff_not] at h)) <;> (try omega))
        | (refine Gm_split (fun h => ?_) (fun h => ?_) <;> (try simp only [ne_eq, Bool.not_eq_true, Bool.not_eq_false] at h) <;> (try rw [h]) <;> (try (simp only [decide_eq_true_eq, decide_eq_false_iff_not, bne_iff_ne, beq_iff_eq, bne_eq_false_iff_eq, beq_eq_false_iff_ne, Bool.not_eq_true, Bool.not_eq_true', Bool.not_eq_false, Bool.not_eq_false', ne_eq, Bool.and_eq_true, Bool.or_eq_true, true_eq_decide_iff, false_eq_decide_iff] at h)) <;> (try omega))
        | (refine Sm_split (fun h => ?_) (fun h => ?_) <;> (try (simp only [decide_eq_true_eq, decide_eq_false_iff_not] at h)) <;> (try omega))
        | (exact ret_p rfl ⟨rfl, rfl⟩)
        | (refine ret_okv (by first | trivial | simp only [go_sem, detD, detDs, detP, and_self, and_true]) ?_)
        | (exact ret_gen _ _ _ rfl rfl rfl ⟨rfl, rfl⟩)
        | (simp only [Option.some.injEq, DV.tup.injEq, DV.p.injEq, List.cons.injEq, PV.int.injEq, PV.bool.injEq, PV.str.injEq, and_true, true_and])
        | rfl
        | (refine Bool.eq_iff_iff.2 ?_; simp only [decide_eq_true_eq, Bool.and_eq_true, Bool.or_eq_true, Bool.not_eq_true', decide_eq_false_iff_not, Bool.false_eq_true, beq_iff_eq, bne_iff_ne, ne_eq, false_iff, iff_false, true_iff, iff_true]; omega)
        | omega)
      all_goals
        rw [List.take_of_length_le (show R.length ≤ i + 1 by omega)]
        refine Xm_inv_n (ps.length - (i + 1)) (by omega) ⟨i + 1, by omega, rfl, rfl, ?_⟩
        rw [hRm, n9]
        first
          | (rw [if_pos (by omega)]; rfl)
          | (rw [if_neg (by omega)]; rfl)
          | (rw [List.eq_nil_of_length_eq_zero (l := ps.getD i []) (by omega), List.drop_nil, ite_self]; rfl)
    · obtain rfl : i = ps.length := by omega
      have et : ts.take ps.length = ts := List.take_of_length_le (by omega)
      rw [et] at *
      clear c1 c2 c3 c4 c5 c6 n9 n10 hkh hd1 hd2
      rw [← n8]
      cases more
      · simp only [Bool.false_eq_true, if_false, List.append_nil] at hval htxt hir
        repeat' (first
          | (simp only [go_sem, reduceIte, Nat.reduceEqDiff, Nat.reduceBEq, Nat.reduceAdd, Nat.reduceLeDiff])
          | (simp (disch := omega) only [w64, w8, bytesOf_cons, tmod10, tdiv10, tn48, nsub1, nadd1, nsub, nadd, nmul, List.take_length, Int.toNat_zero, Int.reduceAdd, Int.reduceSub, Int.reduceToNat, Int.reduceMul, Nat.sub_zero, Nat.min_self])
          | (refine Rm_need (by first | exact True.intro | omega | (simp; omega)) ?_)
          | (refine Rm_w rfl (hval (by omega)) (by trivial) ?_)
          | (refine Rm_w ?_ (hval (by omega)) (by trivial) ?_; · (simp [viewOfs, viewOf, List.take_of_length_le, cutL]; done))
          | (refine Rm_w rfl (htxt (by assumption)) (by trivial) ?_)
          | (refine Rm_w ?_ (htxt (by assumption)) (by trivial) ?_; · (simp [viewOfs, viewOf, List.take_of_length_le, cutL]; done))
          | (rw [hir, if_neg ?_]; exact ret_gen _ _ _ rfl rfl rfl ⟨rfl, rfl⟩; rintro ⟨q1, q2, q3, q4, q5, q6, q7⟩; first | omega | (simp_all; done) | (exact absurd q7 (by assumption)))
          | (rw [hir, if_pos ?_]; exact ret_gen _ _ _ rfl rfl rfl ⟨rfl, rfl⟩; exact ⟨by omega, by assumption, by assumption, by assumption, by omega, by assumption, by assumption⟩)
          | (refine Rm_gi (by first | omega | (simp; omega)) ?_)
          | (refine Rm_gb (by first | omega | (simp; omega)) ?_)
          | (refine Rm_ga (by first | omega | (simp; omega)) _ rfl (Nat.le_of_ble_eq_true rfl) ?_)
          | (refine Rm_gm (by first | omega | (simp; omega)) _ rfl ?_)
          | (refine Rm_part _ _ rfl rfl ?_)
          | (refine Rm_puti (by first | omega | (simp; omega)) rfl ?_)
          | (refine Dm_draw [] (by simp) ?_)
          | (refine Tm_both ?_ ?_)
          | (refine Tm_fin (by simp only [hideOK, newsE]; simp []) ?_)
          | (refine Cm_split (fun h => ?_) (fun h => ?_) <;> (try (simp only [decide_eq_true_eq, decide_eq_false_iff_not, beq_iff_eq, beq_eq_false_iff_ne, Bool.not_eq_true', Bool.not_eq_false', ne_eq] at h)) <;> (try omega))
          | (refine Gm_split (fun h => ?_) (fun h => ?_) <;> (try simp only [ne_eq, Bool.not_eq_true, Bool.not_eq_false] at h) <;> (try rw [h]) <;> (try (simp only [decide_eq_true_eq, decide_eq_false_iff_not, bne_iff_ne, beq_iff_eq, bne_eq_false_iff_eq, beq_eq_false_iff_ne, Bool.not_eq_true, Bool.not_eq_true', Bool.not_eq_false, Bool.not_eq_false', ne_eq, Bool.and_eq_true, Bool.or_eq_true, true_eq_decide_iff, false_eq_decide_iff] at h)) <;> (try omega))
          | (refine Sm_split (fun h => ?_) (fun h => ?_) <;> (try (simp only [Bool.not_eq_true', Bool.not_eq_false'] at h)) <;> (try omega))
          | (exact ret_p rfl ⟨rfl, rfl⟩)
          | (refine ret_okv (by first | trivial | simp only [go_sem, detD, detDs, detP, and_self, and_true]) ?_)
          | (exact ret_gen _ _ _ rfl rfl rfl ⟨rfl, rfl⟩)
          | (simp only [Option.some.injEq, DV.tup.injEq, DV.p.injEq, List.cons.injEq, PV.int.injEq, PV.bool.injEq, PV.str.injEq, and_true, true_and])
          | rfl
          | (refine Bool.eq_iff_iff.2 ?_; simp only [decide_eq_true_eq, Bool.and_eq_true, Bool.or_eq_true, Bool.not_eq_true', decide_eq_false_iff_not, Bool.false_eq_true, beq_iff_eq, bne_iff_ne, ne_eq, false_iff, iff_false, true_iff, iff_true]; omega)
          | omega)
        all_goals skip
      · simp only [if_true] at hval htxt hir
        have hL2 : ts.length + 1 + 1 = (f :: (ts ++ [last])).length := by simp
        have hRt : (((f :: ts).map PV.str).take (ts.length + 1)) = (f :: ts).map PV.str := List.take_of_length_le (by simp)
        have hap : (f :: ts).map PV.str ++ [PV.str last] = (f :: (ts ++ [last])).map PV.str := by simp
        repeat' (first
          | (simp only [go_sem, Nat.lt_add_one, reduceIte, Nat.reduceEqDiff, Nat.reduceBEq, Nat.reduceAdd, Nat.reduceMul, Nat.reduceLeDiff, Bool.false_eq_true])
          | (simp (disch := omega) only [List.take_length])
          | (refine Rm_need (by first | exact True.intro | omega | (simp; omega)) ?_)
          | (refine Rm_w rfl (hval (by omega)) (by trivial) ?_)
          | (refine Rm_w ?_ (hval (by omega)) (by trivial) ?_; · (simp [viewOfs, viewOf, List.take_of_length_le, cutL]; done))
          | (refine Rm_w rfl (htxt (by assumption)) (by trivial) ?_)
          | (refine Rm_w ?_ (htxt (by assumption)) (by trivial) ?_; · (simp [viewOfs, viewOf, List.take_of_length_le, cutL]; done))
          | (rw [hir, if_neg ?_]; exact ret_gen _ _ _ rfl rfl rfl ⟨rfl, rfl⟩; rintro ⟨q1, q2, q3, q4, q5, q6, q7⟩; first | omega | (simp_all; done) | (exact absurd q7 (by assumption)))
          | (rw [hir, if_pos ?_, hL2]; exact ret_gen _ _ _ rfl rfl rfl ⟨rfl, rfl⟩; exact ⟨by omega, by assumption, by assumption, by assumption, by omega, by assumption, by assumption⟩)
          | (refine Rm_gi (by first | omega | (simp; omega)) ?_)
          | (refine Rm_gb (by first | omega | (simp; omega)) ?_)
          | (refine Rm_ga (by first | omega | (simp; omega)) _ rfl (Nat.le_of_ble_eq_true rfl) ?_)
          | (refine Rm_gm (by first | omega | (simp; omega)) _ rfl ?_)
          | (refine Rm_part _ _ rfl rfl ?_)
          | (refine Rm_puti (by first | omega | (simp; omega)) rfl ?_)
          | (refine Dm_draw [] (by simp) ?_)
          | (refine Tm_both ?_ ?_)
          | (refine Tm_fin (by simp only [hideOK, newsE]; simp []) ?_)
          | (refine Cm_split (fun h => ?_) (fun h => ?_) <;> (try (simp only [decide_eq_true_eq, decide_eq_false_iff_not, beq_iff_eq, beq_eq_false_iff_ne, Bool.not_eq_true', Bool.not_eq_false', ne_eq] at h)) <;> (try omega))
          | (refine Gm_split (fun h => ?_) (fun h => ?_) <;> (try simp only [ne_eq, Bool.not_eq_true, Bool.not_eq_false] at h) <;> (try rw [h]) <;> (try (simp only [decide_eq_true_eq, decide_eq_false_iff_not, bne_iff_ne, beq_iff_eq, bne_eq_false_iff_eq, beq_eq_false_iff_ne, Bool.not_eq_true, Bool.not_eq_true', Bool.not_eq_false, Bool.not_eq_false', ne_eq, Bool.and_eq_true, Bool.or_eq_true, true_eq_decide_iff, false_eq_decide_iff] at h)) <;> (try omega))
          | (refine Sm_split (fun h => ?_) (fun h => ?_) <;> (try (simp only [Bool.not_eq_true', Bool.not_eq_false'] at h)) <;> (try omega))
          | (exact ret_p rfl ⟨rfl, rfl⟩)
          | (refine ret_okv (by first | trivial | simp only [go_sem, detD, detDs, detP, and_self, and_true]) ?_)
          | (exact ret_gen _ _ _ rfl rfl rfl ⟨rfl, rfl⟩)
          | (simp only [Option.some.injEq, DV.tup.injEq, DV.p.injEq, List.cons.injEq, PV.int.injEq, PV.bool.injEq, PV.str.injEq, and_true, true_and])
          | rfl
          | (refine Bool.eq_iff_iff.2 ?_; simp only [decide_eq_true_eq, Bool.and_eq_true, Bool.or_eq_true, Bool.not_eq_true', decide_eq_false_iff_not, Bool.false_eq_true, beq_iff_eq, bne_iff_ne, ne_eq, false_iff, iff_false, true_iff, iff_true]; omega)
          | omega)
        all_goals skip
end Go.Proofs.Ytchekagoaidlpaa

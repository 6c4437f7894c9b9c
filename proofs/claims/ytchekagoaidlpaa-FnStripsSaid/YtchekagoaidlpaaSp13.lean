import Derived.Test.YtchekagoaidlpaaSp12
namespace Go.Proofs.Ytchekagoaidlpaa
open Go.Dv Go.Dv.EvL
attribute [local irreducible] Ok Rm Dm Om Sm Xm Cm Gm Hm Tm

theorem joinW_B {xs : List Txt} {k : Nat} (h : (xs.map List.length).sum + xs.length ≤ k) : (joinTo xs [32] xs.length).length ≤ k := by
  have h1 := joinW_len (xs := xs) (b := [32]) (i := xs.length) (Nat.le_refl _)
  rw [List.take_length, List.length_cons, List.length_nil] at h1
  omega
theorem gl_len (s : Txt) (hl : s.length ≤ 1048576) : (ipG s).length ≤ 3145728 := by
  have h1 := (split_len 32 s).1
  have h2 := split_sum 32 s
  have h3 := cutw_sum (xs := wds s) (a := 3) (b := 3 + ipN s)
  have h4 : (cutL (wds s) 3 (3 + ipN s)).length ≤ (wds s).length := by unfold cutL; rw [List.length_take, List.length_drop]; omega
  unfold ipG
  refine joinW_B ?_
  unfold wds at *
  omega
theorem drop_joined {s : Txt} {k : Nat} (h : k < (splitB 32 s).length) : (joinTo ((splitB 32 s).drop k) [32] ((splitB 32 s).drop k).length).length + k ≤ s.length := by
  rw [join_B]
  have := join_drop (b := 32) h
  rw [join_split] at this
  exact this
theorem ll_len (s : Txt) (hl : s.length ≤ 1048576) : (ipL s).length ≤ 1048576 := by
  unfold ipL ipR wds
  rw [List.drop_drop]
  rcases Nat.lt_or_ge (3 + ipN s + 4) (splitB 32 s).length with h | h
  · have := drop_joined h
    show (joinTo ((splitB 32 s).drop _) [32] _).length ≤ _
    omega
  · rw [List.drop_of_length_le h]
    simp [joinTo]
theorem hr_in (w : Txt) : (∀ j i, i ≤ 2 → -600 ≤ hrTo w j i ∧ hrTo w j i ≤ 3000) := by
  intro j i hi
  have h1 := u8_lt (w.getD (j + 0) 0)
  have h2 := u8_lt (w.getD (j + 1) 0)
  rcases i with _ | _ | _ | i
  · simp [hrTo]
  · simp only [hrTo]; omega
  · simp only [hrTo]; omega
  · omega
theorem ipX_fits (s : Txt) (hl : s.length ≤ 1048576) (h8 : 8 ≤ (splitB 32 s).length) {n : Nat} (hn : ipN s = n) : StFits (ipX s) := by
  have hW2 := split_sum 32 s
  have hx0 : ∀ j, ((splitB 32 s).getD j []).length ≤ s.length := fun j => by
    rcases Nat.lt_or_ge j (splitB 32 s).length with h | h
    · exact Nat.le_trans (s_one h) hW2
    · rw [List.getD_eq_getElem?_getD, List.getElem?_eq_none h]; simp
  have hR1 : (ipR s).getD 1 [] = (splitB 32 s).getD (3 + ipN s + 1) [] := by unfold ipR; simp [List.getD_eq_getElem?_getD, List.getElem?_drop]
  have hp := parts_len (ipL s)
  have hlx : (ipL s).length + 1 ≤ 1048576 := by
    unfold ipL ipR wds
    rw [List.drop_drop]
    rcases Nat.lt_or_ge (3 + ipN s + 4) (splitB 32 s).length with h | h
    · have := drop_joined h
      show (joinTo ((splitB 32 s).drop _) [32] _).length + 1 ≤ _
      omega
    · rw [List.drop_of_length_le h]
      simp [joinTo]
  refine ⟨?_, ?_, fun r hr => ?_⟩
  · rw [ipX_nm]
    exact Nat.le_trans (hx0 0) hl
  · rw [ipX_rt, List.length_cons]
    omega
  · rw [ipX_rt, List.mem_cons] at hr
    rcases hr with rfl | hr
    · rw [hR1]
      exact Nat.le_trans (hx0 _) hl
    · exact Nat.le_trans (parts_in hr) (by omega)
set_option maxRecDepth 100000 in
set_option maxHeartbeats 16000000 in
/-- impl.ParseStrip -/
theorem k_iParseStrip (s : Txt) (hl : s.length ≤ 1048576) : Okw Try.prog 43 [.str s] (OutS (iParse s)) := by
  refine ok_D hmix c_impl_ParseStrip (by simp) ?_
  have hs := k_split s 32 (by omega)
  have hW1 := (split_len 32 s).1
  have hW2 := split_sum 32 s
  have hGl2 := trivial
  have hdf : (default : Txt) = [] := rfl
  by_cases h4 : (splitB 32 s).getD 4 [] = ftW
  · have hn : ipN s = 2 := if_pos h4
    have hG : ipG s = joinTo (List.take 2 (List.drop 3 (splitB 32 s))) [32] (List.take 2 (List.drop 3 (splitB 32 s))).length := by unfold ipG; rw [hn]; rfl
    have hR : ipR s = (splitB 32 s).drop 5 := by unfold ipR; rw [hn]
    have hL : ipL s = joinTo ((splitB 32 s).drop 9) [32] ((splitB 32 s).drop 9).length := by unfold ipL; rw [hR, List.drop_drop]
    have hj1 := k_joinW (List.take 2 (List.drop 3 (splitB 32 s))) [32] (by decide) (by simp; omega) (Nat.le_trans s_part (Nat.le_trans drop_sum (by omega)))
    have hj2 := k_joinW ((splitB 32 s).drop 9) [32] (by decide) (by simp; omega) (Nat.le_trans drop_sum (by omega))
    rw [← hG] at hj1
    rw [← hL] at hj2
    have hGl := gl_len s hl
    have hLl := ll_len s hl
    have hk3 := k_iParseHeight (ipT s) (by unfold ipT; rw [List.length_take]; omega)
    have hT : ipT s = (ipG s).take ((ipG s).length - 1) := rfl
    have hlp := k_letterParts (ipL s) (by omega)
    have hx0 : ∀ j, j < (splitB 32 s).length → (((splitB 32 s).getD j []).length ≤ s.length) := fun j hj => Nat.le_trans (s_one hj) hW2
    have hR3 : (ipR s).getD 3 [] = (splitB 32 s).getD 8 [] := by rw [hR]; simp [List.getD_eq_getElem?_getD, List.getElem?_drop]
    have hR1 : (ipR s).getD 1 [] = (splitB 32 s).getD 6 [] := by rw [hR]; simp [List.getD_eq_getElem?_getD, List.getElem?_drop]
    have hRl : (ipR s).length = (splitB 32 s).length - 5 := by rw [hR, List.length_drop]
    have hX : ipX s = ⟨(splitB 32 s).getD 0 [], (chkH (ipT s) (hgI (ipT s))).1, (splitB 32 s).getD 6 [] :: parts (ipL s), 60 * hrTo ((splitB 32 s).getD 8 []) 0 2 + hrTo ((splitB 32 s).getD 8 []) 3 2⟩ := by rw [← hR1, ← hR3]; rfl
    have hch := chk_in (ipT s) (hgI (ipT s))
    have hir : iParse s = if 8 ≤ (splitB 32 s).length ∧ (ipG s).length ≠ 0 ∧ 5 ≤ (splitB 32 s).length - 5 ∧ ((splitB 32 s).getD 8 []).length = 5 ∧ (chkH (ipT s) (hgI (ipT s))).2 = true ∧ stB (ipX s) = true ∧ stT (ipX s) = s then some (ipX s) else none := by
      rw [← hRl, ← hR3]
      rfl
    have hfit : 8 ≤ (splitB 32 s).length → StFits (ipX s) := fun h8 => ipX_fits s hl h8 hn
    have hpl := parts_len (ipL s)
    have hmn := hr_in ((splitB 32 s).getD 8 [])
    rw [hX] at hir hfit
    clear hX hR1 hR3 hRl hR hG hL hn
    generalize hCH : chkH (ipT s) (hgI (ipT s)) = CH at *
    obtain ⟨ht, hb⟩ := CH
    simp only [] at *
    rw [hT] at hk3
    clear hT
    generalize ipG s = G at *
    generalize ipL s = L at *
    generalize parts L = P at *
    have hval := fun h8 => k_IsValidStrip _ (hfit h8)
    have htxt := fun h8 => k_stripText (⟨(splitB 32 s).getD 0 [], ht, (splitB 32 s).getD 6 [] :: P, 60 * hrTo ((splitB 32 s).getD 8 []) 0 2 + hrTo ((splitB 32 s).getD 8 []) 3 2⟩ : Stp) h8
    simp only [] at hval htxt
    have hx3 := hx0 8
    have hx1 := hx0 6
    generalize hWW : splitB 32 s = W at *
    generalize hoo : iParse s = o at *
    generalize hvb : stB (⟨W.getD 0 [], ht, W.getD 6 [] :: P, 60 * hrTo (W.getD 8 []) 0 2 + hrTo (W.getD 8 []) 3 2⟩ : Stp) = vb at *
    generalize htt : stT (⟨W.getD 0 [], ht, W.getD 6 [] :: P, 60 * hrTo (W.getD 8 []) 0 2 + hrTo (W.getD 8 []) 3 2⟩ : Stp) = tt at *
    have hz : W.getD 0 default = W.getD 0 [] := rfl
    have hP1 : 1 + P.length = P.length + 1 := Nat.add_comm _ _
    clear hCH hfit hWW hoo hvb htt hW2 hGl2
    unfold ftW at h4
    simp only [envOf, envFrom, go_sem, reduceIte, Nat.reduceEqDiff]
    repeat' (first
      | (simp only [go_sem, reduceIte, Nat.reduceEqDiff, Nat.reduceBEq, Nat.reduceAdd, Nat.reduceSub, Nat.reduceLeDiff])
      | (simp (disch := omega) only [w64, nsub1, Int.reduceAdd, Int.reduceToNat])
      | (refine Rm_need (by first | exact True.intro | omega | (simp; omega)) ?_)
      | (rw [hdf])
      | (refine Rm_o hs rfl (fun r H2 hh => ?_); obtain ⟨rfl, rfl⟩ := hh)
      | (refine Rm_w rfl (hj1) (by trivial) ?_)
      | (refine Rm_w ?_ (hj1) (by trivial) ?_; · (simp [viewOfs, viewOf]; done))
      | (refine Rm_w rfl (hk3) (by trivial) ?_)
      | (refine Rm_w ?_ (hk3) (by trivial) ?_; · (simp [viewOfs, viewOf, List.take_of_length_le, cutL]; done))
      | (rw [cutE])
      | (rw [cutZ])
      | (contradiction)
      | (rw [hir, if_neg ?_]; exact ret_gen _ _ _ rfl rfl rfl ⟨rfl, rfl⟩; rintro ⟨c1, c2, c3, c4, c5, c6, c7⟩; first | omega | (simp_all; done) | (exact absurd c7 (by assumption)))
      | (refine Rm_gi (by first | omega | (simp; omega)) ?_)
      | (refine Rm_gb (by first | omega | (simp; omega)) ?_)
      | (refine Rm_ga (by first | omega | (simp; omega)) _ rfl (Nat.le_of_ble_eq_true rfl) ?_)
      | (refine Rm_gm (by first | omega | (simp; omega)) _ rfl ?_)
      | (refine Rm_part _ _ rfl rfl ?_)
      | (refine Rm_puti (by first | omega | (simp; omega)) rfl ?_)
      | (refine Dm_draw [] (by simp) ?_)
      | (refine Tm_both ?_ ?_)
      | (refine Tm_fin (by simp only [hideOK, newsE]; simp []) ?_)
      | (refine Cm_split (fun h => ?_) (fun h => ?_) <;> (try (simp only [decide_eq_true_eq, decide_eq_false_iff_not, bne_iff_ne, beq_iff_eq, bne_eq_false_iff_eq, beq_eq_false_iff_ne, Bool.not_eq_true', Bool.not_eq_false', ne_eq] at h)) <;> (try omega))
      | (refine Gm_split (fun h => ?_) (fun h => ?_) <;> (try simp only [ne_eq, Bool.not_eq_true, Bool.not_eq_false] at h) <;> (try rw [h]) <;> (try (simp only [decide_eq_true_eq, decide_eq_false_iff_not, bne_iff_ne, beq_iff_eq, bne_eq_false_iff_eq, beq_eq_false_iff_ne, Bool.not_eq_true, Bool.not_eq_true', Bool.not_eq_false, Bool.not_eq_false', ne_eq, Bool.and_eq_true, Bool.or_eq_true, true_eq_decide_iff, false_eq_decide_iff] at h)) <;> (try omega))
      | (refine Sm_split (fun h => ?_) (fun h => ?_) <;> (try (simp only [decide_eq_true_eq, decide_eq_false_iff_not, beq_iff_eq, beq_eq_false_iff_ne, ne_eq] at h)) <;> (try omega))
      | (exact ret_p rfl ⟨rfl, rfl⟩)
      | (refine ret_okv (by first | trivial | simp only [go_sem, detD, detDs, detP, and_self, and_true]) ?_)
      | (exact ret_gen _ _ _ rfl rfl rfl ⟨rfl, rfl⟩)
      | (simp only [Option.some.injEq, DV.tup.injEq, DV.p.injEq, List.cons.injEq, PV.int.injEq, PV.bool.injEq, PV.str.injEq, and_true, true_and])
      | rfl
      | (refine Bool.eq_iff_iff.2 ?_; simp only [decide_eq_true_eq, Bool.and_eq_true, Bool.or_eq_true, Bool.not_eq_true', decide_eq_false_iff_not, Bool.false_eq_true, beq_iff_eq, bne_iff_ne, ne_eq, false_iff, iff_false, true_iff, iff_true]; omega)
      | omega)
    all_goals skip
    refine Dm_loop [0, 2, 4, 7, 8, 10, 11, 12] (fun m ds H' => ∃ i : Nat, i ≤ 2 ∧ m = 2 - i ∧ ds = [.p (.str s), .ptr 0 0 0, .own 1 0 W.length, .own 1 5 (W.length - 5), .p (.int .i64 ht), .p (.int .i64 (hrTo (W.getD 8 []) 0 i)), .p (.int .i64 (hrTo (W.getD 8 []) 3 i)), .p (.int .i64 i)] ∧
      H' = [.box 27 zstr, .arr 9 1 (W.map .str)]) 2 ⟨0, by omega, by omega, rfl, rfl⟩ ?_
    rintro m ds H' ⟨i, hi, rfl, rfl, rfl⟩ -
    have hu0 : (default : UInt8) = 0 := rfl
    have hr1 : hrTo (W.getD 8 []) 0 (i + 1) = 10 * hrTo (W.getD 8 []) 0 i + (((W.getD 8 []).getD (0 + i) 0).toNat : Int) - 48 := rfl
    have hr2 : hrTo (W.getD 8 []) 3 (i + 1) = 10 * hrTo (W.getD 8 []) 3 i + (((W.getD 8 []).getD (3 + i) 0).toNat : Int) - 48 := rfl
    have hm1 := hmn 0 i hi
    have hm2 := hmn 3 i hi
    have hu1 := u8_lt ((W.getD 8 []).getD (0 + i) 0)
    have hu2 := u8_lt ((W.getD 8 []).getD (3 + i) 0)
    rw [Nat.zero_add] at hr1 hu1
    have h3i : ((3 : Int) + (i : Int)).toNat = 3 + i := by omega
    rcases Nat.lt_or_ge i 2 with hlt | hge
    · repeat' (first
        | (simp only [go_sem, reduceIte, Nat.reduceEqDiff, Nat.reduceAdd])
        | (simp (disch := omega) only [w64, nadd1, Int.reduceToNat])
        | (refine Rm_need (by first | exact True.intro | omega | (simp; omega)) ?_)
        | (rw [hdf])
        | (rw [hu0])
        | (rw [h3i])
        | (refine Rm_gi (by first | omega | (simp; omega)) ?_)
        | (refine Rm_gb (by first | omega | (simp; omega)) ?_)
        | (refine Rm_ga (by first | omega | (simp; omega)) _ rfl (Nat.le_of_ble_eq_true rfl) ?_)
        | (refine Rm_gm (by first | omega | (simp; omega)) _ rfl ?_)
        | (refine Rm_part _ _ rfl rfl ?_)
        | (refine Rm_puti (by first | omega | (simp; omega)) rfl ?_)
        | (refine Dm_draw [] (by simp) ?_)
        | (refine Tm_both ?_ ?_)
        | (refine Tm_fin (by simp only [hideOK, newsE]; simp []) ?_)
        | (refine Cm_split (fun h => ?_) (fun h => ?_) <;> (try (simp only [decide_eq_true_eq, decide_eq_false_iff_not] at h)) <;> (try omega))
        | (refine Gm_split (fun h => ?_) (fun h => ?_) <;> (try simp only [ne_eq, Bool.not_eq_true, Bool.not_eq_false] at h) <;> (try rw [h]) <;> (try (simp only [decide_eq_true_eq, decide_eq_false_iff_not, bne_iff_ne, beq_iff_eq, bne_eq_false_iff_eq, beq_eq_false_iff_ne, Bool.not_eq_true, Bool.not_eq_true', Bool.not_eq_false, Bool.not_eq_false', ne_eq, Bool.and_eq_true, Bool.or_eq_true, true_eq_decide_iff, false_eq_decide_iff] at h)) <;> (try omega))
        | (refine Sm_split (fun h => ?_) (fun h => ?_) <;> (try (simp only [decide_eq_true_eq, decide_eq_false_iff_not, bne_iff_ne, beq_iff_eq, bne_eq_false_iff_eq, beq_eq_false_iff_ne, Bool.not_eq_true, Bool.not_eq_true', Bool.not_eq_false, Bool.not_eq_false', ne_eq, Bool.and_eq_true, Bool.or_eq_true, true_eq_decide_iff, false_eq_decide_iff] at h)) <;> (try omega))
        | (exact ret_p rfl ⟨rfl, rfl⟩)
        | (refine ret_okv (by first | trivial | simp only [go_sem, detD, detDs, detP, and_self, and_true]) ?_)
        | (exact ret_gen _ _ _ rfl rfl rfl ⟨rfl, rfl⟩)
        | (simp only [Option.some.injEq, DV.tup.injEq, DV.p.injEq, List.cons.injEq, PV.int.injEq, PV.bool.injEq, PV.str.injEq, and_true, true_and])
        | rfl
        | (refine Bool.eq_iff_iff.2 ?_; simp only [decide_eq_true_eq, Bool.and_eq_true, Bool.or_eq_true, Bool.not_eq_true', decide_eq_false_iff_not, Bool.false_eq_true, beq_iff_eq, bne_iff_ne, ne_eq, false_iff, iff_false, true_iff, iff_true]; omega)
        | omega)
      all_goals skip
      refine Xm_inv_n (2 - (i + 1)) (by omega) ⟨i + 1, by omega, rfl, ?_, rfl⟩
      rw [hr1, hr2]; rfl
    · obtain rfl : i = 2 := by omega
      clear hr1 hr2 hu1 hu2
      repeat' (first
        | (simp only [go_sem, Nat.lt_add_one, reduceIte, Nat.reduceEqDiff, Nat.reduceBEq, Nat.reduceAdd, Nat.reduceSub, Nat.reduceMul, Nat.reduceLeDiff])
        | (simp (disch := omega) only [w64, List.take_length, Int.toNat_zero, Int.reduceToNat])
        | (refine Rm_need (by first | exact True.intro | omega | (simp; omega)) ?_)
        | (rw [hdf])
        | (rw [hP1])
        | (refine Rm_w ?_ hj2 (by trivial) ?_; · (simp [viewOfs, viewOf, Nat.sub_sub, List.take_of_length_le]; done))
        | (refine Rm_o hlp rfl (fun r H2 hh => ?_); obtain ⟨rfl, rfl⟩ := hh)
        | (refine Rm_w rfl (hval (by omega)) (by trivial) ?_)
        | (refine Rm_w ?_ (hval (by omega)) (by trivial) ?_; · (simp [viewOfs, viewOf, List.take_of_length_le]; done))
        | (refine Rm_w rfl (htxt (by assumption)) (by trivial) ?_)
        | (refine Rm_w ?_ (htxt (by assumption)) (by trivial) ?_; · (simp [viewOfs, viewOf, List.take_of_length_le]; done))
        | (refine Dm_draw [] (by simp) ?_)
        | (rw [hir, if_neg ?_]; exact ret_gen _ _ _ rfl rfl rfl ⟨rfl, rfl⟩; rintro ⟨c1, c2, c3, c4, c5, c6, c7⟩; first | omega | (simp_all; done) | (exact absurd c7 (by assumption)))
        | (rw [hir, if_pos ?_]; exact ret_gen _ _ _ rfl rfl rfl ⟨rfl, rfl⟩; exact ⟨by omega, by omega, by omega, by omega, by assumption, by assumption, by assumption⟩)
        | (refine Rm_gi (by first | omega | (simp; omega)) ?_)
        | (refine Rm_gb (by first | omega | (simp; omega)) ?_)
        | (refine Rm_ga (by first | omega | (simp; omega)) _ rfl (Nat.le_of_ble_eq_true rfl) ?_)
        | (refine Rm_gm (by first | omega | (simp; omega)) _ rfl ?_)
        | (refine Rm_part _ _ rfl rfl ?_)
        | (refine Rm_puti (by first | omega | (simp; omega)) rfl ?_)
        | (refine Dm_draw [] (by simp) ?_)
        | (refine Tm_both ?_ ?_)
        | (refine Tm_fin (by simp only [hideOK, newsE]; simp []) ?_)
        | (refine Cm_split (fun h => ?_) (fun h => ?_) <;> (try (simp only [decide_eq_true_eq, decide_eq_false_iff_not, beq_iff_eq, beq_eq_false_iff_ne, Bool.not_eq_true', Bool.not_eq_false', ne_eq] at h)) <;> (try omega))
        | (refine Gm_split (fun h => ?_) (fun h => ?_) <;> (try simp only [ne_eq, Bool.not_eq_true, Bool.not_eq_false] at h) <;> (try rw [h]) <;> (try (simp only [decide_eq_true_eq, decide_eq_false_iff_not, bne_iff_ne, beq_iff_eq, bne_eq_false_iff_eq, beq_eq_false_iff_ne, Bool.not_eq_true, Bool.not_eq_true', Bool.not_eq_false, Bool.not_eq_false', ne_eq, Bool.and_eq_true, Bool.or_eq_true, true_eq_decide_iff, false_eq_decide_iff] at h)) <;> (try omega))
        | (refine Sm_split (fun h => ?_) (fun h => ?_) <;> (try (simp only [Bool.not_eq_true', Bool.not_eq_false'] at h)) <;> (try omega))
        | (exact ret_p rfl ⟨rfl, rfl⟩)
        | (refine ret_okv (by first | trivial | simp only [go_sem, detD, detDs, detP, and_self, and_true]) ?_)
        | (exact ret_gen _ _ _ rfl rfl rfl ⟨rfl, rfl⟩)
        | (simp only [Option.some.injEq, DV.tup.injEq, DV.p.injEq, List.cons.injEq, PV.int.injEq, PV.bool.injEq, PV.str.injEq, and_true, true_and])
        | rfl
        | (refine Bool.eq_iff_iff.2 ?_; simp only [decide_eq_true_eq, Bool.and_eq_true, Bool.or_eq_true, Bool.not_eq_true', decide_eq_false_iff_not, Bool.false_eq_true, beq_iff_eq, bne_iff_ne, ne_eq, false_iff, iff_false, true_iff, iff_true]; omega)
        | omega)
      all_goals skip
  · have hn : ipN s = 1 := if_neg h4
    have hG : ipG s = joinTo (List.take 1 (List.drop 3 (splitB 32 s))) [32] (List.take 1 (List.drop 3 (splitB 32 s))).length := by unfold ipG; rw [hn]; rfl
    have hR : ipR s = (splitB 32 s).drop 4 := by unfold ipR; rw [hn]
    have hL : ipL s = joinTo ((splitB 32 s).drop 8) [32] ((splitB 32 s).drop 8).length := by unfold ipL; rw [hR, List.drop_drop]
    have hj1 := k_joinW (List.take 1 (List.drop 3 (splitB 32 s))) [32] (by decide) (by simp; omega) (Nat.le_trans s_part (Nat.le_trans drop_sum (by omega)))
    have hj2 := k_joinW ((splitB 32 s).drop 8) [32] (by decide) (by simp; omega) (Nat.le_trans drop_sum (by omega))
    rw [← hG] at hj1
    rw [← hL] at hj2
    have hGl := gl_len s hl
    have hLl := ll_len s hl
    have hk3 := k_iParseHeight (ipT s) (by unfold ipT; rw [List.length_take]; omega)
    have hT : ipT s = (ipG s).take ((ipG s).length - 1) := rfl
    have hlp := k_letterParts (ipL s) (by omega)
    have hx0 : ∀ j, j < (splitB 32 s).length → (((splitB 32 s).getD j []).length ≤ s.length) := fun j hj => Nat.le_trans (s_one hj) hW2
    have hR3 : (ipR s).getD 3 [] = (splitB 32 s).getD 7 [] := by rw [hR]; simp [List.getD_eq_getElem?_getD, List.getElem?_drop]
    have hR1 : (ipR s).getD 1 [] = (splitB 32 s).getD 5 [] := by rw [hR]; simp [List.getD_eq_getElem?_getD, List.getElem?_drop]
    have hRl : (ipR s).length = (splitB 32 s).length - 4 := by rw [hR, List.length_drop]
    have hX : ipX s = ⟨(splitB 32 s).getD 0 [], (chkH (ipT s) (hgI (ipT s))).1, (splitB 32 s).getD 5 [] :: parts (ipL s), 60 * hrTo ((splitB 32 s).getD 7 []) 0 2 + hrTo ((splitB 32 s).getD 7 []) 3 2⟩ := by rw [← hR1, ← hR3]; rfl
    have hch := chk_in (ipT s) (hgI (ipT s))
    have hir : iParse s = if 8 ≤ (splitB 32 s).length ∧ (ipG s).length ≠ 0 ∧ 5 ≤ (splitB 32 s).length - 4 ∧ ((splitB 32 s).getD 7 []).length = 5 ∧ (chkH (ipT s) (hgI (ipT s))).2 = true ∧ stB (ipX s) = true ∧ stT (ipX s) = s then some (ipX s) else none := by
      rw [← hRl, ← hR3]
      rfl
    have hfit : 8 ≤ (splitB 32 s).length → StFits (ipX s) := fun h8 => ipX_fits s hl h8 hn
    have hpl := parts_len (ipL s)
    have hmn := hr_in ((splitB 32 s).getD 7 [])
    rw [hX] at hir hfit
    clear hX hR1 hR3 hRl hR hG hL hn
    generalize hCH : chkH (ipT s) (hgI (ipT s)) = CH at *
    obtain ⟨ht, hb⟩ := CH
    simp only [] at *
    rw [hT] at hk3
    clear hT
    generalize ipG s = G at *
    generalize ipL s = L at *
    generalize parts L = P at *
    have hval := fun h8 => k_IsValidStrip _ (hfit h8)
    have htxt := fun h8 => k_stripText (⟨(splitB 32 s).getD 0 [], ht, (splitB 32 s).getD 5 [] :: P, 60 * hrTo ((splitB 32 s).getD 7 []) 0 2 + hrTo ((splitB 32 s).getD 7 []) 3 2⟩ : Stp) h8
    simp only [] at hval htxt
    have hx3 := hx0 7
    have hx1 := hx0 5
    generalize hWW : splitB 32 s = W at *
    generalize hoo : iParse s = o at *
    generalize hvb : stB (⟨W.getD 0 [], ht, W.getD 5 [] :: P, 60 * hrTo (W.getD 7 []) 0 2 + hrTo (W.getD 7 []) 3 2⟩ : Stp) = vb at *
    generalize htt : stT (⟨W.getD 0 [], ht, W.getD 5 [] :: P, 60 * hrTo (W.getD 7 []) 0 2 + hrTo (W.getD 7 []) 3 2⟩ : Stp) = tt at *
    have hz : W.getD 0 default = W.getD 0 [] := rfl
    have hP1 : 1 + P.length = P.length + 1 := Nat.add_comm _ _
    clear hCH hfit hWW hoo hvb htt hW2 hGl2
    unfold ftW at h4
    simp only [envOf, envFrom, go_sem, reduceIte, Nat.reduceEqDiff]
    repeat' (first
      | (simp only [go_sem, reduceIte, Nat.reduceEqDiff, Nat.reduceBEq, Nat.reduceAdd, Nat.reduceSub, Nat.reduceLeDiff])
      | (simp (disch := omega) only [w64, nsub1, Int.reduceAdd, Int.reduceToNat])
      | (refine Rm_need (by first | exact True.intro | omega | (simp; omega)) ?_)
      | (rw [hdf])
      | (refine Rm_o hs rfl (fun r H2 hh => ?_); obtain ⟨rfl, rfl⟩ := hh)
      | (refine Rm_w rfl (hj1) (by trivial) ?_)
      | (refine Rm_w ?_ (hj1) (by trivial) ?_; · (simp [viewOfs, viewOf]; done))
      | (refine Rm_w rfl (hk3) (by trivial) ?_)
      | (refine Rm_w ?_ (hk3) (by trivial) ?_; · (simp [viewOfs, viewOf, List.take_of_length_le, cutL]; done))
      | (rw [cutE])
      | (rw [cutZ])
      | (contradiction)
      | (rw [hir, if_neg ?_]; exact ret_gen _ _ _ rfl rfl rfl ⟨rfl, rfl⟩; rintro ⟨c1, c2, c3, c4, c5, c6, c7⟩; first | omega | (simp_all; done) | (exact absurd c7 (by assumption)))
      | (refine Rm_gi (by first | omega | (simp; omega)) ?_)
      | (refine Rm_gb (by first | omega | (simp; omega)) ?_)
      | (refine Rm_ga (by first | omega | (simp; omega)) _ rfl (Nat.le_of_ble_eq_true rfl) ?_)
      | (refine Rm_gm (by first | omega | (simp; omega)) _ rfl ?_)
      | (refine Rm_part _ _ rfl rfl ?_)
      | (refine Rm_puti (by first | omega | (simp; omega)) rfl ?_)
      | (refine Dm_draw [] (by simp) ?_)
      | (refine Tm_both ?_ ?_)
      | (refine Tm_fin (by simp only [hideOK, newsE]; simp []) ?_)
      | (refine Cm_split (fun h => ?_) (fun h => ?_) <;> (try (simp only [decide_eq_true_eq, decide_eq_false_iff_not, bne_iff_ne, beq_iff_eq, bne_eq_false_iff_eq, beq_eq_false_iff_ne, Bool.not_eq_true', Bool.not_eq_false', ne_eq] at h)) <;> (try omega))
      | (refine Gm_split (fun h => ?_) (fun h => ?_) <;> (try simp only [ne_eq, Bool.not_eq_true, Bool.not_eq_false] at h) <;> (try rw [h]) <;> (try (simp only [decide_eq_true_eq, decide_eq_false_iff_not, bne_iff_ne, beq_iff_eq, bne_eq_false_iff_eq, beq_eq_false_iff_ne, Bool.not_eq_true, Bool.not_eq_true', Bool.not_eq_false, Bool.not_eq_false', ne_eq, Bool.and_eq_true, Bool.or_eq_true, true_eq_decide_iff, false_eq_decide_iff] at h)) <;> (try omega))
      | (refine Sm_split (fun h => ?_) (fun h => ?_) <;> (try (simp only [decide_eq_true_eq, decide_eq_false_iff_not, beq_iff_eq, beq_eq_false_iff_ne, ne_eq] at h)) <;> (try omega))
      | (exact ret_p rfl ⟨rfl, rfl⟩)
      | (refine ret_okv (by first | trivial | simp only [go_sem, detD, detDs, detP, and_self, and_true]) ?_)
      | (exact ret_gen _ _ _ rfl rfl rfl ⟨rfl, rfl⟩)
      | (simp only [Option.some.injEq, DV.tup.injEq, DV.p.injEq, List.cons.injEq, PV.int.injEq, PV.bool.injEq, PV.str.injEq, and_true, true_and])
      | rfl
      | (refine Bool.eq_iff_iff.2 ?_; simp only [decide_eq_true_eq, Bool.and_eq_true, Bool.or_eq_true, Bool.not_eq_true', decide_eq_false_iff_not, Bool.false_eq_true, beq_iff_eq, bne_iff_ne, ne_eq, false_iff, iff_false, true_iff, iff_true]; omega)
      | omega)
    all_goals skip
    refine Dm_loop [0, 2, 4, 7, 8, 10, 11, 12] (fun m ds H' => ∃ i : Nat, i ≤ 2 ∧ m = 2 - i ∧ ds = [.p (.str s), .ptr 0 0 0, .own 1 0 W.length, .own 1 4 (W.length - 4), .p (.int .i64 ht), .p (.int .i64 (hrTo (W.getD 7 []) 0 i)), .p (.int .i64 (hrTo (W.getD 7 []) 3 i)), .p (.int .i64 i)] ∧
      H' = [.box 27 zstr, .arr 9 1 (W.map .str)]) 2 ⟨0, by omega, by omega, rfl, rfl⟩ ?_
    rintro m ds H' ⟨i, hi, rfl, rfl, rfl⟩ -
    have hu0 : (default : UInt8) = 0 := rfl
    have hr1 : hrTo (W.getD 7 []) 0 (i + 1) = 10 * hrTo (W.getD 7 []) 0 i + (((W.getD 7 []).getD (0 + i) 0).toNat : Int) - 48 := rfl
    have hr2 : hrTo (W.getD 7 []) 3 (i + 1) = 10 * hrTo (W.getD 7 []) 3 i + (((W.getD 7 []).getD (3 + i) 0).toNat : Int) - 48 := rfl
    have hm1 := hmn 0 i hi
    have hm2 := hmn 3 i hi
    have hu1 := u8_lt ((W.getD 7 []).getD (0 + i) 0)
    have hu2 := u8_lt ((W.getD 7 []).getD (3 + i) 0)
    rw [Nat.zero_add] at hr1 hu1
    have h3i : ((3 : Int) + (i : Int)).toNat = 3 + i := by omega
    rcases Nat.lt_or_ge i 2 with hlt | hge
    · repeat' (first
        | (simp only [go_sem, reduceIte, Nat.reduceEqDiff, Nat.reduceAdd])
        | (simp (disch := omega) only [w64, nadd1, Int.reduceToNat])
        | (refine Rm_need (by first | exact True.intro | omega | (simp; omega)) ?_)
        | (rw [hdf])
        | (rw [hu0])
        | (rw [h3i])
        | (refine Rm_gi (by first | omega | (simp; omega)) ?_)
        | (refine Rm_gb (by first | omega | (simp; omega)) ?_)
        | (refine Rm_ga (by first | omega | (simp; omega)) _ rfl (Nat.le_of_ble_eq_true rfl) ?_)
        | (refine Rm_gm (by first | omega | (simp; omega)) _ rfl ?_)
        | (refine Rm_part _ _ rfl rfl ?_)
        | (refine Rm_puti (by first | omega | (simp; omega)) rfl ?_)
        | (refine Dm_draw [] (by simp) ?_)
        | (refine Tm_both ?_ ?_)
        | (refine Tm_fin (by simp only [hideOK, newsE]; simp []) ?_)
        | (refine Cm_split (fun h => ?_) (fun h => ?_) <;> (try (simp only [decide_eq_true_eq, decide_eq_false_iff_not] at h)) <;> (try omega))
        | (refine Gm_split (fun h => ?_) (fun h => ?_) <;> (try simp only [ne_eq, Bool.not_eq_true, Bool.not_eq_false] at h) <;> (try rw [h]) <;> (try (simp only [decide_eq_true_eq, decide_eq_false_iff_not, bne_iff_ne, beq_iff_eq, bne_eq_false_iff_eq, beq_eq_false_iff_ne, Bool.not_eq_true, Bool.not_eq_true', Bool.not_eq_false, Bool.not_eq_false', ne_eq, Bool.and_eq_true, Bool.or_eq_true, true_eq_decide_iff, false_eq_decide_iff] at h)) <;> (try omega))
        | (refine Sm_split (fun h => ?_) (fun h => ?_) <;> (try (simp only [decide_eq_true_eq, decide_eq_false_iff_not, bne_iff_ne, beq_iff_eq, bne_eq_false_iff_eq, beq_eq_false_iff_ne, Bool.not_eq_true, Bool.not_eq_true', Bool.not_eq_false, Bool.not_eq_false', ne_eq, Bool.and_eq_true, Bool.or_eq_true, true_eq_decide_iff, false_eq_decide_iff] at h)) <;> (try omega))
        | (exact ret_p rfl ⟨rfl, rfl⟩)
        | (refine ret_okv (by first | trivial | simp only [go_sem, detD, detDs, detP, and_self, and_true]) ?_)
        | (exact ret_gen _ _ _ rfl rfl rfl ⟨rfl, rfl⟩)
        | (simp only [Option.some.injEq, DV.tup.injEq, DV.p.injEq, List.cons.injEq, PV.int.injEq, PV.bool.injEq, PV.str.injEq, and_true, true_and])
        | rfl
        | (refine Bool.eq_iff_iff.2 ?_; simp only [decide_eq_true_eq, Bool.and_eq_true, Bool.or_eq_true, Bool.not_eq_true', decide_eq_false_iff_not, Bool.false_eq_true, beq_iff_eq, bne_iff_ne, ne_eq, false_iff, iff_false, true_iff, iff_true]; omega)
        | omega)
      all_goals skip
      refine Xm_inv_n (2 - (i + 1)) (by omega) ⟨i + 1, by omega, rfl, ?_, rfl⟩
      rw [hr1, hr2]; rfl
    · obtain rfl : i = 2 := by omega
      clear hr1 hr2 hu1 hu2
      repeat' (first
        | (simp only [go_sem, Nat.lt_add_one, reduceIte, Nat.reduceEqDiff, Nat.reduceBEq, Nat.reduceAdd, Nat.reduceSub, Nat.reduceMul, Nat.reduceLeDiff])
        | (simp (disch := omega) only [w64, List.take_length, Int.toNat_zero, Int.reduceToNat])
        | (refine Rm_need (by first | exact True.intro | omega | (simp; omega)) ?_)
        | (rw [hdf])
        | (rw [hP1])
        | (refine Rm_w ?_ hj2 (by trivial) ?_; · (simp [viewOfs, viewOf, Nat.sub_sub, List.take_of_length_le]; done))
        | (refine Rm_o hlp rfl (fun r H2 hh => ?_); obtain ⟨rfl, rfl⟩ := hh)
        | (refine Rm_w rfl (hval (by omega)) (by trivial) ?_)
        | (refine Rm_w ?_ (hval (by omega)) (by trivial) ?_; · (simp [viewOfs, viewOf, List.take_of_length_le]; done))
        | (refine Rm_w rfl (htxt (by assumption)) (by trivial) ?_)
        | (refine Rm_w ?_ (htxt (by assumption)) (by trivial) ?_; · (simp [viewOfs, viewOf, List.take_of_length_le]; done))
        | (refine Dm_draw [] (by simp) ?_)
        | (rw [hir, if_neg ?_]; exact ret_gen _ _ _ rfl rfl rfl ⟨rfl, rfl⟩; rintro ⟨c1, c2, c3, c4, c5, c6, c7⟩; first | omega | (simp_all; done) | (exact absurd c7 (by assumption)))
        | (rw [hir, if_pos ?_]; exact ret_gen _ _ _ rfl rfl rfl ⟨rfl, rfl⟩; exact ⟨by omega, by omega, by omega, by omega, by assumption, by assumption, by assumption⟩)
        | (refine Rm_gi (by first | omega | (simp; omega)) ?_)
        | (refine Rm_gb (by first | omega | (simp; omega)) ?_)
        | (refine Rm_ga (by first | omega | (simp; omega)) _ rfl (Nat.le_of_ble_eq_true rfl) ?_)
        | (refine Rm_gm (by first | omega | (simp; omega)) _ rfl ?_)
        | (refine Rm_part _ _ rfl rfl ?_)
        | (refine Rm_puti (by first | omega | (simp; omega)) rfl ?_)
        | (refine Dm_draw [] (by simp) ?_)
        | (refine Tm_both ?_ ?_)
        | (refine Tm_fin (by simp only [hideOK, newsE]; simp []) ?_)
        | (refine Cm_split (fun h => ?_) (fun h => ?_) <;> (try (simp only [decide_eq_true_eq, decide_eq_false_iff_not, beq_iff_eq, beq_eq_false_iff_ne, Bool.not_eq_true', Bool.not_eq_false', ne_eq] at h)) <;> (try omega))
        | (refine Gm_split (fun h => ?_) (fun h => ?_) <;> (try simp only [ne_eq, Bool.not_eq_true, Bool.not_eq_false] at h) <;> (try rw [h]) <;> (try (simp only [decide_eq_true_eq, decide_eq_false_iff_not, bne_iff_ne, beq_iff_eq, bne_eq_false_iff_eq, beq_eq_false_iff_ne, Bool.not_eq_true, Bool.not_eq_true', Bool.not_eq_false, Bool.not_eq_false', ne_eq, Bool.and_eq_true, Bool.or_eq_true, true_eq_decide_iff, false_eq_decide_iff] at h)) <;> (try omega))
        | (refine Sm_split (fun h => ?_) (fun h => ?_) <;> (try (simp only [Bool.not_eq_true', Bool.not_eq_false'] at h)) <;> (try omega))
        | (exact ret_p rfl ⟨rfl, rfl⟩)
        | (refine ret_okv (by first | trivial | simp only [go_sem, detD, detDs, detP, and_self, and_true]) ?_)
        | (exact ret_gen _ _ _ rfl rfl rfl ⟨rfl, rfl⟩)
        | (simp only [Option.some.injEq, DV.tup.injEq, DV.p.injEq, List.cons.injEq, PV.int.injEq, PV.bool.injEq, PV.str.injEq, and_true, true_and])
        | rfl
        | (refine Bool.eq_iff_iff.2 ?_; simp only [decide_eq_true_eq, Bool.and_eq_true, Bool.or_eq_true, Bool.not_eq_true', decide_eq_false_iff_not, Bool.false_eq_true, beq_iff_eq, bne_iff_ne, ne_eq, false_iff, iff_false, true_iff, iff_true]; omega)
        | omega)
      all_goals skip
end Go.Proofs.Ytchekagoaidlpaa

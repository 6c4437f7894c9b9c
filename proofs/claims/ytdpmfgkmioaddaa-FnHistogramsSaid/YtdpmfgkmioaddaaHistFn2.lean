import Derived.Test.YtdpmfgkmioaddaaHistFn
namespace Go.Proofs.Ytdpmfgkmioaddaa
open Go.Dv Go.Dv.EvL
attribute [local irreducible] Ok Rm Dm Om Sm Xm Cm Gm Hm Tm

theorem rise_nat (xs : List Int) : ∃ (b m : Nat) (t : Bool), riseO xs = ((b : Int), (m : Int), t) ∧ b + m ≤ xs.length ∧ ∀ j, b < j → j < b + m → xs.getD (j - 1) 0 < xs.getD j 0 := by
  rcases rise_cases xs with h | ⟨b, m, h, h2⟩
  · exact ⟨0, 0, false, h, by omega, fun j h1 h2 => by omega⟩
  · exact ⟨b, m, true, h, h2⟩
theorem freq_told {xs : List Int} (h : (freqO xs).2.2 = true) : (freqO xs).2.1 = xs.count (freqO xs).1 := by
  unfold freqO at h ⊢
  split at h
  · rename_i hs
    rw [if_pos hs]
    exact freq_count hs
  · cases h
theorem lt_no' {a b : Int} (h : b ≤ a) : decide (a < b) = false := lt_no h
theorem hist_sum {xs : List Int} {low width bins : Int} (h : histB xs low width bins = true) : (histO xs low width bins).1.sum + (histO xs low width bins).2.1 + (histO xs low width bins).2.2 = xs.length := hist_total h
set_option maxRecDepth 100000 in
set_option maxRecDepth 100000 in
set_option maxHeartbeats 16000000 in
/-- laws.FnHistograms -/
theorem k_FnHistograms (code : List UInt8) (hc : code.length ≤ 9223372036854775807) : Okv Try.prog 14 [codeP code] (.p (.bool true)) := by
  refine ok_D hmix c_laws_FnHistograms (by simp) ?_
  have hbig := k_rBig code hc
  by_cases hb : 65536 < code.length
  · rw [decide_eq_true hb] at hbig
    simp only [envOf, envFrom, go_sem, reduceIte, Nat.reduceEqDiff]
    repeat' (first
      | (simp only [go_sem, reduceIte, Nat.reduceEqDiff])
      | (simp (disch := omega) only [w64, w8, bytesOf_cons, tmod10, tdiv10, tn48, nsub1, nadd1, nsub, nadd, nmul, List.take_length, Int.toNat_zero, Int.reduceAdd, Int.reduceSub, Int.reduceToNat, Int.reduceMul, Nat.sub_zero, Nat.min_self])
      | (refine Rm_need (by first | exact True.intro | omega | (simp; omega)) ?_)
      | (refine Rm_w rfl (hbig) (by trivial) ?_)
      | (refine Rm_w ?_ (hbig) (by trivial) ?_; · (simp [viewOfs, viewOf, List.take_of_length_le, cutL]; done))
      | (refine Rm_gi (by first | omega | (simp; omega)) ?_)
      | (refine Rm_gb (by first | omega | (simp; omega)) ?_)
      | (refine Rm_ga (by first | omega | (simp; omega)) _ rfl (Nat.le_of_ble_eq_true rfl) ?_)
      | (refine Rm_gm (by first | omega | (simp; omega)) _ rfl ?_)
      | (refine Rm_puti (by first | omega | (simp; omega)) rfl ?_)
      | (refine Dm_draw [] (by simp) ?_)
      | (refine Tm_both ?_ ?_)
      | (refine Tm_fin (by simp only [hideOK, newsE]; simp []) ?_)
      | (refine Cm_split (fun h => ?_) (fun h => ?_) <;> (try (simp only [decide_eq_true_eq, decide_eq_false_iff_not, bne_iff_ne, beq_iff_eq, bne_eq_false_iff_eq, beq_eq_false_iff_ne, Bool.not_eq_true, Bool.not_eq_true', Bool.not_eq_false, Bool.not_eq_false', ne_eq, Bool.and_eq_true, Bool.or_eq_true, true_eq_decide_iff, false_eq_decide_iff] at h)) <;> (try omega))
      | (refine Gm_split (fun h => ?_) (fun h => ?_) <;> (try simp only [ne_eq, Bool.not_eq_true, Bool.not_eq_false] at h) <;> (try rw [h]) <;> (try (simp only [decide_eq_true_eq, decide_eq_false_iff_not, bne_iff_ne, beq_iff_eq, bne_eq_false_iff_eq, beq_eq_false_iff_ne, Bool.not_eq_true, Bool.not_eq_true', Bool.not_eq_false, Bool.not_eq_false', ne_eq, Bool.and_eq_true, Bool.or_eq_true, true_eq_decide_iff, false_eq_decide_iff] at h)) <;> (try omega))
      | (refine Sm_split (fun h => ?_) (fun h => ?_) <;> (try (simp only [decide_eq_true_eq, decide_eq_false_iff_not, bne_iff_ne, beq_iff_eq, bne_eq_false_iff_eq, beq_eq_false_iff_ne, Bool.not_eq_true, Bool.not_eq_true', Bool.not_eq_false, Bool.not_eq_false', ne_eq, Bool.and_eq_true, Bool.or_eq_true, true_eq_decide_iff, false_eq_decide_iff] at h)) <;> (try omega))
      | (exact ret_p rfl ⟨rfl, rfl⟩)
      | (refine ret_okv (by first | trivial | simp only [go_sem, detD, detDs, detP, and_self, and_true]) ?_)
      | (exact ret_gen _ _ _ rfl rfl rfl ⟨rfl, rfl⟩)
      | (simp only [Option.some.injEq, DV.tup.injEq, DV.p.injEq, List.cons.injEq, PV.int.injEq, PV.bool.injEq, PV.str.injEq, and_true, true_and])
      | rfl
      | (refine Bool.eq_iff_iff.2 ?_; simp only [decide_eq_true_eq, Bool.and_eq_true, Bool.or_eq_true, Bool.not_eq_true', decide_eq_false_iff_not, Bool.false_eq_true, beq_iff_eq, bne_iff_ne, ne_eq, false_iff, iff_false, true_iff, iff_true]; omega)
      | omega)
  · rw [decide_eq_false hb] at hbig
    simp only [envOf, envFrom, go_sem, reduceIte, Nat.reduceEqDiff]
    repeat' (first
      | (simp only [go_sem, reduceIte, Nat.reduceEqDiff])
      | (simp (disch := omega) only [w64, w8, bytesOf_cons, tmod10, tdiv10, tn48, nsub1, nadd1, nsub, nadd, nmul, List.take_length, Int.toNat_zero, Int.reduceAdd, Int.reduceSub, Int.reduceToNat, Int.reduceMul, Nat.sub_zero, Nat.min_self])
      | (refine Rm_need (by first | exact True.intro | omega | (simp; omega)) ?_)
      | (refine Rm_w rfl (hbig) (by trivial) ?_)
      | (refine Rm_w ?_ (hbig) (by trivial) ?_; · (simp [viewOfs, viewOf, List.take_of_length_le, cutL]; done))
      | (refine Rm_gi (by first | omega | (simp; omega)) ?_)
      | (refine Rm_gb (by first | omega | (simp; omega)) ?_)
      | (refine Rm_ga (by first | omega | (simp; omega)) _ rfl (Nat.le_of_ble_eq_true rfl) ?_)
      | (refine Rm_gm (by first | omega | (simp; omega)) _ rfl ?_)
      | (refine Rm_puti (by first | omega | (simp; omega)) rfl ?_)
      | (refine Dm_draw [] (by simp) ?_)
      | (refine Tm_both ?_ ?_)
      | (refine Tm_fin (by simp only [hideOK, newsE]; simp []) ?_)
      | (refine Cm_split (fun h => ?_) (fun h => ?_) <;> (try (simp only [decide_eq_true_eq, decide_eq_false_iff_not, bne_iff_ne, beq_iff_eq, bne_eq_false_iff_eq, beq_eq_false_iff_ne, Bool.not_eq_true, Bool.not_eq_true', Bool.not_eq_false, Bool.not_eq_false', ne_eq, Bool.and_eq_true, Bool.or_eq_true, true_eq_decide_iff, false_eq_decide_iff] at h)) <;> (try omega))
      | (refine Gm_split (fun h => ?_) (fun h => ?_) <;> (try simp only [ne_eq, Bool.not_eq_true, Bool.not_eq_false] at h) <;> (try rw [h]) <;> (try (simp only [decide_eq_true_eq, decide_eq_false_iff_not, bne_iff_ne, beq_iff_eq, bne_eq_false_iff_eq, beq_eq_false_iff_ne, Bool.not_eq_true, Bool.not_eq_true', Bool.not_eq_false, Bool.not_eq_false', ne_eq, Bool.and_eq_true, Bool.or_eq_true, true_eq_decide_iff, false_eq_decide_iff] at h)) <;> (try omega))
      | (refine Sm_split (fun h => ?_) (fun h => ?_) <;> (try (simp only [decide_eq_true_eq, decide_eq_false_iff_not, bne_iff_ne, beq_iff_eq, bne_eq_false_iff_eq, beq_eq_false_iff_ne, Bool.not_eq_true, Bool.not_eq_true', Bool.not_eq_false, Bool.not_eq_false', ne_eq, Bool.and_eq_true, Bool.or_eq_true, true_eq_decide_iff, false_eq_decide_iff] at h)) <;> (try omega))
      | (exact ret_p rfl ⟨rfl, rfl⟩)
      | (refine ret_okv (by first | trivial | simp only [go_sem, detD, detDs, detP, and_self, and_true]) ?_)
      | (exact ret_gen _ _ _ rfl rfl rfl ⟨rfl, rfl⟩)
      | (simp only [Option.some.injEq, DV.tup.injEq, DV.p.injEq, List.cons.injEq, PV.int.injEq, PV.bool.injEq, PV.str.injEq, and_true, true_and])
      | rfl
      | (refine Bool.eq_iff_iff.2 ?_; simp only [decide_eq_true_eq, Bool.and_eq_true, Bool.or_eq_true, Bool.not_eq_true', decide_eq_false_iff_not, Bool.false_eq_true, beq_iff_eq, bne_iff_ne, ne_eq, false_iff, iff_false, true_iff, iff_true]; omega)
      | omega)
    refine Rm_o (k_DrawHistogramOf code (by omega)) rfl ?_
    rintro r H2 ⟨xs, low, width, bins, rfl, rfl, hxl⟩
    cases hh : histB xs low width bins
    · have i1 := k_iHist0 xs low width bins (by omega) hh
      have i2 := k_sHist0 xs low width bins (by omega) hh
      have i3 := k_rInts [] (by simp)
      repeat' (first
        | (simp only [go_sem, reduceIte, Nat.reduceEqDiff, Nat.reduceBEq, Nat.reduceAdd])
        | (simp (disch := omega) only [w64, nadd1])
        | (refine Rm_need (by first | exact True.intro | omega | (simp; omega)) ?_)
        | (refine Rm_l i1 (by simp [viewOfs, viewOf, List.take_of_length_le]) (fun r H2 hh => ?_); obtain ⟨rfl, rfl⟩ := hh; refine ⟨by simp [flatD, flatDs, flatP], trivial, ?_⟩)
        | (refine Rm_l i2 (by simp [viewOfs, viewOf, List.take_of_length_le]) (fun r H2 hh => ?_); obtain ⟨rfl, rfl⟩ := hh; refine ⟨by simp [flatD, flatDs, flatP], flatH_one trivial, ?_⟩)
        | (refine Rm_w rfl (i3) (by trivial) ?_)
        | (refine Rm_w ?_ (i3) (by trivial) ?_; · (simp [viewOfs, viewOf, List.take_of_length_le, cutL]; done))
        | (refine Rm_o (k_DrawMostFrequent code (by omega)) rfl (fun r H2 hh => ?_); obtain ⟨ms, rfl, rfl, -, hml⟩ := hh; have f1 := k_iFreq ms (by omega); have f2 := k_sFreq ms (by omega); have f3 := freq_told (xs := ms); have f4 := fr_most ms (srt ms); generalize freqO ms = F at *; obtain ⟨F1, F2, F3⟩ := F; simp only [tri] at f1 f2)
        | (refine Rm_w ?_ f1 (by trivial) ?_; · (simp [viewOfs, viewOf, List.take_of_length_le]; done))
        | (refine Rm_w ?_ f2 (by trivial) ?_; · (simp [viewOfs, viewOf, List.take_of_length_le]; done))
        | (refine Rm_o (k_DrawLongestRise code (by omega)) rfl (fun r H2 hh => ?_); obtain ⟨rs, rfl, rfl, -, hrl⟩ := hh; obtain ⟨rb, rm, rt, g0, g3, g4⟩ := rise_nat rs; have g1 := k_iRise rs (by omega); have g2 := k_sRise rs (by omega); rw [g0] at g1 g2; simp only [tri] at g1 g2; clear g0)
        | (refine Rm_w ?_ g1 (by trivial) ?_; · (simp [viewOfs, viewOf, List.take_of_length_le]; done))
        | (refine Rm_w ?_ g2 (by trivial) ?_; · (simp [viewOfs, viewOf, List.take_of_length_le]; done))
        | (refine Rm_o (k_DrawSlopeOf code (by omega)) rfl (fun r H2 hh => ?_); obtain ⟨ss, rfl, rfl, -, hsl⟩ := hh; have e1 := k_iSlope ss (by omega); have e2 := k_sSlope ss (by omega); have e3 := k_iSlope ss.reverse (by simp; omega); have e4 := slope_in2 ss; rw [slope_rev] at e3; generalize slopeO ss = S at *; obtain ⟨S1, S2, S3⟩ := S; simp only [tri] at e1 e2 e3 e4)
        | (refine Rm_w ?_ e1 (by trivial) ?_; · (simp [viewOfs, viewOf, List.take_of_length_le]; done))
        | (refine Rm_w ?_ e2 (by trivial) ?_; · (simp [viewOfs, viewOf, List.take_of_length_le]; done))
        | (refine Rm_gi (by first | omega | (simp; omega)) ?_)
        | (refine Rm_gb (by first | omega | (simp; omega)) ?_)
        | (refine Rm_ga (by first | omega | (simp; omega)) _ rfl (Nat.le_of_ble_eq_true rfl) ?_)
        | (refine Rm_gm (by first | omega | (simp; omega)) _ rfl ?_)
        | (refine Rm_puti (by first | omega | (simp; omega)) rfl ?_)
        | (refine Dm_draw [] (by simp) ?_)
        | (refine Tm_both ?_ ?_)
        | (refine Tm_fin (by simp only [hideOK, newsE]; simp []) ?_)
        | (refine Cm_split (fun h => ?_) (fun h => ?_) <;> (try (simp only [decide_eq_true_eq, decide_eq_false_iff_not, bne_iff_ne, beq_iff_eq, bne_eq_false_iff_eq, beq_eq_false_iff_ne, Bool.not_eq_true, Bool.not_eq_true', Bool.not_eq_false, Bool.not_eq_false', ne_eq, Bool.and_eq_true, Bool.or_eq_true, true_eq_decide_iff, false_eq_decide_iff] at h)) <;> (try omega))
        | (refine Gm_split (fun h => ?_) (fun h => ?_) <;> (try simp only [ne_eq, Bool.not_eq_true, Bool.not_eq_false] at h) <;> (try rw [h]) <;> (try (simp only [decide_eq_true_eq, decide_eq_false_iff_not, bne_iff_ne, beq_iff_eq, bne_eq_false_iff_eq, beq_eq_false_iff_ne, Bool.not_eq_true, Bool.not_eq_true', Bool.not_eq_false, Bool.not_eq_false', ne_eq, Bool.and_eq_true, Bool.or_eq_true, true_eq_decide_iff, false_eq_decide_iff] at h)) <;> (try omega))
        | (refine Sm_split (fun h => ?_) (fun h => ?_) <;> (try (simp only [decide_eq_true_eq, decide_eq_false_iff_not, bne_iff_ne, beq_iff_eq, bne_eq_false_iff_eq, beq_eq_false_iff_ne, Bool.not_eq_true, Bool.not_eq_true', Bool.not_eq_false, Bool.not_eq_false', ne_eq, Bool.and_eq_true, Bool.or_eq_true, true_eq_decide_iff, false_eq_decide_iff] at h)) <;> (try omega))
        | (exact ret_p rfl ⟨rfl, rfl⟩)
        | (refine ret_okv (by first | trivial | simp only [go_sem, detD, detDs, detP, and_self, and_true]) ?_)
        | (exact ret_gen _ _ _ rfl rfl rfl ⟨rfl, rfl⟩)
        | (simp only [Option.some.injEq, DV.tup.injEq, DV.p.injEq, List.cons.injEq, PV.int.injEq, PV.bool.injEq, PV.str.injEq, and_true, true_and])
        | rfl
        | (refine Bool.eq_iff_iff.2 ?_; simp only [decide_eq_true_eq, Bool.and_eq_true, Bool.or_eq_true, Bool.not_eq_true', decide_eq_false_iff_not, Bool.false_eq_true, beq_iff_eq, bne_iff_ne, ne_eq, false_iff, iff_false, true_iff, iff_true]; omega)
        | omega)
      all_goals try (
        refine Dm_loop [0, 15, 16, 17, 22, 23] (fun m ds H' => ∃ i : Nat, i ≤ ms.length ∧ m = ms.length - i ∧ ds = [.p (codeP code), .own 0 0 ms.length, .p (.int .i64 F1), .p (.int .i64 F2), .p (.int .i64 ((ms.take i).count F1 : Nat)), .p (.int .i64 i)] ∧ H' = [.arr 3 1 (ms.map (.int .i64))]) ms.length ⟨0, by omega, by omega, rfl, rfl⟩ ?_
        rintro m ds H' ⟨i, hi, rfl, rfl, rfl⟩ -
        have c1 := fun h : i < ms.length => count_step (x := F1) h
        have c2 := List.count_le_length (a := F1) (l := ms.take i)
        have c3 : (ms.take i).length ≤ 50 := by rw [List.length_take]; omega
        have c4 : ms.length ≤ i → ((ms.take i).count F1 : Int) = F2 := fun h => by rw [List.take_of_length_le h]; exact (f3 (by assumption)).symm
        have hdef : ms.getD i 0 = ms.getD i default := rfl
        repeat' (first
          | (simp only [go_sem, reduceIte, Nat.reduceEqDiff, Nat.reduceBEq])
          | (simp (disch := omega) only [w64, nadd1])
          | (refine Rm_need (by first | exact True.intro | omega | (simp; omega)) ?_)
          | (rw [c4 (by omega)])
          | (refine Rm_o (k_DrawMostFrequent code (by omega)) rfl (fun r H2 hh => ?_); obtain ⟨ms, rfl, rfl, -, hml⟩ := hh; have f1 := k_iFreq ms (by omega); have f2 := k_sFreq ms (by omega); have f3 := freq_told (xs := ms); have f4 := fr_most ms (srt ms); generalize freqO ms = F at *; obtain ⟨F1, F2, F3⟩ := F; simp only [tri] at f1 f2)
          | (refine Rm_w ?_ f1 (by trivial) ?_; · (simp [viewOfs, viewOf, List.take_of_length_le]; done))
          | (refine Rm_w ?_ f2 (by trivial) ?_; · (simp [viewOfs, viewOf, List.take_of_length_le]; done))
          | (refine Rm_o (k_DrawLongestRise code (by omega)) rfl (fun r H2 hh => ?_); obtain ⟨rs, rfl, rfl, -, hrl⟩ := hh; obtain ⟨rb, rm, rt, g0, g3, g4⟩ := rise_nat rs; have g1 := k_iRise rs (by omega); have g2 := k_sRise rs (by omega); rw [g0] at g1 g2; simp only [tri] at g1 g2; clear g0)
          | (refine Rm_w ?_ g1 (by trivial) ?_; · (simp [viewOfs, viewOf, List.take_of_length_le]; done))
          | (refine Rm_w ?_ g2 (by trivial) ?_; · (simp [viewOfs, viewOf, List.take_of_length_le]; done))
          | (refine Rm_o (k_DrawSlopeOf code (by omega)) rfl (fun r H2 hh => ?_); obtain ⟨ss, rfl, rfl, -, hsl⟩ := hh; have e1 := k_iSlope ss (by omega); have e2 := k_sSlope ss (by omega); have e3 := k_iSlope ss.reverse (by simp; omega); have e4 := slope_in2 ss; rw [slope_rev] at e3; generalize slopeO ss = S at *; obtain ⟨S1, S2, S3⟩ := S; simp only [tri] at e1 e2 e3 e4)
          | (refine Rm_w ?_ e1 (by trivial) ?_; · (simp [viewOfs, viewOf, List.take_of_length_le]; done))
          | (refine Rm_w ?_ e2 (by trivial) ?_; · (simp [viewOfs, viewOf, List.take_of_length_le]; done))
          | (refine Rm_gi (by first | omega | (simp; omega)) ?_)
          | (refine Rm_gb (by first | omega | (simp; omega)) ?_)
          | (refine Rm_ga (by first | omega | (simp; omega)) _ rfl (Nat.le_of_ble_eq_true rfl) ?_)
          | (refine Rm_gm (by first | omega | (simp; omega)) _ rfl ?_)
          | (refine Rm_puti (by first | omega | (simp; omega)) rfl ?_)
          | (refine Dm_draw [] (by simp) ?_)
          | (refine Tm_both ?_ ?_)
          | (refine Tm_fin (by simp only [hideOK, newsE]; simp []) ?_)
          | (refine Cm_split (fun h => ?_) (fun h => ?_) <;> (try (simp only [decide_eq_true_eq, decide_eq_false_iff_not, beq_iff_eq, beq_eq_false_iff_ne, ne_eq] at h)) <;> (try omega))
          | (refine Gm_split (fun h => ?_) (fun h => ?_) <;> (try simp only [ne_eq, Bool.not_eq_true, Bool.not_eq_false] at h) <;> (try rw [h]) <;> (try (simp only [decide_eq_true_eq, decide_eq_false_iff_not, bne_iff_ne, beq_iff_eq, bne_eq_false_iff_eq, beq_eq_false_iff_ne, Bool.not_eq_true, Bool.not_eq_true', Bool.not_eq_false, Bool.not_eq_false', ne_eq, Bool.and_eq_true, Bool.or_eq_true, true_eq_decide_iff, false_eq_decide_iff] at h)) <;> (try omega))
          | (refine Sm_split (fun h => ?_) (fun h => ?_) <;> (try (simp only [decide_eq_true_eq, decide_eq_false_iff_not, bne_iff_ne, beq_iff_eq, bne_eq_false_iff_eq, beq_eq_false_iff_ne, Bool.not_eq_true, Bool.not_eq_true', Bool.not_eq_false, Bool.not_eq_false', ne_eq, Bool.and_eq_true, Bool.or_eq_true, true_eq_decide_iff, false_eq_decide_iff] at h)) <;> (try omega))
          | (exact ret_p rfl ⟨rfl, rfl⟩)
          | (refine ret_okv (by first | trivial | simp only [go_sem, detD, detDs, detP, and_self, and_true]) ?_)
          | (exact ret_gen _ _ _ rfl rfl rfl ⟨rfl, rfl⟩)
          | (simp only [Option.some.injEq, DV.tup.injEq, DV.p.injEq, List.cons.injEq, PV.int.injEq, PV.bool.injEq, PV.str.injEq, and_true, true_and])
          | rfl
          | (refine Bool.eq_iff_iff.2 ?_; simp only [decide_eq_true_eq, Bool.and_eq_true, Bool.or_eq_true, Bool.not_eq_true', decide_eq_false_iff_not, Bool.false_eq_true, beq_iff_eq, bne_iff_ne, ne_eq, false_iff, iff_false, true_iff, iff_true]; omega)
          | omega)
        all_goals try (
          refine Xm_inv_n (ms.length - (i + 1)) (by omega) ⟨i + 1, by omega, rfl, ?_, rfl⟩
          rw [c1 (by omega)]
          first
          | (rw [if_pos (by rw [hdef]; exact (by assumption : ms.getD i default = F1).symm)]; rfl)
          | (rw [if_neg (by rw [hdef]; exact fun e => (by assumption : ¬ ms.getD i default = F1) e.symm)]; rfl)))
      all_goals try (
        refine Dm_loop [0, 24, 25, 26, 31] (fun m ds H' => ∃ i : Nat, rb + 1 ≤ i ∧ i ≤ rb + rm + 1 ∧ m = rb + rm + 1 - i ∧ ds = [.p (codeP code), .own 0 0 rs.length, .p (.int .i64 rb), .p (.int .i64 rm), .p (.int .i64 i)] ∧ H' = [.arr 3 1 (rs.map (.int .i64))]) rm ⟨rb + 1, by omega, by omega, by omega, rfl, rfl⟩ ?_
        rintro m ds H' ⟨i, hi, hi2, rfl, rfl, rfl⟩ -
        have c1 := g4 i
        have hdef : rs.getD i 0 = rs.getD i default := rfl
        have hdef2 : rs.getD (i - 1) 0 = rs.getD (i - 1) default := rfl
        rw [hdef, hdef2] at c1
        repeat' (first
          | (simp only [go_sem, Nat.lt_add_one, reduceIte, Nat.reduceEqDiff, Nat.reduceBEq, Nat.reduceAdd, Nat.reduceMul, Nat.reduceLeDiff])
          | (simp (disch := omega) only [w64, nsub1, nadd1, nadd])
          | (refine Rm_need (by first | exact True.intro | omega | (simp; omega)) ?_)
          | (refine Rm_o (k_DrawMostFrequent code (by omega)) rfl (fun r H2 hh => ?_); obtain ⟨ms, rfl, rfl, -, hml⟩ := hh; have f1 := k_iFreq ms (by omega); have f2 := k_sFreq ms (by omega); have f3 := freq_told (xs := ms); have f4 := fr_most ms (srt ms); generalize freqO ms = F at *; obtain ⟨F1, F2, F3⟩ := F; simp only [tri] at f1 f2)
          | (refine Rm_w ?_ f1 (by trivial) ?_; · (simp [viewOfs, viewOf, List.take_of_length_le]; done))
          | (refine Rm_w ?_ f2 (by trivial) ?_; · (simp [viewOfs, viewOf, List.take_of_length_le]; done))
          | (refine Rm_o (k_DrawLongestRise code (by omega)) rfl (fun r H2 hh => ?_); obtain ⟨rs, rfl, rfl, -, hrl⟩ := hh; obtain ⟨rb, rm, rt, g0, g3, g4⟩ := rise_nat rs; have g1 := k_iRise rs (by omega); have g2 := k_sRise rs (by omega); rw [g0] at g1 g2; simp only [tri] at g1 g2; clear g0)
          | (refine Rm_w ?_ g1 (by trivial) ?_; · (simp [viewOfs, viewOf, List.take_of_length_le]; done))
          | (refine Rm_w ?_ g2 (by trivial) ?_; · (simp [viewOfs, viewOf, List.take_of_length_le]; done))
          | (refine Rm_o (k_DrawSlopeOf code (by omega)) rfl (fun r H2 hh => ?_); obtain ⟨ss, rfl, rfl, -, hsl⟩ := hh; have e1 := k_iSlope ss (by omega); have e2 := k_sSlope ss (by omega); have e3 := k_iSlope ss.reverse (by simp; omega); have e4 := slope_in2 ss; rw [slope_rev] at e3; generalize slopeO ss = S at *; obtain ⟨S1, S2, S3⟩ := S; simp only [tri] at e1 e2 e3 e4)
          | (refine Rm_w ?_ e1 (by trivial) ?_; · (simp [viewOfs, viewOf, List.take_of_length_le]; done))
          | (refine Rm_w ?_ e2 (by trivial) ?_; · (simp [viewOfs, viewOf, List.take_of_length_le]; done))
          | (refine Rm_gi (by first | omega | (simp; omega)) ?_)
          | (refine Rm_gb (by first | omega | (simp; omega)) ?_)
          | (refine Rm_ga (by first | omega | (simp; omega)) _ rfl (Nat.le_of_ble_eq_true rfl) ?_)
          | (refine Rm_gm (by first | omega | (simp; omega)) _ rfl ?_)
          | (refine Rm_puti (by first | omega | (simp; omega)) rfl ?_)
          | (refine Dm_draw [] (by simp) ?_)
          | (refine Tm_both ?_ ?_)
          | (refine Tm_fin (by simp only [hideOK, newsE]; simp []) ?_)
          | (refine Cm_split (fun h => ?_) (fun h => ?_) <;> (try (simp only [decide_eq_true_eq, decide_eq_false_iff_not] at h)) <;> (try omega))
          | (refine Gm_split (fun h => ?_) (fun h => ?_) <;> (try simp only [ne_eq, Bool.not_eq_true, Bool.not_eq_false] at h) <;> (try rw [h]) <;> (try (simp only [decide_eq_true_eq, decide_eq_false_iff_not, bne_iff_ne, beq_iff_eq, bne_eq_false_iff_eq, beq_eq_false_iff_ne, Bool.not_eq_true, Bool.not_eq_true', Bool.not_eq_false, Bool.not_eq_false', ne_eq, Bool.and_eq_true, Bool.or_eq_true, true_eq_decide_iff, false_eq_decide_iff] at h)) <;> (try omega))
          | (refine Sm_split (fun h => ?_) (fun h => ?_) <;> (try (simp only [decide_eq_true_eq, decide_eq_false_iff_not, bne_iff_ne, beq_iff_eq, bne_eq_false_iff_eq, beq_eq_false_iff_ne, Bool.not_eq_true, Bool.not_eq_true', Bool.not_eq_false, Bool.not_eq_false', ne_eq, Bool.and_eq_true, Bool.or_eq_true, true_eq_decide_iff, false_eq_decide_iff] at h)) <;> (try omega))
          | (exact ret_p rfl ⟨rfl, rfl⟩)
          | (refine ret_okv (by first | trivial | simp only [go_sem, detD, detDs, detP, and_self, and_true]) ?_)
          | (exact ret_gen _ _ _ rfl rfl rfl ⟨rfl, rfl⟩)
          | (simp only [Option.some.injEq, DV.tup.injEq, DV.p.injEq, List.cons.injEq, PV.int.injEq, PV.bool.injEq, PV.str.injEq, and_true, true_and])
          | rfl
          | (refine Bool.eq_iff_iff.2 ?_; simp only [decide_eq_true_eq, Bool.and_eq_true, Bool.or_eq_true, Bool.not_eq_true', decide_eq_false_iff_not, Bool.false_eq_true, beq_iff_eq, bne_iff_ne, ne_eq, false_iff, iff_false, true_iff, iff_true]; omega)
          | omega)
        all_goals try exact Xm_inv_n (rb + rm + 1 - (i + 1)) (by omega) ⟨i + 1, by omega, by omega, rfl, rfl, rfl⟩)
      all_goals try (
        refine Dm_loop [32, 33, 34, 39, 40] (fun m ds H' => ∃ v : Nat, v ≤ ss.length ∧ m = v ∧ ds = [.own 0 0 ss.length, .p (.int .i64 S1), .p (.int .i64 S2), .own 1 0 (ss.drop v).reverse.length, .p (.int .i64 ((v : Int) - 1))] ∧ H' = [.arr 3 1 (ss.map (.int .i64)), .arr 3 1 ((ss.drop v).reverse.map (.int .i64))]) ss.length ⟨ss.length, by omega, by omega, by rw [List.drop_eq_nil_of_le (Nat.le_refl _)]; rfl, by rw [List.drop_eq_nil_of_le (Nat.le_refl _)]; rfl⟩ ?_
        rintro m ds H' ⟨v, hv, hmv, rfl, rfl⟩ -
        rcases v with _ | v
        · rw [show (((0 : Nat) : Int) - 1) = -1 from rfl, List.drop_zero]
          rw [(by assumption : S3 = true)] at e3
          repeat' (first
            | (simp only [go_sem, reduceIte, Nat.reduceEqDiff, Nat.reduceBEq])
            | (simp (disch := omega) only [w64])
            | (refine Rm_need (by first | exact True.intro | omega | (simp; omega)) ?_)
            | (refine Rm_w rfl (e3) (by trivial) ?_)
            | (refine Rm_w ?_ (e3) (by trivial) ?_; · (simp [viewOfs, viewOf, List.take_of_length_le]; done))
            | (refine Rm_gi (by first | omega | (simp; omega)) ?_)
            | (refine Rm_gb (by first | omega | (simp; omega)) ?_)
            | (refine Rm_ga (by first | omega | (simp; omega)) _ rfl (Nat.le_of_ble_eq_true rfl) ?_)
            | (refine Rm_gm (by first | omega | (simp; omega)) _ rfl ?_)
            | (refine Rm_puti (by first | omega | (simp; omega)) rfl ?_)
            | (refine Dm_draw [] (by simp) ?_)
            | (refine Tm_both ?_ ?_)
            | (refine Tm_fin (by simp only [hideOK, newsE]; simp []) ?_)
            | (refine Cm_split (fun h => ?_) (fun h => ?_) <;> (try (simp only [decide_eq_true_eq, decide_eq_false_iff_not] at h)) <;> (try omega))
            | (refine Gm_split (fun h => ?_) (fun h => ?_) <;> (try simp only [ne_eq, Bool.not_eq_true, Bool.not_eq_false] at h) <;> (try rw [h]) <;> (try (simp only [decide_eq_true_eq, decide_eq_false_iff_not, bne_iff_ne, beq_iff_eq, bne_eq_false_iff_eq, beq_eq_false_iff_ne, Bool.not_eq_true, Bool.not_eq_true', Bool.not_eq_false, Bool.not_eq_false', ne_eq, Bool.and_eq_true, Bool.or_eq_true, true_eq_decide_iff, false_eq_decide_iff] at h)) <;> (try omega))
            | (refine Sm_split (fun h => ?_) (fun h => ?_) <;> (try (simp only [beq_iff_eq, beq_eq_false_iff_ne, ne_eq] at h)) <;> (try omega))
            | (exact ret_p rfl ⟨rfl, rfl⟩)
            | (refine ret_okv (by first | trivial | simp only [go_sem, detD, detDs, detP, and_self, and_true]) ?_)
            | (exact ret_gen _ _ _ rfl rfl rfl ⟨rfl, rfl⟩)
            | (simp only [Option.some.injEq, DV.tup.injEq, DV.p.injEq, List.cons.injEq, PV.int.injEq, PV.bool.injEq, PV.str.injEq, and_true, true_and])
            | rfl
            | (refine Bool.eq_iff_iff.2 ?_; simp only [decide_eq_true_eq, Bool.and_eq_true, Bool.or_eq_true, Bool.not_eq_true', decide_eq_false_iff_not, Bool.false_eq_true, beq_iff_eq, bne_iff_ne, ne_eq, false_iff, iff_false, true_iff, iff_true]; omega)
            | omega)
        · rw [show (((v + 1 : Nat) : Int) - 1) = (v : Int) from by omega]
          have c1 := rev_take (xs := ss) (v := v) (by omega)
          have c2 : (ss.drop (v + 1)).reverse.length ≤ 50 := by simp; omega
          have hdef : ss.getD v 0 = ss.getD v default := rfl
          rw [hdef] at c1
          generalize (ss.drop (v + 1)).reverse = Z at *
          repeat' (first
            | (simp only [go_sem, Nat.lt_add_one, reduceIte, Nat.reduceEqDiff, Nat.reduceAdd, Nat.reduceMul, Nat.reduceLeDiff])
            | (simp (disch := omega) only [w64, List.take_length])
            | (refine Rm_need (by first | exact True.intro | omega | (simp; omega)) ?_)
            | (refine Rm_gi (by first | omega | (simp; omega)) ?_)
            | (refine Rm_gb (by first | omega | (simp; omega)) ?_)
            | (refine Rm_ga (by first | omega | (simp; omega)) _ rfl (Nat.le_of_ble_eq_true rfl) ?_)
            | (refine Rm_gm (by first | omega | (simp; omega)) _ rfl ?_)
            | (refine Rm_puti (by first | omega | (simp; omega)) rfl ?_)
            | (refine Dm_draw [] (by simp) ?_)
            | (refine Tm_both ?_ ?_)
            | (refine Tm_fin (by simp only [hideOK, newsE]; simp []) ?_)
            | (refine Cm_split (fun h => ?_) (fun h => ?_) <;> (try (simp only [decide_eq_true_eq, decide_eq_false_iff_not] at h)) <;> (try omega))
            | (refine Gm_split (fun h => ?_) (fun h => ?_) <;> (try simp only [ne_eq, Bool.not_eq_true, Bool.not_eq_false] at h) <;> (try rw [h]) <;> (try (simp only [decide_eq_true_eq, decide_eq_false_iff_not, bne_iff_ne, beq_iff_eq, bne_eq_false_iff_eq, beq_eq_false_iff_ne, Bool.not_eq_true, Bool.not_eq_true', Bool.not_eq_false, Bool.not_eq_false', ne_eq, Bool.and_eq_true, Bool.or_eq_true, true_eq_decide_iff, false_eq_decide_iff] at h)) <;> (try omega))
            | (refine Sm_split (fun h => ?_) (fun h => ?_) <;> (try (simp only [decide_eq_true_eq, decide_eq_false_iff_not, bne_iff_ne, beq_iff_eq, bne_eq_false_iff_eq, beq_eq_false_iff_ne, Bool.not_eq_true, Bool.not_eq_true', Bool.not_eq_false, Bool.not_eq_false', ne_eq, Bool.and_eq_true, Bool.or_eq_true, true_eq_decide_iff, false_eq_decide_iff] at h)) <;> (try omega))
            | (exact ret_p rfl ⟨rfl, rfl⟩)
            | (refine ret_okv (by first | trivial | simp only [go_sem, detD, detDs, detP, and_self, and_true]) ?_)
            | (exact ret_gen _ _ _ rfl rfl rfl ⟨rfl, rfl⟩)
            | (simp only [Option.some.injEq, DV.tup.injEq, DV.p.injEq, List.cons.injEq, PV.int.injEq, PV.bool.injEq, PV.str.injEq, and_true, true_and])
            | rfl
            | (refine Bool.eq_iff_iff.2 ?_; simp only [decide_eq_true_eq, Bool.and_eq_true, Bool.or_eq_true, Bool.not_eq_true', decide_eq_false_iff_not, Bool.false_eq_true, beq_iff_eq, bne_iff_ne, ne_eq, false_iff, iff_false, true_iff, iff_true]; omega)
            | omega)
          all_goals try (
            refine Xm_inv_n v (by omega) ⟨v, by omega, rfl, ?_, ?_⟩
            · rw [c1, List.length_append]; rfl
            · rw [c1]; rfl))
    · have hin := hin_take (xs := xs) (low := low) (width := width) (bins := bins) (by have := hist_parts hh; omega) xs.length (Nat.le_refl _)
      rw [List.take_length] at hin
      have i1 := k_iHist1 xs low width bins (by omega) hh
      have i2 := k_sHist1 xs low width bins (by omega) hh
      have hpp := hist_parts hh
      have htot := hist_sum hh
      generalize histO xs low width bins = st at hin i1 i2 htot
      obtain ⟨ys, b, a⟩ := st
      obtain ⟨hl, hy1, hy2, hy3⟩ := hin
      simp only [] at hl hy1 hy2 hy3 htot
      have hy : ys.length ≤ 1048576 := by omega
      have hl : bins.toNat = ys.length := by omega
      unfold histD at i1 i2
      rw [hl] at i1 i2
      have i3 := k_rInts ys hy
      have i4 := k_rSum ys xs.length hy (by omega) hy1
      have hs0 : 0 ≤ ys.sum ∧ ys.sum ≤ 50 := by
        have : 0 * (ys.length : Int) ≤ ys.sum := sum_ge fun x hx => (hy1 x hx).1
        omega
      clear hpp
      repeat' (first
        | (simp only [go_sem, reduceIte, Nat.reduceEqDiff, Nat.reduceBEq, Nat.reduceAdd])
        | (simp (disch := omega) only [w64, nadd1])
        | (refine Rm_need (by first | exact True.intro | omega | (simp; omega)) ?_)
        | (refine Rm_l i1 (by simp [viewOfs, viewOf, List.take_of_length_le]) (fun r H2 hh => ?_); obtain ⟨rfl, rfl⟩ := hh; refine ⟨by simp [flatD, flatDs, flatP], flatH_one flat_int, ?_⟩)
        | (refine Rm_l i2 (by simp [viewOfs, viewOf, List.take_of_length_le]) (fun r H2 hh => ?_); obtain ⟨rfl, rfl⟩ := hh; refine ⟨by simp [flatD, flatDs, flatP], flatH_one flat_int, ?_⟩)
        | (refine Rm_w rfl (i3) (by trivial) ?_)
        | (refine Rm_w ?_ (i3) (by trivial) ?_; · (simp [viewOfs, viewOf, List.take_of_length_le]; done))
        | (refine Rm_w rfl (i4) (by trivial) ?_)
        | (refine Rm_w ?_ (i4) (by trivial) ?_; · (simp [viewOfs, viewOf, List.take_of_length_le]; done))
        | (rw [htot])
        | (refine Rm_o (k_DrawMostFrequent code (by omega)) rfl (fun r H2 hh => ?_); obtain ⟨ms, rfl, rfl, -, hml⟩ := hh; have f1 := k_iFreq ms (by omega); have f2 := k_sFreq ms (by omega); have f3 := freq_told (xs := ms); have f4 := fr_most ms (srt ms); generalize freqO ms = F at *; obtain ⟨F1, F2, F3⟩ := F; simp only [tri] at f1 f2)
        | (refine Rm_w ?_ f1 (by trivial) ?_; · (simp [viewOfs, viewOf, List.take_of_length_le]; done))
        | (refine Rm_w ?_ f2 (by trivial) ?_; · (simp [viewOfs, viewOf, List.take_of_length_le]; done))
        | (refine Rm_o (k_DrawLongestRise code (by omega)) rfl (fun r H2 hh => ?_); obtain ⟨rs, rfl, rfl, -, hrl⟩ := hh; obtain ⟨rb, rm, rt, g0, g3, g4⟩ := rise_nat rs; have g1 := k_iRise rs (by omega); have g2 := k_sRise rs (by omega); rw [g0] at g1 g2; simp only [tri] at g1 g2; clear g0)
        | (refine Rm_w ?_ g1 (by trivial) ?_; · (simp [viewOfs, viewOf, List.take_of_length_le]; done))
        | (refine Rm_w ?_ g2 (by trivial) ?_; · (simp [viewOfs, viewOf, List.take_of_length_le]; done))
        | (refine Rm_o (k_DrawSlopeOf code (by omega)) rfl (fun r H2 hh => ?_); obtain ⟨ss, rfl, rfl, -, hsl⟩ := hh; have e1 := k_iSlope ss (by omega); have e2 := k_sSlope ss (by omega); have e3 := k_iSlope ss.reverse (by simp; omega); have e4 := slope_in2 ss; rw [slope_rev] at e3; generalize slopeO ss = S at *; obtain ⟨S1, S2, S3⟩ := S; simp only [tri] at e1 e2 e3 e4)
        | (refine Rm_w ?_ e1 (by trivial) ?_; · (simp [viewOfs, viewOf, List.take_of_length_le]; done))
        | (refine Rm_w ?_ e2 (by trivial) ?_; · (simp [viewOfs, viewOf, List.take_of_length_le]; done))
        | (refine Rm_gi (by first | omega | (simp; omega)) ?_)
        | (refine Rm_gb (by first | omega | (simp; omega)) ?_)
        | (refine Rm_ga (by first | omega | (simp; omega)) _ rfl (Nat.le_of_ble_eq_true rfl) ?_)
        | (refine Rm_gm (by first | omega | (simp; omega)) _ rfl ?_)
        | (refine Rm_puti (by first | omega | (simp; omega)) rfl ?_)
        | (refine Dm_draw [] (by simp) ?_)
        | (refine Tm_both ?_ ?_)
        | (refine Tm_fin (by simp only [hideOK, newsE]; simp []) ?_)
        | (refine Cm_split (fun h => ?_) (fun h => ?_) <;> (try (simp only [decide_eq_true_eq, decide_eq_false_iff_not, bne_iff_ne, beq_iff_eq, bne_eq_false_iff_eq, beq_eq_false_iff_ne, Bool.not_eq_true, Bool.not_eq_true', Bool.not_eq_false, Bool.not_eq_false', ne_eq, Bool.and_eq_true, Bool.or_eq_true, true_eq_decide_iff, false_eq_decide_iff] at h)) <;> (try omega))
        | (refine Gm_split (fun h => ?_) (fun h => ?_) <;> (try simp only [ne_eq, Bool.not_eq_true, Bool.not_eq_false] at h) <;> (try rw [h]) <;> (try (simp only [decide_eq_true_eq, decide_eq_false_iff_not, bne_iff_ne, beq_iff_eq, bne_eq_false_iff_eq, beq_eq_false_iff_ne, Bool.not_eq_true, Bool.not_eq_true', Bool.not_eq_false, Bool.not_eq_false', ne_eq, Bool.and_eq_true, Bool.or_eq_true, true_eq_decide_iff, false_eq_decide_iff] at h)) <;> (try omega))
        | (refine Sm_split (fun h => ?_) (fun h => ?_) <;> (try (simp only [decide_eq_true_eq, decide_eq_false_iff_not, bne_iff_ne, beq_iff_eq, bne_eq_false_iff_eq, beq_eq_false_iff_ne, Bool.not_eq_true, Bool.not_eq_true', Bool.not_eq_false, Bool.not_eq_false', ne_eq, Bool.and_eq_true, Bool.or_eq_true, true_eq_decide_iff, false_eq_decide_iff] at h)) <;> (try omega))
        | (exact ret_p rfl ⟨rfl, rfl⟩)
        | (refine ret_okv (by first | trivial | simp only [go_sem, detD, detDs, detP, and_self, and_true]) ?_)
        | (exact ret_gen _ _ _ rfl rfl rfl ⟨rfl, rfl⟩)
        | (simp only [Option.some.injEq, DV.tup.injEq, DV.p.injEq, List.cons.injEq, PV.int.injEq, PV.bool.injEq, PV.str.injEq, and_true, true_and])
        | rfl
        | (refine Bool.eq_iff_iff.2 ?_; simp only [decide_eq_true_eq, Bool.and_eq_true, Bool.or_eq_true, Bool.not_eq_true', decide_eq_false_iff_not, Bool.false_eq_true, beq_iff_eq, bne_iff_ne, ne_eq, false_iff, iff_false, true_iff, iff_true]; omega)
        | omega)
      all_goals try (
        refine Dm_loop [0, 15, 16, 17, 22, 23] (fun m ds H' => ∃ i : Nat, i ≤ ms.length ∧ m = ms.length - i ∧ ds = [.p (codeP code), .own 0 0 ms.length, .p (.int .i64 F1), .p (.int .i64 F2), .p (.int .i64 ((ms.take i).count F1 : Nat)), .p (.int .i64 i)] ∧ H' = [.arr 3 1 (ms.map (.int .i64))]) ms.length ⟨0, by omega, by omega, rfl, rfl⟩ ?_
        rintro m ds H' ⟨i, hi, rfl, rfl, rfl⟩ -
        have c1 := fun h : i < ms.length => count_step (x := F1) h
        have c2 := List.count_le_length (a := F1) (l := ms.take i)
        have c3 : (ms.take i).length ≤ 50 := by rw [List.length_take]; omega
        have c4 : ms.length ≤ i → ((ms.take i).count F1 : Int) = F2 := fun h => by rw [List.take_of_length_le h]; exact (f3 (by assumption)).symm
        have hdef : ms.getD i 0 = ms.getD i default := rfl
        repeat' (first
          | (simp only [go_sem, reduceIte, Nat.reduceEqDiff, Nat.reduceBEq])
          | (simp (disch := omega) only [w64, nadd1])
          | (refine Rm_need (by first | exact True.intro | omega | (simp; omega)) ?_)
          | (rw [c4 (by omega)])
          | (refine Rm_o (k_DrawMostFrequent code (by omega)) rfl (fun r H2 hh => ?_); obtain ⟨ms, rfl, rfl, -, hml⟩ := hh; have f1 := k_iFreq ms (by omega); have f2 := k_sFreq ms (by omega); have f3 := freq_told (xs := ms); have f4 := fr_most ms (srt ms); generalize freqO ms = F at *; obtain ⟨F1, F2, F3⟩ := F; simp only [tri] at f1 f2)
          | (refine Rm_w ?_ f1 (by trivial) ?_; · (simp [viewOfs, viewOf, List.take_of_length_le]; done))
          | (refine Rm_w ?_ f2 (by trivial) ?_; · (simp [viewOfs, viewOf, List.take_of_length_le]; done))
          | (refine Rm_o (k_DrawLongestRise code (by omega)) rfl (fun r H2 hh => ?_); obtain ⟨rs, rfl, rfl, -, hrl⟩ := hh; obtain ⟨rb, rm, rt, g0, g3, g4⟩ := rise_nat rs; have g1 := k_iRise rs (by omega); have g2 := k_sRise rs (by omega); rw [g0] at g1 g2; simp only [tri] at g1 g2; clear g0)
          | (refine Rm_w ?_ g1 (by trivial) ?_; · (simp [viewOfs, viewOf, List.take_of_length_le]; done))
          | (refine Rm_w ?_ g2 (by trivial) ?_; · (simp [viewOfs, viewOf, List.take_of_length_le]; done))
          | (refine Rm_o (k_DrawSlopeOf code (by omega)) rfl (fun r H2 hh => ?_); obtain ⟨ss, rfl, rfl, -, hsl⟩ := hh; have e1 := k_iSlope ss (by omega); have e2 := k_sSlope ss (by omega); have e3 := k_iSlope ss.reverse (by simp; omega); have e4 := slope_in2 ss; rw [slope_rev] at e3; generalize slopeO ss = S at *; obtain ⟨S1, S2, S3⟩ := S; simp only [tri] at e1 e2 e3 e4)
          | (refine Rm_w ?_ e1 (by trivial) ?_; · (simp [viewOfs, viewOf, List.take_of_length_le]; done))
          | (refine Rm_w ?_ e2 (by trivial) ?_; · (simp [viewOfs, viewOf, List.take_of_length_le]; done))
          | (refine Rm_gi (by first | omega | (simp; omega)) ?_)
          | (refine Rm_gb (by first | omega | (simp; omega)) ?_)
          | (refine Rm_ga (by first | omega | (simp; omega)) _ rfl (Nat.le_of_ble_eq_true rfl) ?_)
          | (refine Rm_gm (by first | omega | (simp; omega)) _ rfl ?_)
          | (refine Rm_puti (by first | omega | (simp; omega)) rfl ?_)
          | (refine Dm_draw [] (by simp) ?_)
          | (refine Tm_both ?_ ?_)
          | (refine Tm_fin (by simp only [hideOK, newsE]; simp []) ?_)
          | (refine Cm_split (fun h => ?_) (fun h => ?_) <;> (try (simp only [decide_eq_true_eq, decide_eq_false_iff_not, beq_iff_eq, beq_eq_false_iff_ne, ne_eq] at h)) <;> (try omega))
          | (refine Gm_split (fun h => ?_) (fun h => ?_) <;> (try simp only [ne_eq, Bool.not_eq_true, Bool.not_eq_false] at h) <;> (try rw [h]) <;> (try (simp only [decide_eq_true_eq, decide_eq_false_iff_not, bne_iff_ne, beq_iff_eq, bne_eq_false_iff_eq, beq_eq_false_iff_ne, Bool.not_eq_true, Bool.not_eq_true', Bool.not_eq_false, Bool.not_eq_false', ne_eq, Bool.and_eq_true, Bool.or_eq_true, true_eq_decide_iff, false_eq_decide_iff] at h)) <;> (try omega))
          | (refine Sm_split (fun h => ?_) (fun h => ?_) <;> (try (simp only [decide_eq_true_eq, decide_eq_false_iff_not, bne_iff_ne, beq_iff_eq, bne_eq_false_iff_eq, beq_eq_false_iff_ne, Bool.not_eq_true, Bool.not_eq_true', Bool.not_eq_false, Bool.not_eq_false', ne_eq, Bool.and_eq_true, Bool.or_eq_true, true_eq_decide_iff, false_eq_decide_iff] at h)) <;> (try omega))
          | (exact ret_p rfl ⟨rfl, rfl⟩)
          | (refine ret_okv (by first | trivial | simp only [go_sem, detD, detDs, detP, and_self, and_true]) ?_)
          | (exact ret_gen _ _ _ rfl rfl rfl ⟨rfl, rfl⟩)
          | (simp only [Option.some.injEq, DV.tup.injEq, DV.p.injEq, List.cons.injEq, PV.int.injEq, PV.bool.injEq, PV.str.injEq, and_true, true_and])
          | rfl
          | (refine Bool.eq_iff_iff.2 ?_; simp only [decide_eq_true_eq, Bool.and_eq_true, Bool.or_eq_true, Bool.not_eq_true', decide_eq_false_iff_not, Bool.false_eq_true, beq_iff_eq, bne_iff_ne, ne_eq, false_iff, iff_false, true_iff, iff_true]; omega)
          | omega)
        all_goals try (
          refine Xm_inv_n (ms.length - (i + 1)) (by omega) ⟨i + 1, by omega, rfl, ?_, rfl⟩
          rw [c1 (by omega)]
          first
          | (rw [if_pos (by rw [hdef]; exact (by assumption : ms.getD i default = F1).symm)]; rfl)
          | (rw [if_neg (by rw [hdef]; exact fun e => (by assumption : ¬ ms.getD i default = F1) e.symm)]; rfl)))
      all_goals try (
        refine Dm_loop [0, 24, 25, 26, 31] (fun m ds H' => ∃ i : Nat, rb + 1 ≤ i ∧ i ≤ rb + rm + 1 ∧ m = rb + rm + 1 - i ∧ ds = [.p (codeP code), .own 0 0 rs.length, .p (.int .i64 rb), .p (.int .i64 rm), .p (.int .i64 i)] ∧ H' = [.arr 3 1 (rs.map (.int .i64))]) rm ⟨rb + 1, by omega, by omega, by omega, rfl, rfl⟩ ?_
        rintro m ds H' ⟨i, hi, hi2, rfl, rfl, rfl⟩ -
        have c1 := g4 i
        have hdef : rs.getD i 0 = rs.getD i default := rfl
        have hdef2 : rs.getD (i - 1) 0 = rs.getD (i - 1) default := rfl
        rw [hdef, hdef2] at c1
        repeat' (first
          | (simp only [go_sem, Nat.lt_add_one, reduceIte, Nat.reduceEqDiff, Nat.reduceBEq, Nat.reduceAdd, Nat.reduceMul, Nat.reduceLeDiff])
          | (simp (disch := omega) only [w64, nsub1, nadd1, nadd])
          | (refine Rm_need (by first | exact True.intro | omega | (simp; omega)) ?_)
          | (refine Rm_o (k_DrawMostFrequent code (by omega)) rfl (fun r H2 hh => ?_); obtain ⟨ms, rfl, rfl, -, hml⟩ := hh; have f1 := k_iFreq ms (by omega); have f2 := k_sFreq ms (by omega); have f3 := freq_told (xs := ms); have f4 := fr_most ms (srt ms); generalize freqO ms = F at *; obtain ⟨F1, F2, F3⟩ := F; simp only [tri] at f1 f2)
          | (refine Rm_w ?_ f1 (by trivial) ?_; · (simp [viewOfs, viewOf, List.take_of_length_le]; done))
          | (refine Rm_w ?_ f2 (by trivial) ?_; · (simp [viewOfs, viewOf, List.take_of_length_le]; done))
          | (refine Rm_o (k_DrawLongestRise code (by omega)) rfl (fun r H2 hh => ?_); obtain ⟨rs, rfl, rfl, -, hrl⟩ := hh; obtain ⟨rb, rm, rt, g0, g3, g4⟩ := rise_nat rs; have g1 := k_iRise rs (by omega); have g2 := k_sRise rs (by omega); rw [g0] at g1 g2; simp only [tri] at g1 g2; clear g0)
          | (refine Rm_w ?_ g1 (by trivial) ?_; · (simp [viewOfs, viewOf, List.take_of_length_le]; done))
          | (refine Rm_w ?_ g2 (by trivial) ?_; · (simp [viewOfs, viewOf, List.take_of_length_le]; done))
          | (refine Rm_o (k_DrawSlopeOf code (by omega)) rfl (fun r H2 hh => ?_); obtain ⟨ss, rfl, rfl, -, hsl⟩ := hh; have e1 := k_iSlope ss (by omega); have e2 := k_sSlope ss (by omega); have e3 := k_iSlope ss.reverse (by simp; omega); have e4 := slope_in2 ss; rw [slope_rev] at e3; generalize slopeO ss = S at *; obtain ⟨S1, S2, S3⟩ := S; simp only [tri] at e1 e2 e3 e4)
          | (refine Rm_w ?_ e1 (by trivial) ?_; · (simp [viewOfs, viewOf, List.take_of_length_le]; done))
          | (refine Rm_w ?_ e2 (by trivial) ?_; · (simp [viewOfs, viewOf, List.take_of_length_le]; done))
          | (refine Rm_gi (by first | omega | (simp; omega)) ?_)
          | (refine Rm_gb (by first | omega | (simp; omega)) ?_)
          | (refine Rm_ga (by first | omega | (simp; omega)) _ rfl (Nat.le_of_ble_eq_true rfl) ?_)
          | (refine Rm_gm (by first | omega | (simp; omega)) _ rfl ?_)
          | (refine Rm_puti (by first | omega | (simp; omega)) rfl ?_)
          | (refine Dm_draw [] (by simp) ?_)
          | (refine Tm_both ?_ ?_)
          | (refine Tm_fin (by simp only [hideOK, newsE]; simp []) ?_)
          | (refine Cm_split (fun h => ?_) (fun h => ?_) <;> (try (simp only [decide_eq_true_eq, decide_eq_false_iff_not] at h)) <;> (try omega))
          | (refine Gm_split (fun h => ?_) (fun h => ?_) <;> (try simp only [ne_eq, Bool.not_eq_true, Bool.not_eq_false] at h) <;> (try rw [h]) <;> (try (simp only [decide_eq_true_eq, decide_eq_false_iff_not, bne_iff_ne, beq_iff_eq, bne_eq_false_iff_eq, beq_eq_false_iff_ne, Bool.not_eq_true, Bool.not_eq_true', Bool.not_eq_false, Bool.not_eq_false', ne_eq, Bool.and_eq_true, Bool.or_eq_true, true_eq_decide_iff, false_eq_decide_iff] at h)) <;> (try omega))
          | (refine Sm_split (fun h => ?_) (fun h => ?_) <;> (try (simp only [decide_eq_true_eq, decide_eq_false_iff_not, bne_iff_ne, beq_iff_eq, bne_eq_false_iff_eq, beq_eq_false_iff_ne, Bool.not_eq_true, Bool.not_eq_true', Bool.not_eq_false, Bool.not_eq_false', ne_eq, Bool.and_eq_true, Bool.or_eq_true, true_eq_decide_iff, false_eq_decide_iff] at h)) <;> (try omega))
          | (exact ret_p rfl ⟨rfl, rfl⟩)
          | (refine ret_okv (by first | trivial | simp only [go_sem, detD, detDs, detP, and_self, and_true]) ?_)
          | (exact ret_gen _ _ _ rfl rfl rfl ⟨rfl, rfl⟩)
          | (simp only [Option.some.injEq, DV.tup.injEq, DV.p.injEq, List.cons.injEq, PV.int.injEq, PV.bool.injEq, PV.str.injEq, and_true, true_and])
          | rfl
          | (refine Bool.eq_iff_iff.2 ?_; simp only [decide_eq_true_eq, Bool.and_eq_true, Bool.or_eq_true, Bool.not_eq_true', decide_eq_false_iff_not, Bool.false_eq_true, beq_iff_eq, bne_iff_ne, ne_eq, false_iff, iff_false, true_iff, iff_true]; omega)
          | omega)
        all_goals try exact Xm_inv_n (rb + rm + 1 - (i + 1)) (by omega) ⟨i + 1, by omega, by omega, rfl, rfl, rfl⟩)
      all_goals try (
        refine Dm_loop [32, 33, 34, 39, 40] (fun m ds H' => ∃ v : Nat, v ≤ ss.length ∧ m = v ∧ ds = [.own 0 0 ss.length, .p (.int .i64 S1), .p (.int .i64 S2), .own 1 0 (ss.drop v).reverse.length, .p (.int .i64 ((v : Int) - 1))] ∧ H' = [.arr 3 1 (ss.map (.int .i64)), .arr 3 1 ((ss.drop v).reverse.map (.int .i64))]) ss.length ⟨ss.length, by omega, by omega, by rw [List.drop_eq_nil_of_le (Nat.le_refl _)]; rfl, by rw [List.drop_eq_nil_of_le (Nat.le_refl _)]; rfl⟩ ?_
        rintro m ds H' ⟨v, hv, hmv, rfl, rfl⟩ -
        rcases v with _ | v
        · rw [show (((0 : Nat) : Int) - 1) = -1 from rfl, List.drop_zero]
          rw [(by assumption : S3 = true)] at e3
          repeat' (first
            | (simp only [go_sem, reduceIte, Nat.reduceEqDiff, Nat.reduceBEq])
            | (simp (disch := omega) only [w64])
            | (refine Rm_need (by first | exact True.intro | omega | (simp; omega)) ?_)
            | (refine Rm_w rfl (e3) (by trivial) ?_)
            | (refine Rm_w ?_ (e3) (by trivial) ?_; · (simp [viewOfs, viewOf, List.take_of_length_le]; done))
            | (refine Rm_gi (by first | omega | (simp; omega)) ?_)
            | (refine Rm_gb (by first | omega | (simp; omega)) ?_)
            | (refine Rm_ga (by first | omega | (simp; omega)) _ rfl (Nat.le_of_ble_eq_true rfl) ?_)
            | (refine Rm_gm (by first | omega | (simp; omega)) _ rfl ?_)
            | (refine Rm_puti (by first | omega | (simp; omega)) rfl ?_)
            | (refine Dm_draw [] (by simp) ?_)
            | (refine Tm_both ?_ ?_)
            | (refine Tm_fin (by simp only [hideOK, newsE]; simp []) ?_)
            | (refine Cm_split (fun h => ?_) (fun h => ?_) <;> (try (simp only [decide_eq_true_eq, decide_eq_false_iff_not] at h)) <;> (try omega))
            | (refine Gm_split (fun h => ?_) (fun h => ?_) <;> (try simp only [ne_eq, Bool.not_eq_true, Bool.not_eq_false] at h) <;> (try rw [h]) <;> (try (simp only [decide_eq_true_eq, decide_eq_false_iff_not, bne_iff_ne, beq_iff_eq, bne_eq_false_iff_eq, beq_eq_false_iff_ne, Bool.not_eq_true, Bool.not_eq_true', Bool.not_eq_false, Bool.not_eq_false', ne_eq, Bool.and_eq_true, Bool.or_eq_true, true_eq_decide_iff, false_eq_decide_iff] at h)) <;> (try omega))
            | (refine Sm_split (fun h => ?_) (fun h => ?_) <;> (try (simp only [beq_iff_eq, beq_eq_false_iff_ne, ne_eq] at h)) <;> (try omega))
            | (exact ret_p rfl ⟨rfl, rfl⟩)
            | (refine ret_okv (by first | trivial | simp only [go_sem, detD, detDs, detP, and_self, and_true]) ?_)
            | (exact ret_gen _ _ _ rfl rfl rfl ⟨rfl, rfl⟩)
            | (simp only [Option.some.injEq, DV.tup.injEq, DV.p.injEq, List.cons.injEq, PV.int.injEq, PV.bool.injEq, PV.str.injEq, and_true, true_and])
            | rfl
            | (refine Bool.eq_iff_iff.2 ?_; simp only [decide_eq_true_eq, Bool.and_eq_true, Bool.or_eq_true, Bool.not_eq_true', decide_eq_false_iff_not, Bool.false_eq_true, beq_iff_eq, bne_iff_ne, ne_eq, false_iff, iff_false, true_iff, iff_true]; omega)
            | omega)
        · rw [show (((v + 1 : Nat) : Int) - 1) = (v : Int) from by omega]
          have c1 := rev_take (xs := ss) (v := v) (by omega)
          have c2 : (ss.drop (v + 1)).reverse.length ≤ 50 := by simp; omega
          have hdef : ss.getD v 0 = ss.getD v default := rfl
          rw [hdef] at c1
          generalize (ss.drop (v + 1)).reverse = Z at *
          repeat' (first
            | (simp only [go_sem, Nat.lt_add_one, reduceIte, Nat.reduceEqDiff, Nat.reduceAdd, Nat.reduceMul, Nat.reduceLeDiff])
            | (simp (disch := omega) only [w64, List.take_length])
            | (refine Rm_need (by first | exact True.intro | omega | (simp; omega)) ?_)
            | (refine Rm_gi (by first | omega | (simp; omega)) ?_)
            | (refine Rm_gb (by first | omega | (simp; omega)) ?_)
            | (refine Rm_ga (by first | omega | (simp; omega)) _ rfl (Nat.le_of_ble_eq_true rfl) ?_)
            | (refine Rm_gm (by first | omega | (simp; omega)) _ rfl ?_)
            | (refine Rm_puti (by first | omega | (simp; omega)) rfl ?_)
            | (refine Dm_draw [] (by simp) ?_)
            | (refine Tm_both ?_ ?_)
            | (refine Tm_fin (by simp only [hideOK, newsE]; simp []) ?_)
            | (refine Cm_split (fun h => ?_) (fun h => ?_) <;> (try (simp only [decide_eq_true_eq, decide_eq_false_iff_not] at h)) <;> (try omega))
            | (refine Gm_split (fun h => ?_) (fun h => ?_) <;> (try simp only [ne_eq, Bool.not_eq_true, Bool.not_eq_false] at h) <;> (try rw [h]) <;> (try (simp only [decide_eq_true_eq, decide_eq_false_iff_not, bne_iff_ne, beq_iff_eq, bne_eq_false_iff_eq, beq_eq_false_iff_ne, Bool.not_eq_true, Bool.not_eq_true', Bool.not_eq_false, Bool.not_eq_false', ne_eq, Bool.and_eq_true, Bool.or_eq_true, true_eq_decide_iff, false_eq_decide_iff] at h)) <;> (try omega))
            | (refine Sm_split (fun h => ?_) (fun h => ?_) <;> (try (simp only [decide_eq_true_eq, decide_eq_false_iff_not, bne_iff_ne, beq_iff_eq, bne_eq_false_iff_eq, beq_eq_false_iff_ne, Bool.not_eq_true, Bool.not_eq_true', Bool.not_eq_false, Bool.not_eq_false', ne_eq, Bool.and_eq_true, Bool.or_eq_true, true_eq_decide_iff, false_eq_decide_iff] at h)) <;> (try omega))
            | (exact ret_p rfl ⟨rfl, rfl⟩)
            | (refine ret_okv (by first | trivial | simp only [go_sem, detD, detDs, detP, and_self, and_true]) ?_)
            | (exact ret_gen _ _ _ rfl rfl rfl ⟨rfl, rfl⟩)
            | (simp only [Option.some.injEq, DV.tup.injEq, DV.p.injEq, List.cons.injEq, PV.int.injEq, PV.bool.injEq, PV.str.injEq, and_true, true_and])
            | rfl
            | (refine Bool.eq_iff_iff.2 ?_; simp only [decide_eq_true_eq, Bool.and_eq_true, Bool.or_eq_true, Bool.not_eq_true', decide_eq_false_iff_not, Bool.false_eq_true, beq_iff_eq, bne_iff_ne, ne_eq, false_iff, iff_false, true_iff, iff_true]; omega)
            | omega)
          all_goals try (
            refine Xm_inv_n v (by omega) ⟨v, by omega, rfl, ?_, ?_⟩
            · rw [c1, List.length_append]; rfl
            · rw [c1]; rfl))
end Go.Proofs.Ytdpmfgkmioaddaa

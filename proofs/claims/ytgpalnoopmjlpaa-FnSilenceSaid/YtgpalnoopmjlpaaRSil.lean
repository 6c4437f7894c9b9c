import Derived.Test.YtgpalnoopmjlpaaRFn
import Derived.Test.YtgpalnoopmjlpaaRecLaw
import Derived.Test.YtgpalnoopmjlpaaRec3
import Derived.Test.YtgpalnoopmjlpaaRec9
namespace Go.Proofs.Ytgpalnoopmjlpaa
open Go.Dv Go.Dv.EvL
attribute [local irreducible] Ok Rm Dm Om Sm Xm Cm Gm Hm Tm

theorem sil_max {xs : List Rcd} : ∀ {i j : Nat}, 1 ≤ j → j < i → (xs.getD j default).sec - (xs.getD (j - 1) default).sec ≤ (silTo xs i).1
  | 0, j, _, h => by omega
  | i + 1, j, h1, h => by
    rw [sil_step (by omega)]
    by_cases hj : j = i
    · subst hj
      split
      · exact Int.le_refl _
      · omega
    · have ih := sil_max (xs := xs) (i := i) h1 (by omega)
      split
      · simp only []; omega
      · exact ih
theorem sil_all (xs : List Rcd) : (silO xs).2.2 = true → ∀ j, 1 ≤ j → j < xs.length → (xs.getD j default).sec - (xs.getD (j - 1) default).sec ≤ (silO xs).1 := by
  unfold silO
  split
  · intro _ j h1 h2
    exact sil_max h1 h2
  · intro h; cases h
theorem bus_at {xs : List Rcd} {w : Int} (hw : 1 ≤ w) : ∀ {i : Nat}, 0 < i → i ≤ xs.length → ∃ j, j < xs.length ∧ busTo xs w i = ((xs.getD j default).sec, (wnd xs w j : Int))
  | 0, h, _ => by omega
  | i + 1, _, h => by
    have hp := wnd_pos (xs := xs) (i := i) (by omega) hw
    rw [busTo]
    by_cases hc : (wnd xs w i : Int) > (busTo xs w i).2
    · rw [if_pos hc]
      exact ⟨i, by omega, rfl⟩
    · rw [if_neg hc]
      by_cases h0 : i = 0
      · subst h0
        exact absurd (show (wnd xs w 0 : Int) > (busTo xs w 0).2 by simp only [busTo]; omega) hc
      · exact bus_at hw (i := i) (by omega) (by omega)
theorem bus_cut (l : List Rcd) (w : Int) : (busO l w).2.2 = true → (0 ≤ (busO l w).1 ∧ (busO l w).1 ≤ 86400) ∧ (1 ≤ w ∧ w ≤ 3600) ∧ ((busO l w).1 + w - 1 ≤ 86400 → ∃ K, cutO l (busO l w).1 ((busO l w).1 + w - 1) = (K, true) ∧ (K.length : Int) = (busO l w).2.1) := by
  unfold busO
  by_cases hb : busB l w = true
  · rw [if_pos hb]
    intro _
    unfold busB at hb
    simp only [Bool.and_eq_true, decide_eq_true_eq] at hb
    obtain ⟨⟨hr, hw⟩, hl⟩ := hb
    obtain ⟨j, hj, he⟩ := bus_at (xs := l) hw.1 hl (Nat.le_refl _)
    have hin := rcd_in (recs_mem hr _ (getD_mem (d := default) hj))
    simp only []
    rw [he]
    simp only []
    refine ⟨⟨hin.1, hin.2.1⟩, hw, fun hs => ⟨l.filter (inP (l.getD j default).sec ((l.getD j default).sec + w - 1)), ?_, ?_⟩⟩
    · unfold cutO
      rw [if_pos]
      unfold cutB
      rw [hr]
      simp only [Bool.true_and, Bool.and_eq_true, decide_eq_true_eq]
      omega
    · unfold wnd cntN
      rw [List.take_length]
  · rw [if_neg hb]
    intro h; cases h
theorem move_back {r : List Rcd} {n : Int} : (r.map (moveR n)).map (moveR (0 - n)) = r := by
  rw [List.map_map]
  conv => rhs; rw [← List.map_id r]
  refine List.map_congr_left fun x _ => ?_
  obtain ⟨a, b⟩ := x
  simp only [Function.comp_apply, moveR, id_eq, Rcd.mk.injEq, and_true]
  omega
theorem shift_back {r : List Rcd} {n : Int} (hf : Fits r) : (shiftO r n).1.length ≤ r.length ∧ ((shiftO r n).2 = true → Okw Try.prog 30 [rcdS (shiftO r n).1, .int .i64 (0 - n)] (OutN (r, true))) := by
  by_cases h : shiftB r n = true ∧ recsB (r.map (moveR n)) = true
  · have e : shiftO r n = (r.map (moveR n), true) := by unfold shiftO; rw [if_pos h]
    rw [e]
    refine ⟨by simp, fun _ => ?_⟩
    have h2 := k_iShift (r.map (moveR n)) (0 - n) (move_fits hf)
    have h1 := h.1
    unfold shiftB at h1
    simp only [Bool.and_eq_true, decide_eq_true_eq] at h1
    have e2 : shiftO (r.map (moveR n)) (0 - n) = (r, true) := by
      unfold shiftO
      rw [move_back, if_pos]
      refine ⟨?_, h1.1⟩
      unfold shiftB
      rw [h.2]
      simp only [Bool.true_and, decide_eq_true_eq]
      omega
    rw [e2] at h2
    exact h2
  · have e : shiftO r n = ([], false) := by unfold shiftO; rw [if_neg h]
    rw [e]
    exact ⟨by simp, fun h => by cases h⟩
theorem sndTo_at {xs : List Rcd} : ∀ {n i : Nat}, n ≤ xs.length → i < (sndTo xs n).length → ∃ j : Nat, j < xs.length ∧ (sndTo xs n).getD i 0 = j ∧ frmP (xs.getD j default) = true
  | 0, i, _, h => by simp [sndTo] at h
  | n + 1, i, hn, h => by
    by_cases h1 : i < (sndTo xs n).length
    · obtain ⟨j, g1, g2, g3⟩ := sndTo_at (xs := xs) (n := n) (by omega) h1
      refine ⟨j, g1, ?_, g3⟩
      rw [sndTo, List.getD_eq_getElem?_getD, List.getElem?_append_left h1, ← List.getD_eq_getElem?_getD]
      exact g2
    · rw [sndTo] at h ⊢
      split at h
      · rename_i hf
        simp only [List.length_append, List.length_cons, List.length_nil] at h
        refine ⟨n, by omega, ?_, hf⟩
        rw [if_pos hf, List.getD_eq_getElem?_getD, List.getElem?_append_right (by omega), show i - (sndTo xs n).length = 0 from by omega]
        rfl
      · simp at h; omega
theorem snd_at (xs : List Rcd) : (sndO xs).1.length ≤ xs.length ∧ ∀ i, i < (sndO xs).1.length → ∃ j : Nat, j < xs.length ∧ (sndO xs).1.getD i 0 = j ∧ frmP (xs.getD j default) = true := by
  unfold sndO
  split
  · exact ⟨sndTo_len xs _, fun i hi => sndTo_at (Nat.le_refl _) hi⟩
  · exact ⟨by simp, fun i hi => by simp at hi⟩
/-- nil seen as a row -/
theorem snd_own {f : FuncId} {xs : List PV} {o : List Int × Bool} (h : Okw Try.prog f xs (OutJ o)) : Okw Try.prog f xs (OutI o) := by
  refine nil_own 3 1 (by omega) h fun d H hh => ?_
  rcases hh with hh | ⟨rfl, rfl, ho⟩
  · exact .inl hh
  · refine .inr ⟨[.bool _], ⟨trivial, trivial⟩, rfl, rfl, ?_⟩
    unfold OutI
    rw [ho]
    exact ⟨rfl, rfl⟩
set_option maxRecDepth 100000 in
set_option maxHeartbeats 16000000 in
/-- laws.rInts -/
theorem k_rInts (xs : List Int) (hb : xs.length ≤ 1048576) : Okv Try.prog 50 [slI .i64 xs, slI .i64 xs] (.p (.bool true)) := by
  refine ok_D hmix c_laws_rInts (by simp) ?_
  simp only [envOf, envFrom, go_sem, reduceIte, Nat.reduceEqDiff]
  repeat' (first
    | (simp only [go_sem, Nat.lt_add_one, Nat.zero_lt_one, reduceIte, Nat.reduceEqDiff, Nat.reduceBEq, Nat.reduceAdd, Nat.reduceSub, Nat.reduceMul, Nat.reduceLeDiff, Nat.reduceLT, Bool.false_eq_true])
    | (simp (disch := omega) only [w64, w8, bytesOf_cons, tmod10, tdiv10, tn48, nsub1, nadd1, nsub, nadd, nmul, List.take_length, Int.toNat_zero, Int.reduceAdd, Int.reduceSub, Int.reduceToNat, Int.reduceMul, Nat.sub_zero, Nat.min_self])
    | (refine Rm_need (by first | exact True.intro | omega | (simp; omega)) ?_)
    | (refine Rm_gi (by first | omega | (simp; omega)) ?_)
    | (refine Rm_gb (by first | omega | (simp; omega)) ?_)
    | (refine Rm_ga (by first | omega | (simp; omega)) _ rfl (Nat.le_of_ble_eq_true rfl) ?_)
    | (refine Rm_gm (by first | omega | (simp; omega)) _ rfl ?_)
    | (refine Rm_part _ _ rfl rfl ?_)
    | (refine Rm_puti (by first | omega | (simp; omega)) rfl ?_)
    | (refine Dm_draw [] (by simp) ?_)
    | (refine Tm_both ?_ ?_)
    | (refine Tm_fin (by simp only [hideOK, newsE]; simp []) ?_)
    | (refine Cm_split (fun h => ?_) (fun h => ?_) <;> (try (simp only [decide_eq_true_eq, decide_eq_false_iff_not, bne_iff_ne, beq_iff_eq, bne_eq_false_iff_eq, beq_eq_false_iff_ne, Bool.not_eq_true, Bool.not_eq_true', Bool.not_eq_false, Bool.not_eq_false', ne_eq, Bool.and_eq_true, Bool.or_eq_true, true_eq_decide_iff, false_eq_decide_iff] at h)) <;> (try omega))
    | (refine Gm_split (fun h => ?_) (fun h => ?_) <;> (try simp only [ne_eq, Bool.not_eq_true, Bool.not_eq_false] at h) <;> (try rw [h]) <;> (try (simp only [decide_eq_true_eq, decide_eq_false_iff_not, bne_iff_ne, beq_iff_eq, bne_eq_false_iff_eq, beq_eq_false_iff_ne, Bool.not_eq_true, Bool.not_eq_true', Bool.not_eq_false, Bool.not_eq_false', ne_eq, Bool.and_eq_true, Bool.or_eq_true, true_eq_decide_iff, false_eq_decide_iff] at h)) <;> (try omega))
    | (refine Sm_split (fun h => ?_) (fun h => ?_) <;> (try (simp only [decide_eq_true_eq, decide_eq_false_iff_not, bne_iff_ne, beq_iff_eq, bne_eq_false_iff_eq, beq_eq_false_iff_ne, Bool.not_eq_true, Bool.not_eq_true', Bool.not_eq_false, Bool.not_eq_false', ne_eq, Bool.and_eq_true, Bool.or_eq_true, true_eq_decide_iff, false_eq_decide_iff] at h)) <;> (try omega))
    | (exact ret_p rfl ⟨rfl, rfl⟩)
    | (refine ret_okv (by first | trivial | simp only [go_sem, detD, detDs, detP, and_self, and_true]) ?_)
    | (exact ret_gen _ _ _ rfl rfl rfl ⟨rfl, rfl⟩)
    | (simp only [Option.some.injEq, DV.tup.injEq, DV.p.injEq, List.cons.injEq, PV.int.injEq, PV.bool.injEq, PV.str.injEq, and_true, true_and])
    | rfl
    | (refine Bool.eq_iff_iff.2 ?_; simp only [decide_eq_true_eq, Bool.and_eq_true, Bool.or_eq_true, Bool.not_eq_true', decide_eq_false_iff_not, Bool.false_eq_true, beq_iff_eq, bne_iff_ne, ne_eq, false_iff, iff_false, true_iff, iff_true]; omega)
    | omega)
  refine Dm_loop [0, 1, 5] (fun m ds H' => ∃ i : Nat, i ≤ xs.length ∧ m = xs.length - i ∧ ds = [.p (slI .i64 xs), .p (slI .i64 xs), .p (.int .i64 i)] ∧ H' = []) xs.length ⟨0, by omega, by omega, rfl, rfl⟩ ?_
  rintro m ds H' ⟨i, hi, rfl, rfl, rfl⟩ -
  repeat' (first
    | (simp only [go_sem, reduceIte, Nat.reduceEqDiff])
    | (simp (disch := omega) only [w64, nadd1])
    | (refine Rm_need (by first | exact True.intro | omega | (simp; omega)) ?_)
    | (refine Rm_gi (by first | omega | (simp; omega)) ?_)
    | (refine Rm_gb (by first | omega | (simp; omega)) ?_)
    | (refine Rm_ga (by first | omega | (simp; omega)) _ rfl (Nat.le_of_ble_eq_true rfl) ?_)
    | (refine Rm_gm (by first | omega | (simp; omega)) _ rfl ?_)
    | (refine Rm_part _ _ rfl rfl ?_)
    | (refine Rm_puti (by first | omega | (simp; omega)) rfl ?_)
    | (refine Dm_draw [] (by simp) ?_)
    | (refine Tm_both ?_ ?_)
    | (refine Tm_fin (by simp only [hideOK, newsE]; simp []) ?_)
    | (refine Cm_split (fun h => ?_) (fun h => ?_) <;> (try (simp only [decide_eq_true_eq, decide_eq_false_iff_not] at h)) <;> (try omega))
    | (refine Gm_split (fun h => ?_) (fun h => ?_) <;> (try simp only [ne_eq, Bool.not_eq_true, Bool.not_eq_false] at h) <;> (try rw [h]) <;> (try (simp only [decide_eq_true_eq, decide_eq_false_iff_not, bne_iff_ne, beq_iff_eq, bne_eq_false_iff_eq, beq_eq_false_iff_ne, Bool.not_eq_true, Bool.not_eq_true', Bool.not_eq_false, Bool.not_eq_false', ne_eq, Bool.and_eq_true, Bool.or_eq_true, true_eq_decide_iff, false_eq_decide_iff] at h)) <;> (try omega))
    | (refine Sm_split (fun h => ?_) (fun h => ?_) <;> (try (simp only [decide_eq_true_eq, decide_eq_false_iff_not, bne_iff_ne, beq_iff_eq, bne_eq_false_iff_eq, beq_eq_false_iff_ne, Bool.not_eq_true, Bool.not_eq_true', Bool.not_eq_false, Bool.not_eq_false', ne_eq, Bool.and_eq_true, Bool.or_eq_true, true_eq_decide_iff, false_eq_decide_iff] at h)) <;> (try omega))
    | (exact ret_p rfl ⟨rfl, rfl⟩)
    | (refine ret_okv (by first | trivial | simp only [go_sem, detD, detDs, detP, and_self, and_true]) ?_)
    | (exact ret_gen _ _ _ rfl rfl rfl ⟨rfl, rfl⟩)
    | (simp only [Option.some.injEq, DV.tup.injEq, DV.p.injEq, List.cons.injEq, PV.int.injEq, PV.bool.injEq, PV.str.injEq, and_true, true_and])
    | rfl
    | (refine Bool.eq_iff_iff.2 ?_; simp only [decide_eq_true_eq, Bool.and_eq_true, Bool.or_eq_true, Bool.not_eq_true', decide_eq_false_iff_not, Bool.false_eq_true, beq_iff_eq, bne_iff_ne, ne_eq, false_iff, iff_false, true_iff, iff_true]; omega)
    | omega)
  all_goals first
    | (refine Xm_inv_n (xs.length - (i + 1)) (by omega) ⟨i + 1, by omega, rfl, rfl, rfl⟩)
    | skip
set_option maxRecDepth 100000 in
set_option maxHeartbeats 16000000 in
/-- spec.DrawBusiestWindow -/
theorem k_DrawBusiestWindow (code : List UInt8) (hc : code.length ≤ 65536) : Okw Try.prog 47 [codeP code] fun d H => ∃ (xs : List Rcd) (w : Int), d = .tup [.own 0 0 xs.length, .p (.int .i64 w)] ∧ RsIn xs ∧ (0 ≤ w ∧ w ≤ 3601) ∧ H = [.arr 58 2 (xs.map Rcd.pv)] := by
  refine ok_D hmix c_spec_DrawBusiestWindow (by simp) ?_
  have hk := fun (a s : Int) (h : 0 ≤ a ∧ a ≤ 900000) => k_recorded code a s hc h
  have h11 := fun r : Nat => td11 (r := r)
  simp only [envOf, envFrom, go_sem, reduceIte, Nat.reduceEqDiff, Nat.reduceAdd, Nat.reduceLeDiff]
  repeat' (first
    | (simp only [go_sem, Nat.lt_add_one, reduceIte, Nat.reduceEqDiff, Nat.reduceAdd, Nat.reduceMul, Nat.reduceLeDiff, Nat.reduceLT])
    | (simp (disch := omega) only [w64, Nat.sub_zero])
    | (refine Rm_need (by first | exact True.intro | omega | (simp; omega)) ?_)
    | (unfold codeP)
    | (rw [h11])
    | (refine Rm_mc rfl rfl (hk _ _ (by omega)) (fun r H2 hh => ?_); obtain ⟨xs, a2, s2, rfl, hx, g3, g4, rfl⟩ := hh)
    | (refine Rm_among 0 3601 hc rfl rfl rfl (by omega) (by omega) (by first | decide | (simp; omega)) (by decide) (fun r a1 s1 q1 q2 q5 q3 q4 => ?_); clear q5)
    | (refine Rm_pick hc rfl (by omega) (by first | omega | (simp; omega)) (fun r a1 s1 q2 q3 q4 => ?_))
    | (refine Rm_one hc rfl (by omega) (by first | omega | (simp; omega)) (fun r a1 s1 q3 q4 => ?_))
    | (refine Rm_of 1000 hc rfl rfl rfl (by omega) (by omega) (by first | decide | omega) (by decide) (fun r a1 s1 q1 q2 q3 q4 => ?_); clear q2)
    | (refine Rm_among (-1000000000000) 1000000000000 hc rfl rfl rfl (by omega) (by omega) (by first | decide | (simp; omega)) (by decide) (fun r a1 s1 q1 q2 q5 q3 q4 => ?_); clear q5)
    | (refine Rm_gi (by first | omega | (simp; omega)) ?_)
    | (refine Rm_gb (by first | omega | (simp; omega)) ?_)
    | (refine Rm_ga (by first | omega | (simp; omega)) _ rfl (Nat.le_of_ble_eq_true rfl) ?_)
    | (refine Rm_gm (by first | omega | (simp; omega)) _ rfl ?_)
    | (refine Rm_part _ _ rfl rfl ?_)
    | (refine Rm_puti (by first | omega | (simp; omega)) rfl ?_)
    | (refine Dm_draw [] (by simp) ?_)
    | (refine Tm_both ?_ ?_)
    | (refine Tm_fin (by simp only [hideOK, newsE]; simp []) ?_)
    | (refine Cm_split (fun h => ?_) (fun h => ?_) <;> (try (simp only [decide_eq_true_eq, decide_eq_false_iff_not, bne_iff_ne, beq_iff_eq, bne_eq_false_iff_eq, beq_eq_false_iff_ne, Bool.not_eq_true, Bool.not_eq_true', Bool.not_eq_false, Bool.not_eq_false', ne_eq, Bool.and_eq_true, Bool.or_eq_true, true_eq_decide_iff, false_eq_decide_iff] at h)) <;> (try omega))
    | (refine Gm_split (fun h => ?_) (fun h => ?_) <;> (try simp only [ne_eq, Bool.not_eq_true, Bool.not_eq_false] at h) <;> (try rw [h]) <;> (try (simp only [decide_eq_true_eq, decide_eq_false_iff_not, bne_iff_ne, beq_iff_eq, bne_eq_false_iff_eq, beq_eq_false_iff_ne, Bool.not_eq_true, Bool.not_eq_true', Bool.not_eq_false, Bool.not_eq_false', ne_eq, Bool.and_eq_true, Bool.or_eq_true, true_eq_decide_iff, false_eq_decide_iff] at h)) <;> (try omega))
    | (refine Sm_split (fun h => ?_) (fun h => ?_) <;> (try (simp only [decide_eq_true_eq, decide_eq_false_iff_not, bne_iff_ne, beq_iff_eq, bne_eq_false_iff_eq, beq_eq_false_iff_ne, Bool.not_eq_true, Bool.not_eq_true', Bool.not_eq_false, Bool.not_eq_false', ne_eq, Bool.and_eq_true, Bool.or_eq_true, true_eq_decide_iff, false_eq_decide_iff] at h)) <;> (try omega))
    | (exact ret_p rfl ⟨rfl, rfl⟩)
    | (refine ret_okv (by first | trivial | simp only [go_sem, detD, detDs, detP, and_self, and_true]) ?_)
    | (exact ret_gen _ _ _ rfl rfl rfl ⟨rfl, rfl⟩)
    | (simp only [Option.some.injEq, DV.tup.injEq, DV.p.injEq, List.cons.injEq, PV.int.injEq, PV.bool.injEq, PV.str.injEq, and_true, true_and])
    | rfl
    | (refine Bool.eq_iff_iff.2 ?_; simp only [decide_eq_true_eq, Bool.and_eq_true, Bool.or_eq_true, Bool.not_eq_true', decide_eq_false_iff_not, Bool.false_eq_true, beq_iff_eq, bne_iff_ne, ne_eq, false_iff, iff_false, true_iff, iff_true]; omega)
    | omega)
  exact ret_gen _ _ _ rfl rfl rfl ⟨xs, _, rfl, hx, ⟨by omega, by omega⟩, rfl⟩
set_option maxRecDepth 100000 in
set_option maxHeartbeats 16000000 in
/-- spec.DrawShiftRecording -/
theorem k_DrawShiftRecording (code : List UInt8) (hc : code.length ≤ 65536) : Okw Try.prog 48 [codeP code] fun d H => ∃ (xs : List Rcd) (w : Int), d = .tup [.own 0 0 xs.length, .p (.int .i64 w)] ∧ RsIn xs ∧ (-86401 ≤ w ∧ w ≤ 86401) ∧ H = [.arr 58 2 (xs.map Rcd.pv)] := by
  refine ok_D hmix c_spec_DrawShiftRecording (by simp) ?_
  have hk := fun (a s : Int) (h : 0 ≤ a ∧ a ≤ 900000) => k_recorded code a s hc h
  simp only [envOf, envFrom, go_sem, reduceIte, Nat.reduceEqDiff, Nat.reduceAdd, Nat.reduceLeDiff]
  repeat' (first
    | (simp only [go_sem, Nat.lt_add_one, reduceIte, Nat.reduceEqDiff, Nat.reduceAdd, Nat.reduceMul, Nat.reduceLeDiff, Nat.reduceLT])
    | (simp (disch := omega) only [w64, w8, bytesOf_cons, tmod10, tdiv10, tn48, nsub1, nadd1, nsub, nadd, nmul, List.take_length, Int.toNat_zero, Int.reduceAdd, Int.reduceSub, Int.reduceToNat, Int.reduceMul, Nat.sub_zero, Nat.min_self])
    | (refine Rm_need (by first | exact True.intro | omega | (simp; omega)) ?_)
    | (unfold codeP)
    | (refine Rm_mc rfl rfl (hk _ _ (by omega)) (fun r H2 hh => ?_); obtain ⟨xs, a2, s2, rfl, hx, g3, g4, rfl⟩ := hh)
    | (refine Rm_among (-86401) 86401 hc rfl rfl rfl (by omega) (by omega) (by first | decide | (simp; omega)) (by decide) (fun r a1 s1 q1 q2 q5 q3 q4 => ?_); clear q5)
    | (refine Rm_pick hc rfl (by omega) (by first | omega | (simp; omega)) (fun r a1 s1 q2 q3 q4 => ?_))
    | (refine Rm_one hc rfl (by omega) (by first | omega | (simp; omega)) (fun r a1 s1 q3 q4 => ?_))
    | (refine Rm_of 1000 hc rfl rfl rfl (by omega) (by omega) (by first | decide | omega) (by decide) (fun r a1 s1 q1 q2 q3 q4 => ?_); clear q2)
    | (refine Rm_among (-1000000000000) 1000000000000 hc rfl rfl rfl (by omega) (by omega) (by first | decide | (simp; omega)) (by decide) (fun r a1 s1 q1 q2 q5 q3 q4 => ?_); clear q5)
    | (refine Rm_gi (by first | omega | (simp; omega)) ?_)
    | (refine Rm_gb (by first | omega | (simp; omega)) ?_)
    | (refine Rm_ga (by first | omega | (simp; omega)) _ rfl (Nat.le_of_ble_eq_true rfl) ?_)
    | (refine Rm_gm (by first | omega | (simp; omega)) _ rfl ?_)
    | (refine Rm_part _ _ rfl rfl ?_)
    | (refine Rm_puti (by first | omega | (simp; omega)) rfl ?_)
    | (refine Dm_draw [] (by simp) ?_)
    | (refine Tm_both ?_ ?_)
    | (refine Tm_fin (by simp only [hideOK, newsE]; simp []) ?_)
    | (refine Cm_split (fun h => ?_) (fun h => ?_) <;> (try (simp only [decide_eq_true_eq, decide_eq_false_iff_not, bne_iff_ne, beq_iff_eq, bne_eq_false_iff_eq, beq_eq_false_iff_ne, Bool.not_eq_true, Bool.not_eq_true', Bool.not_eq_false, Bool.not_eq_false', ne_eq, Bool.and_eq_true, Bool.or_eq_true, true_eq_decide_iff, false_eq_decide_iff] at h)) <;> (try omega))
    | (refine Gm_split (fun h => ?_) (fun h => ?_) <;> (try simp only [ne_eq, Bool.not_eq_true, Bool.not_eq_false] at h) <;> (try rw [h]) <;> (try (simp only [decide_eq_true_eq, decide_eq_false_iff_not, bne_iff_ne, beq_iff_eq, bne_eq_false_iff_eq, beq_eq_false_iff_ne, Bool.not_eq_true, Bool.not_eq_true', Bool.not_eq_false, Bool.not_eq_false', ne_eq, Bool.and_eq_true, Bool.or_eq_true, true_eq_decide_iff, false_eq_decide_iff] at h)) <;> (try omega))
    | (refine Sm_split (fun h => ?_) (fun h => ?_) <;> (try (simp only [decide_eq_true_eq, decide_eq_false_iff_not, bne_iff_ne, beq_iff_eq, bne_eq_false_iff_eq, beq_eq_false_iff_ne, Bool.not_eq_true, Bool.not_eq_true', Bool.not_eq_false, Bool.not_eq_false', ne_eq, Bool.and_eq_true, Bool.or_eq_true, true_eq_decide_iff, false_eq_decide_iff] at h)) <;> (try omega))
    | (exact ret_p rfl ⟨rfl, rfl⟩)
    | (refine ret_okv (by first | trivial | simp only [go_sem, detD, detDs, detP, and_self, and_true]) ?_)
    | (exact ret_gen _ _ _ rfl rfl rfl ⟨rfl, rfl⟩)
    | (simp only [Option.some.injEq, DV.tup.injEq, DV.p.injEq, List.cons.injEq, PV.int.injEq, PV.bool.injEq, PV.str.injEq, and_true, true_and])
    | rfl
    | (refine Bool.eq_iff_iff.2 ?_; simp only [decide_eq_true_eq, Bool.and_eq_true, Bool.or_eq_true, Bool.not_eq_true', decide_eq_false_iff_not, Bool.false_eq_true, beq_iff_eq, bne_iff_ne, ne_eq, false_iff, iff_false, true_iff, iff_true]; omega)
    | omega)
  exact ret_gen _ _ _ rfl rfl rfl ⟨xs, _, rfl, hx, ⟨by omega, by omega⟩, rfl⟩
end Go.Proofs.Ytgpalnoopmjlpaa

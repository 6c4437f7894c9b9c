import Derived.Test.YtgpalnoopmjlpaaRDraw3
import Derived.Test.YtgpalnoopmjlpaaRec9
namespace Go.Proofs.Ytgpalnoopmjlpaa
open Go.Dv Go.Dv.EvL
attribute [local irreducible] Ok Rm Dm Om Sm Xm Cm Gm Hm Tm

theorem rs_fits {xs : List Rcd} (h : RsIn xs) : Fits xs := ⟨by have := h.1; omega, fun r hr => by have := (h.2 r hr).2; omega⟩
theorem rtext_len {xs : List Rcd} (h : RsIn xs) : (rtextO xs).1.length ≤ 1200 := by
  unfold rtextO
  split
  · rename_i hr
    have h1 := text_len (recs_mem hr) xs.length (Nat.le_refl _)
    rw [List.take_length] at h1
    have := h.1
    simp only []
    omega
  · simp
set_option maxRecDepth 100000 in
set_option maxHeartbeats 16000000 in
/-- spec.DrawIsValidRecording -/
theorem k_DrawRcs (code : List UInt8) (hc : code.length ≤ 65536) : Okw Try.prog 71 [codeP code] fun d H => ∃ xs : List Rcd, d = .own 0 0 xs.length ∧ RsIn xs ∧ H = [.arr 58 2 (xs.map Rcd.pv)] := by
  refine ok_D hmix c_spec_DrawIsValidRecording (by simp) ?_
  have hk := fun (a s : Int) (h : 0 ≤ a ∧ a ≤ 900000) => k_recorded code a s hc h
  simp only [envOf, envFrom, go_sem, reduceIte, Nat.reduceEqDiff, Nat.reduceAdd, Nat.reduceLeDiff]
  repeat' (first
    | (simp only [go_sem, reduceIte, Nat.reduceEqDiff])
    | (simp (disch := omega) only [w64, w8, bytesOf_cons, tmod10, tdiv10, tn48, nsub1, nadd1, nsub, nadd, nmul, List.take_length, Int.toNat_zero, Int.reduceAdd, Int.reduceSub, Int.reduceToNat, Int.reduceMul, Nat.sub_zero, Nat.min_self])
    | (refine Rm_need (by first | exact True.intro | omega | (simp; omega)) ?_)
    | (unfold codeP)
    | (refine Rm_mc rfl rfl (hk _ _ (by omega)) (fun r H2 hh => ?_); obtain ⟨xs, a2, s2, rfl, hx, g3, g4, rfl⟩ := hh)
    | (refine Rm_gi (by first | omega | (simp; omega)) ?_)
    | (refine Rm_gb (by first | omega | (simp; omega)) ?_)
    | (refine Rm_ga (by first | omega | (simp; omega)) _ rfl (Nat.le_of_ble_eq_true rfl) ?_)
    | (refine Rm_gm (by first | omega | (simp; omega)) _ rfl ?_)
    | (refine Rm_part _ _ rfl rfl ?_)
    | (refine Rm_puti (by first | omega | (simp; omega)) rfl ?_)
    | (refine Dm_draw [] (by simp) ?_)
    | (refine Tm_both ?_ ?_)
    | (refine Tm_fin (by simp only [hideOK, newsE]; simp []) ?_)
    | (refine Cm_split (fun h => ?_) (fun h => ?_) <;> (try (simp only [decide_eq_true_eq, decide_eq_false_iff_not, bne_iff_ne, beq_iff_eq, bne_eq_false_iff_eq, beq_eq_false_iff_ne, Bool.not_eq_true, Bool.not_eq_true', Bool.not_eq_false, Bool.not_eq_false', ne_eq, Bool.and_eq_true, Bool.or_eq_true, true_eq_decide_iff, false_eq_decide_iff] at h)) <;> (try omega))
    | (refine Gm_split (fun h => ?_) (fun h => ?_) <;> (try simp only [ne_eq, Bool.not_eq_true, Bool.not_eq_false] at h) <;> (try rw [h]) <;> (try (simp only [decide_eq_true_eq, decide_eq_false_iff_not, bne_iff_ne, beq_iff_eq, bne_eq_false_iff_eq, beq_eq_false_iff_ne, Bool.not_eq_true, Bool.not_eq_true', Bool.not_eq_false, Bool.not_eq_false', ne_eq, Bool.and_eq_true, Bool.or_eq_true, true_eq_decide_iff, false_eq_decide_iff] at h)) <;> (try omega))
    | (refine Sm_split (fun h => ?_) (fun h => ?_) <;> (try (simp only [decide_eq_true_eq, decide_eq_false_iff_not, bne_iff_ne, beq_iff_eq, bne_eq_false_iff_eq, beq_eq_false_iff_ne, Bool.not_eq_true, Bool.not_eq_true', Bool.not_eq_false, Bool.not_eq_false', ne_eq, Bool.and_eq_true, Bool.or_eq_true, true_eq_decide_iff, false_eq_decide_iff] at h)) <;> (try omega))
    | (exact ret_p rfl ⟨rfl, rfl⟩)
    | (refine ret_okv (by first | trivial | simp only [go_sem, detD, detDs, detP, and_self, and_true]) ?_)
    | (exact ret_gen _ _ _ rfl rfl rfl ⟨rfl, rfl⟩)
    | (simp only [Option.some.injEq, DV.tup.injEq, DV.p.injEq, List.cons.injEq, PV.int.injEq, PV.bool.injEq, PV.str.injEq, and_true, true_and])
    | rfl
    | (refine Bool.eq_iff_iff.2 ?_; simp only [decide_eq_true_eq, Bool.and_eq_true, Bool.or_eq_true, Bool.not_eq_true', decide_eq_false_iff_not, Bool.false_eq_true, beq_iff_eq, bne_iff_ne, ne_eq, false_iff, iff_false, true_iff, iff_true]; omega)
    | omega)
  exact ret_gen _ _ _ rfl rfl rfl ⟨xs, rfl, hx, rfl⟩
set_option maxRecDepth 100000 in
set_option maxHeartbeats 16000000 in
/-- spec.DrawRecordingText -/
theorem k_DrawRecordingText (code : List UInt8) (hc : code.length ≤ 65536) : Okw Try.prog 41 [codeP code] fun d H => ∃ xs : List Rcd, d = .own 0 0 xs.length ∧ RsIn xs ∧ H = [.arr 58 2 (xs.map Rcd.pv)] := by
  refine ok_D hmix c_spec_DrawRecordingText (by simp) ?_
  have hk := k_DrawRcs code hc
  simp only [envOf, envFrom, go_sem, reduceIte, Nat.reduceEqDiff]
  repeat' (first
    | (simp only [go_sem, reduceIte, Nat.reduceEqDiff])
    | (simp (disch := omega) only [w64, w8, bytesOf_cons, tmod10, tdiv10, tn48, nsub1, nadd1, nsub, nadd, nmul, List.take_length, Int.toNat_zero, Int.reduceAdd, Int.reduceSub, Int.reduceToNat, Int.reduceMul, Nat.sub_zero, Nat.min_self])
    | (refine Rm_need (by first | exact True.intro | omega | (simp; omega)) ?_)
    | (refine Rm_o hk rfl (fun r H2 hh => ?_); obtain ⟨xs, rfl, hx, rfl⟩ := hh)
    | (refine Rm_gi (by first | omega | (simp; omega)) ?_)
    | (refine Rm_gb (by first | omega | (simp; omega)) ?_)
    | (refine Rm_ga (by first | omega | (simp; omega)) _ rfl (Nat.le_of_ble_eq_true rfl) ?_)
    | (refine Rm_gm (by first | omega | (simp; omega)) _ rfl ?_)
    | (refine Rm_part _ _ rfl rfl ?_)
    | (refine Rm_puti (by first | omega | (simp; omega)) rfl ?_)
    | (refine Dm_draw [] (by simp) ?_)
    | (refine Tm_both ?_ ?_)
    | (refine Tm_fin (by simp only [hideOK, newsE]; simp []) ?_)
    | (refine Cm_split (fun h => ?_) (fun h => ?_) <;> (try (simp only [decide_eq_true_eq, decide_eq_false_iff_not, bne_iff_ne, beq_iff_eq, bne_eq_false_iff_eq, beq_eq_false_iff_ne, Bool.not_eq_true, Bool.not_eq_true', Bool.not_eq_false, Bool.not_eq_false', ne_eq, Bool.and_eq_true, Bool.or_eq_true, true_eq_decide_iff, false_eq_decide_iff] at h)) <;> (try omega))
    | (refine Gm_split (fun h => ?_) (fun h => ?_) <;> (try simp only [ne_eq, Bool.not_eq_true, Bool.not_eq_false] at h) <;> (try rw [h]) <;> (try (simp only [decide_eq_true_eq, decide_eq_false_iff_not, bne_iff_ne, beq_iff_eq, bne_eq_false_iff_eq, beq_eq_false_iff_ne, Bool.not_eq_true, Bool.not_eq_true', Bool.not_eq_false, Bool.not_eq_false', ne_eq, Bool.and_eq_true, Bool.or_eq_true, true_eq_decide_iff, false_eq_decide_iff] at h)) <;> (try omega))
    | (refine Sm_split (fun h => ?_) (fun h => ?_) <;> (try (simp only [decide_eq_true_eq, decide_eq_false_iff_not, bne_iff_ne, beq_iff_eq, bne_eq_false_iff_eq, beq_eq_false_iff_ne, Bool.not_eq_true, Bool.not_eq_true', Bool.not_eq_false, Bool.not_eq_false', ne_eq, Bool.and_eq_true, Bool.or_eq_true, true_eq_decide_iff, false_eq_decide_iff] at h)) <;> (try omega))
    | (exact ret_p rfl ⟨rfl, rfl⟩)
    | (refine ret_okv (by first | trivial | simp only [go_sem, detD, detDs, detP, and_self, and_true]) ?_)
    | (exact ret_gen _ _ _ rfl rfl rfl ⟨rfl, rfl⟩)
    | (simp only [Option.some.injEq, DV.tup.injEq, DV.p.injEq, List.cons.injEq, PV.int.injEq, PV.bool.injEq, PV.str.injEq, and_true, true_and])
    | rfl
    | (refine Bool.eq_iff_iff.2 ?_; simp only [decide_eq_true_eq, Bool.and_eq_true, Bool.or_eq_true, Bool.not_eq_true', decide_eq_false_iff_not, Bool.false_eq_true, beq_iff_eq, bne_iff_ne, ne_eq, false_iff, iff_false, true_iff, iff_true]; omega)
    | omega)
  exact ret_gen _ _ _ rfl rfl rfl ⟨xs, rfl, hx, rfl⟩
set_option maxRecDepth 100000 in
set_option maxHeartbeats 16000000 in
/-- spec.DrawParseRecording -/
theorem k_DrawParseRecording (code : List UInt8) (hc : code.length ≤ 65536) : Okw Try.prog 43 [codeP code] fun d H => ∃ t : List UInt8, d = .p (.str t) ∧ t.length ≤ 10000 ∧ H = [] := by
  refine ok_D hmix c_spec_DrawParseRecording (by simp) ?_
  have hk := fun (a s : Int) (h : 0 ≤ a ∧ a ≤ 900000) => k_recorded code a s hc h
  have hs := fun (a s : Int) (t : List UInt8) (h : 0 ≤ a ∧ a ≤ 1099511627000 ∧ t.length ≤ 1000000) => k_spoilt code a s t [48, 65, 32, 10] hc ⟨h.1, h.2.1⟩ h.2.2 (by simp)
  have ht := fun xs (h : RsIn xs) => k_sText xs (rs_fits h)
  have hl := fun xs (h : RsIn xs) => rtext_len h
  simp only [envOf, envFrom, go_sem, reduceIte, Nat.reduceEqDiff, Nat.reduceAdd, Nat.reduceLeDiff]
  repeat' (first
    | (simp only [go_sem, reduceIte, Nat.reduceEqDiff, Nat.reduceAdd])
    | (simp (disch := omega) only [w64, w8, bytesOf_cons, tmod10, tdiv10, tn48, nsub1, nadd1, nsub, nadd, nmul, List.take_length, Int.toNat_zero, Int.reduceAdd, Int.reduceSub, Int.reduceToNat, Int.reduceMul, Nat.sub_zero, Nat.min_self])
    | (refine Rm_need (by first | exact True.intro | omega | (simp; omega)) ?_)
    | (unfold codeP)
    | (refine Rm_mc rfl rfl (hk _ _ (by omega)) (fun r H2 hh => ?_); obtain ⟨xs, a2, s2, rfl, hx, g3, g4, rfl⟩ := hh; have hx2 := hl _ hx; have ht2 := ht _ hx)
    | (refine Rm_w rfl (ht2) (by trivial) ?_)
    | (refine Rm_w ?_ (ht2) (by trivial) ?_; · (simp [viewOfs, viewOf, List.take_of_length_le]; done))
    | (refine Rm_pick hc rfl (by omega) (by first | omega | (simp; omega)) (fun r a1 s1 q2 q3 q4 => ?_))
    | (refine Rm_one hc rfl (by omega) (by first | omega | (simp; omega)) (fun r a1 s1 q3 q4 => ?_))
    | (refine Rm_of 1000 hc rfl rfl rfl (by omega) (by omega) (by first | decide | omega) (by decide) (fun r a1 s1 q1 q2 q3 q4 => ?_); clear q2)
    | (refine Rm_among (-1000000000000) 1000000000000 hc rfl rfl rfl (by omega) (by omega) (by first | decide | (simp; omega)) (by decide) (fun r a1 s1 q1 q2 q5 q3 q4 => ?_); clear q5)
    | (refine Rm_mc rfl rfl (hs _ _ _ (by omega)) (fun r H2 hh => ?_); obtain ⟨t, a3, s3, rfl, htl, g5, g6, rfl⟩ := hh)
    | (refine Rm_gi (by first | omega | (simp; omega)) ?_)
    | (refine Rm_gb (by first | omega | (simp; omega)) ?_)
    | (refine Rm_ga (by first | omega | (simp; omega)) _ rfl (Nat.le_of_ble_eq_true rfl) ?_)
    | (refine Rm_gm (by first | omega | (simp; omega)) _ rfl ?_)
    | (refine Rm_part _ _ rfl rfl ?_)
    | (refine Rm_puti (by first | omega | (simp; omega)) rfl ?_)
    | (refine Dm_draw [] (by simp) ?_)
    | (refine Tm_both ?_ ?_)
    | (refine Tm_fin (by simp only [hideOK, newsE]; simp []) ?_)
    | (refine Cm_split (fun h => ?_) (fun h => ?_) <;> (try (simp only [decide_eq_true_eq, decide_eq_false_iff_not, bne_iff_ne, beq_iff_eq, bne_eq_false_iff_eq, beq_eq_false_iff_ne, Bool.not_eq_true, Bool.not_eq_true', Bool.not_eq_false, Bool.not_eq_false', ne_eq, Bool.and_eq_true, Bool.or_eq_true, true_eq_decide_iff, false_eq_decide_iff] at h)) <;> (try omega))
    | (refine Gm_split (fun h => ?_) (fun h => ?_) <;> (try simp only [ne_eq, Bool.not_eq_true, Bool.not_eq_false] at h) <;> (try rw [h]) <;> (try (simp only [decide_eq_true_eq, decide_eq_false_iff_not, bne_iff_ne, beq_iff_eq, bne_eq_false_iff_eq, beq_eq_false_iff_ne, Bool.not_eq_true, Bool.not_eq_true', Bool.not_eq_false, Bool.not_eq_false', ne_eq, Bool.and_eq_true, Bool.or_eq_true, true_eq_decide_iff, false_eq_decide_iff] at h)) <;> (try omega))
    | (refine Sm_split (fun h => ?_) (fun h => ?_) <;> (try (simp only [decide_eq_true_eq, decide_eq_false_iff_not, bne_iff_ne, beq_iff_eq, bne_eq_false_iff_eq, beq_eq_false_iff_ne, Bool.not_eq_true, Bool.not_eq_true', Bool.not_eq_false, Bool.not_eq_false', ne_eq, Bool.and_eq_true, Bool.or_eq_true, true_eq_decide_iff, false_eq_decide_iff] at h)) <;> (try omega))
    | (exact ret_p rfl ⟨rfl, rfl⟩)
    | (refine ret_okv (by first | trivial | simp only [go_sem, detD, detDs, detP, and_self, and_true]) ?_)
    | (exact ret_gen _ _ _ rfl rfl rfl ⟨rfl, rfl⟩)
    | (simp only [Option.some.injEq, DV.tup.injEq, DV.p.injEq, List.cons.injEq, PV.int.injEq, PV.bool.injEq, PV.str.injEq, and_true, true_and])
    | rfl
    | (refine Bool.eq_iff_iff.2 ?_; simp only [decide_eq_true_eq, Bool.and_eq_true, Bool.or_eq_true, Bool.not_eq_true', decide_eq_false_iff_not, Bool.false_eq_true, beq_iff_eq, bne_iff_ne, ne_eq, false_iff, iff_false, true_iff, iff_true]; omega)
    | omega)
  all_goals first
    | exact ret_gen _ _ _ rfl rfl rfl ⟨_, rfl, by omega, rfl⟩
    | skip
set_option maxRecDepth 100000 in
set_option maxHeartbeats 16000000 in
/-- spec.DrawCutRecording -/
theorem k_DrawCutRecording (code : List UInt8) (hc : code.length ≤ 65536) : Okw Try.prog 44 [codeP code] fun d H => ∃ (xs : List Rcd) (f t : Int), d = .tup [.own 0 0 xs.length, .p (.int .i64 f), .p (.int .i64 t)] ∧ RsIn xs ∧ H = [.arr 58 2 (xs.map Rcd.pv)] := by
  refine ok_D hmix c_spec_DrawCutRecording (by simp) ?_
  have hk := fun (a s : Int) (h : 0 ≤ a ∧ a ≤ 900000) => k_recorded code a s hc h
  have h2 := fun (a s : Int) (h : 0 ≤ a ∧ a ≤ 1000000) => k_second25 code a s hc h
  have h11 := fun r : Nat => td11 (r := r)
  simp only [envOf, envFrom, go_sem, reduceIte, Nat.reduceEqDiff, Nat.reduceAdd, Nat.reduceLeDiff]
  repeat' (first
    | (simp only [go_sem, Nat.lt_add_one, reduceIte, Nat.reduceEqDiff, Nat.reduceAdd, Nat.reduceMul, Nat.reduceLeDiff, Nat.reduceLT])
    | (simp (disch := omega) only [w64, Nat.sub_zero])
    | (refine Rm_need (by first | exact True.intro | omega | (simp; omega)) ?_)
    | (unfold codeP)
    | (rw [h11])
    | (refine Rm_mc rfl rfl (hk _ _ (by omega)) (fun r H2 hh => ?_); obtain ⟨xs, a2, s2, rfl, hx, g3, g4, rfl⟩ := hh)
    | (refine Rm_mc rfl rfl (h2 _ _ (by omega)) (fun r H2 hh => ?_); obtain ⟨f, a3, s3, rfl, hf, g5, g6, rfl⟩ := hh)
    | (refine Rm_pick hc rfl (by omega) (by first | omega | (simp; omega)) (fun r a1 s1 q2 q3 q4 => ?_))
    | (refine Rm_one hc rfl (by omega) (by first | omega | (simp; omega)) (fun r a1 s1 q3 q4 => ?_))
    | (refine Rm_of 1000 hc rfl rfl rfl (by omega) (by omega) (by first | decide | omega) (by decide) (fun r a1 s1 q1 q2 q3 q4 => ?_); clear q2)
    | (refine Rm_among (-1000000000000) 1000000000000 hc rfl rfl rfl (by omega) (by omega) (by first | decide | (simp; omega)) (by decide) (fun r a1 s1 q1 q2 q5 q3 q4 => ?_); clear q5)
    | (refine Rm_gi (by first | omega | (simp; omega)) ?_)
    | (refine Rm_gb (by first | omega | (simp; omega)) ?_)
    | (refine Rm_ga (by first | omega | (simp; omega)) _ rfl (Nat.le_of_ble_eq_true rfl) ?_)
    | (refine Rm_gm (by first | omega | (simp; omega)) _ rfl ?_)
    | (refine Rm_part _ _ rfl rfl ?_)
    | (refine Rm_puti (by first | omega | (simp; omega)) rfl ?_)
    | (refine Dm_draw [] (by simp) ?_)
    | (refine Tm_both ?_ ?_)
    | (refine Tm_fin (by simp only [hideOK, newsE]; simp []) ?_)
    | (refine Cm_split (fun h => ?_) (fun h => ?_) <;> (try (simp only [decide_eq_true_eq, decide_eq_false_iff_not, bne_iff_ne, beq_iff_eq, bne_eq_false_iff_eq, beq_eq_false_iff_ne, Bool.not_eq_true, Bool.not_eq_true', Bool.not_eq_false, Bool.not_eq_false', ne_eq, Bool.and_eq_true, Bool.or_eq_true, true_eq_decide_iff, false_eq_decide_iff] at h)) <;> (try omega))
    | (refine Gm_split (fun h => ?_) (fun h => ?_) <;> (try simp only [ne_eq, Bool.not_eq_true, Bool.not_eq_false] at h) <;> (try rw [h]) <;> (try (simp only [decide_eq_true_eq, decide_eq_false_iff_not, bne_iff_ne, beq_iff_eq, bne_eq_false_iff_eq, beq_eq_false_iff_ne, Bool.not_eq_true, Bool.not_eq_true', Bool.not_eq_false, Bool.not_eq_false', ne_eq, Bool.and_eq_true, Bool.or_eq_true, true_eq_decide_iff, false_eq_decide_iff] at h)) <;> (try omega))
    | (refine Sm_split (fun h => ?_) (fun h => ?_) <;> (try (simp only [decide_eq_true_eq, decide_eq_false_iff_not, bne_iff_ne, beq_iff_eq, bne_eq_false_iff_eq, beq_eq_false_iff_ne, Bool.not_eq_true, Bool.not_eq_true', Bool.not_eq_false, Bool.not_eq_false', ne_eq, Bool.and_eq_true, Bool.or_eq_true, true_eq_decide_iff, false_eq_decide_iff] at h)) <;> (try omega))
    | (exact ret_p rfl ⟨rfl, rfl⟩)
    | (refine ret_okv (by first | trivial | simp only [go_sem, detD, detDs, detP, and_self, and_true]) ?_)
    | (exact ret_gen _ _ _ rfl rfl rfl ⟨rfl, rfl⟩)
    | (simp only [Option.some.injEq, DV.tup.injEq, DV.p.injEq, List.cons.injEq, PV.int.injEq, PV.bool.injEq, PV.str.injEq, and_true, true_and])
    | rfl
    | (refine Bool.eq_iff_iff.2 ?_; simp only [decide_eq_true_eq, Bool.and_eq_true, Bool.or_eq_true, Bool.not_eq_true', decide_eq_false_iff_not, Bool.false_eq_true, beq_iff_eq, bne_iff_ne, ne_eq, false_iff, iff_false, true_iff, iff_true]; omega)
    | omega)
  all_goals first
    | exact ret_gen _ _ _ rfl rfl rfl ⟨xs, _, _, rfl, hx, rfl⟩
    | skip
set_option maxRecDepth 100000 in
set_option maxHeartbeats 16000000 in
/-- spec.DrawMergeRecordings -/
theorem k_DrawMergeRecordings (code : List UInt8) (hc : code.length ≤ 65536) : Okw Try.prog 45 [codeP code] fun d H => (∃ (xs ys : List Rcd), d = .tup [.own 0 0 xs.length, .own 1 0 ys.length] ∧ RsIn xs ∧ RsIn ys ∧ H = [.arr 58 2 (xs.map Rcd.pv), .arr 58 2 (ys.map Rcd.pv)]) ∨
    (∃ (xs : List Rcd) (k : Nat), d = .tup [.own 0 0 xs.length, .own 0 k (xs.length - k)] ∧ RsIn xs ∧ k ≤ xs.length ∧ H = [.arr 58 2 (xs.map Rcd.pv)]) := by
  refine ok_D hmix c_spec_DrawMergeRecordings (by simp) ?_
  have hk := fun (a s : Int) (h : 0 ≤ a ∧ a ≤ 900000) => k_recorded code a s hc h
  simp only [envOf, envFrom, go_sem, reduceIte, Nat.reduceEqDiff, Nat.reduceAdd, Nat.reduceLeDiff]
  repeat' (first
    | (simp only [go_sem, reduceIte, Nat.reduceEqDiff, Nat.reduceBEq, Nat.reduceAdd, Nat.reduceSub])
    | (simp (disch := omega) only [w64, w8, bytesOf_cons, tmod10, tdiv10, tn48, nsub1, nadd1, nsub, nadd, nmul, List.take_length, Int.toNat_zero, Int.reduceAdd, Int.reduceSub, Int.reduceToNat, Int.reduceMul, Nat.sub_zero, Nat.min_self])
    | (refine Rm_need (by first | exact True.intro | omega | (simp; omega)) ?_)
    | (unfold codeP)
    | (refine Rm_mc rfl rfl (hk _ _ (by omega)) (fun r H2 hh => ?_); obtain ⟨xs, a2, s2, rfl, hx, g3, g4, rfl⟩ := hh; have hx30 := hx.1)
    | (refine Rm_pick hc rfl (by omega) (by first | omega | (simp; omega)) (fun r a1 s1 q2 q3 q4 => ?_))
    | (refine Rm_one hc rfl (by omega) (by first | omega | (simp; omega)) (fun r a1 s1 q3 q4 => ?_))
    | (refine Rm_of 1000 hc rfl rfl rfl (by omega) (by omega) (by first | decide | omega) (by decide) (fun r a1 s1 q1 q2 q3 q4 => ?_); clear q2)
    | (refine Rm_among (-1000000000000) 1000000000000 hc rfl rfl rfl (by omega) (by omega) (by first | decide | (simp; omega)) (by decide) (fun r a1 s1 q1 q2 q5 q3 q4 => ?_); clear q5)
    | (refine Rm_gi (by first | omega | (simp; omega)) ?_)
    | (refine Rm_gb (by first | omega | (simp; omega)) ?_)
    | (refine Rm_ga (by first | omega | (simp; omega)) _ rfl (Nat.le_of_ble_eq_true rfl) ?_)
    | (refine Rm_gm (by first | omega | (simp; omega)) _ rfl ?_)
    | (refine Rm_part _ _ rfl rfl ?_)
    | (refine Rm_puti (by first | omega | (simp; omega)) rfl ?_)
    | (refine Dm_draw [] (by simp) ?_)
    | (refine Tm_both ?_ ?_)
    | (refine Tm_fin (by simp only [hideOK, newsE]; simp []) ?_)
    | (refine Cm_split (fun h => ?_) (fun h => ?_) <;> (try (simp only [decide_eq_true_eq, decide_eq_false_iff_not] at h)) <;> (try omega))
    | (refine Gm_split (fun h => ?_) (fun h => ?_) <;> (try simp only [ne_eq, Bool.not_eq_true, Bool.not_eq_false] at h) <;> (try rw [h]) <;> (try (simp only [decide_eq_true_eq, decide_eq_false_iff_not, bne_iff_ne, beq_iff_eq, bne_eq_false_iff_eq, beq_eq_false_iff_ne, Bool.not_eq_true, Bool.not_eq_true', Bool.not_eq_false, Bool.not_eq_false', ne_eq, Bool.and_eq_true, Bool.or_eq_true, true_eq_decide_iff, false_eq_decide_iff] at h)) <;> (try omega))
    | (refine Sm_split (fun h => ?_) (fun h => ?_) <;> (try (simp only [decide_eq_true_eq, decide_eq_false_iff_not, bne_iff_ne, beq_iff_eq, bne_eq_false_iff_eq, beq_eq_false_iff_ne, Bool.not_eq_true, Bool.not_eq_true', Bool.not_eq_false, Bool.not_eq_false', ne_eq, Bool.and_eq_true, Bool.or_eq_true, true_eq_decide_iff, false_eq_decide_iff] at h)) <;> (try omega))
    | (exact ret_p rfl ⟨rfl, rfl⟩)
    | (refine ret_okv (by first | trivial | simp only [go_sem, detD, detDs, detP, and_self, and_true]) ?_)
    | (exact ret_gen _ _ _ rfl rfl rfl ⟨rfl, rfl⟩)
    | (simp only [Option.some.injEq, DV.tup.injEq, DV.p.injEq, List.cons.injEq, PV.int.injEq, PV.bool.injEq, PV.str.injEq, and_true, true_and])
    | rfl
    | (refine Bool.eq_iff_iff.2 ?_; simp only [decide_eq_true_eq, Bool.and_eq_true, Bool.or_eq_true, Bool.not_eq_true', decide_eq_false_iff_not, Bool.false_eq_true, beq_iff_eq, bne_iff_ne, ne_eq, false_iff, iff_false, true_iff, iff_true]; omega)
    | omega)
  · refine ret_gen _ _ _ rfl rfl rfl (.inr ⟨xs, _, rfl, hx, ?_, rfl⟩)
    omega
  · refine ret_gen _ _ _ rfl rfl rfl (.inl ⟨_, _, rfl, ?_, hx, rfl⟩)
    assumption
  · refine ret_gen _ _ _ rfl rfl rfl (.inl ⟨_, _, rfl, ?_, hx, rfl⟩)
    assumption
end Go.Proofs.Ytgpalnoopmjlpaa

import Derived.Test.YtakpkggmhgkicaaLabV0
import Derived.Test.YtakpkggmhgkicaaLabL3
import Derived.Test.YtakpkggmhgkicaaLabL7
import Derived.Test.YtakpkggmhgkicaaLabL8
import Derived.Test.YtakpkggmhgkicaaNilOwn
namespace Go.Proofs.Ytakpkggmhgkicaa
open Go.Dv Go.Dv.EvL
attribute [local irreducible] Ok Rm Dm Om Sm Xm Cm Gm Hm Tm

structure LabF (xs : List Sp) (cs : List Int) (P F : Bool) (T n : Int) (B S C : List Int) : Prop where
  tr : trI xs cs = (T, P)
  pl : plB xs cs = P
  bp : bpO xs = (B, n, F)
  si : simO xs = (S, F)
  cv : cvO xs cs = (C, P)
  f1 : P = true → F = true ∧ n ≤ T
  f3 : F = true → ∃ a : Int, trI xs S = (a, true) ∧ n ≤ a ∧ trI xs B = (n, true)
  f4 : P = true → T = 0 → C = []
  bl : B.length ≤ 1048576
  sl : S.length ≤ 1048576
  cl : C.length ≤ 1048576
theorem lab_all (xs : List Sp) (cs : List Int) (hx : xs.length ≤ 20) : ∃ P F T n B S C, LabF xs cs P F T n B S C := by
  have hol : (cvO xs cs).1.length ≤ 1048576 := by
    have := cover_len (xs := xs) (cs := cs) (i := xs.length)
    unfold cvO
    split
    · simp only []; omega
    · simp
  have hcv : cvO xs cs = ((cvO xs cs).1, plB xs cs) := by
    unfold cvO
    cases plB xs cs <;> rfl
  have htr : trI xs cs = ((trI xs cs).1, plB xs cs) := by
    unfold trI
    cases plB xs cs <;> rfl
  have hf4 : plB xs cs = true → (trI xs cs).1 = 0 → (cvO xs cs).1 = [] := fun hp ht => by
    have h1 : trO xs cs = 0 := by
      unfold trI at ht
      rw [if_pos hp] at ht
      simp only [] at ht
      omega
    unfold cvO
    rw [if_pos hp]
    exact lab_4 (pl_in hp).2.1 h1
  by_cases hl : lbB xs = true
  · by_cases hf : 0 ≤ (bestA xs).2
    · have h2 := lab_2 hl
      rw [decide_eq_true hf] at h2
      obtain ⟨out, ho⟩ := Option.isSome_iff_exists.1 h2
      obtain ⟨g1, g2, g3⟩ := lab_3s hl ho
      obtain ⟨b1, b2, b3⟩ := lab_3 hl hf
      refine ⟨plB xs cs, true, (trI xs cs).1, (bestA xs).2, (bestA xs).1, out, (cvO xs cs).1, htr, rfl, ?_, ?_, hcv, fun hp => ⟨rfl, ?_⟩, fun _ => ⟨trO xs out, ?_, g3, ?_⟩, hf4, by omega, by omega, hol⟩
      · unfold bpO
        rw [if_pos ⟨hl, hf⟩]
      · unfold simO
        rw [if_pos hl, ho]
      · have := (lab_1 hp).2
        unfold trI
        rw [if_pos hp]
        exact this
      · unfold trI
        rw [if_pos g2]
      · unfold trI
        rw [if_pos b2, b3]
    · have h2 := lab_2 hl
      rw [decide_eq_false hf] at h2
      have ho : simpleTo xs xs.length = none := by
        cases h : simpleTo xs xs.length
        · rfl
        · rw [h] at h2; cases h2
      refine ⟨plB xs cs, false, (trI xs cs).1, 0, [], [], (cvO xs cs).1, htr, rfl, ?_, ?_, hcv, fun hp => absurd (lab_1 hp).1 hf, (fun h => by cases h), hf4, by simp, by simp, hol⟩
      · unfold bpO
        rw [if_neg (fun h => hf h.2)]
      · unfold simO
        rw [if_pos hl, ho]
  · refine ⟨plB xs cs, false, (trI xs cs).1, 0, [], [], (cvO xs cs).1, htr, rfl, ?_, ?_, hcv, fun hp => absurd (pl_in hp).1 hl, (fun h => by cases h), hf4, by simp, by simp, hol⟩
    · unfold bpO
      rw [if_neg (fun h => hl h.1)]
    · unfold simO
      rw [if_neg hl]
set_option maxRecDepth 100000 in
set_option maxHeartbeats 16000000 in
/-- impl.BestPlacing, nil seen as a row -/
theorem k_iBestO (xs : List Sp) (hb : xs.length ≤ 1048576) : Okw Try.prog 27 [spS xs] (BpO (bpO xs)) := by
  refine nil_own 3 1 (by omega) (k_iBest xs hb) fun d H hh => ?_
  rcases hh with hh | ⟨rfl, rfl, ho⟩
  · exact .inl hh
  · refine .inr ⟨[.int .i64 _, .bool _], ⟨trivial, trivial, trivial⟩, rfl, rfl, ?_⟩
    unfold BpO
    rw [ho]
    exact ⟨rfl, rfl⟩
set_option maxRecDepth 100000 in
set_option maxHeartbeats 16000000 in
/-- impl.SimplePlacing, nil seen as a row -/
theorem k_iSimpleO (xs : List Sp) (hb : xs.length ≤ 1048576) : Okw Try.prog 25 [spS xs] (ItO (simO xs)) := by
  refine nil_own 3 1 (by omega) (k_iSimple xs hb) fun d H hh => ?_
  rcases hh with hh | ⟨rfl, rfl, ho⟩
  · exact .inl hh
  · refine .inr ⟨[.bool _], ⟨trivial, trivial⟩, rfl, rfl, ?_⟩
    unfold ItO
    rw [ho]
    exact ⟨rfl, rfl⟩
set_option maxRecDepth 100000 in
set_option maxHeartbeats 16000000 in
/-- impl.CoveredSpots, nil seen as a row -/
theorem k_iCoveredO (xs : List Sp) (cs : List Int) (hb : xs.length ≤ 1048576) (hc : cs.length ≤ 1048576) : Okw Try.prog 20 [spS xs, slI .i64 cs] (IntO (cvO xs cs)) := by
  refine nil_own 3 1 (by omega) (k_iCovered xs cs hb hc) fun d H hh => ?_
  rcases hh with hh | ⟨rfl, rfl, ho⟩
  · exact .inl hh
  · refine .inr ⟨[.bool _], ⟨trivial, trivial⟩, rfl, rfl, ?_⟩
    unfold IntO
    rw [ho]
    exact ⟨rfl, rfl⟩
set_option maxRecDepth 100000 in
set_option maxHeartbeats 16000000 in
/-- laws.FnLabels -/
theorem k_FnLabels (code : List UInt8) (hc : code.length ≤ 9223372036854775807) : Okv Try.prog 9 [codeP code] (.p (.bool true)) := by
  refine ok_D hmix c_laws_FnLabels (by simp) ?_
  have hbig := k_vBig code hc
  by_cases hb : 65536 < code.length
  · rw [decide_eq_true hb] at hbig
    simp only [envOf, envFrom, go_sem, reduceIte, Nat.reduceEqDiff]
    repeat' (first
      | (simp only [go_sem, reduceIte, Nat.reduceEqDiff])
      | (simp (disch := omega) only [w64, w8, bytesOf_cons, tmod10, tdiv10, tn48, nsub1, nadd1, nsub, nadd, nmul, List.take_length, Int.toNat_zero, Int.reduceAdd, Int.reduceSub, Int.reduceToNat, Int.reduceMul, Nat.sub_zero, Nat.min_self])
      | (refine Rm_need (by first | exact True.intro | omega | (simp; omega)) ?_)
      | (refine Rm_w rfl (hbig) (by trivial) ?_)
      | (refine Rm_w ?_ (hbig) (by trivial) ?_; · (simp [viewOfs, viewOf, List.take_of_length_le, cutL]; done))
      | (refine Rm_gi (by first | omega | (simp; omega)) ?_)
      | (refine Rm_gb (by first | omega | (simp; omega)) ?_)
      | (refine Rm_ga (by first | omega | (simp; omega)) _ rfl (Nat.le_of_ble_eq_true rfl) ?_)
      | (refine Rm_gm (by first | omega | (simp; omega)) _ rfl ?_)
      | (refine Rm_part _ _ rfl rfl ?_)
      | (refine Rm_puti (by first | omega | (simp; omega)) rfl ?_)
      | (refine Dm_draw [] (by simp) ?_)
      | (refine Tm_both ?_ ?_)
      | (refine Tm_fin (by simp only [hideOK, newsE]; simp []) ?_)
      | (refine Cm_split (fun h => ?_) (fun h => ?_) <;> (try (simp only [decide_eq_true_eq, decide_eq_false_iff_not, bne_iff_ne, beq_iff_eq, bne_eq_false_iff_eq, beq_eq_false_iff_ne, Bool.not_eq_true, Bool.not_eq_true', Bool.not_eq_false, Bool.not_eq_false', ne_eq, Bool.and_eq_true, Bool.or_eq_true, true_eq_decide_iff, false_eq_decide_iff] at h)) <;> (try omega))
      | (refine Gm_split (fun h => ?_) (fun h => ?_) <;> (try simp only [ne_eq, Bool.not_eq_true, Bool.not_eq_false] at h) <;> (try rw [h]) <;> (try (simp only [decide_eq_true_eq, decide_eq_false_iff_not, bne_iff_ne, beq_iff_eq, bne_eq_false_iff_eq, beq_eq_false_iff_ne, Bool.not_eq_true, Bool.not_eq_true', Bool.not_eq_false, Bool.not_eq_false', ne_eq, Bool.and_eq_true, Bool.or_eq_true, true_eq_decide_iff, false_eq_decide_iff] at h)) <;> (try omega))
      | (refine Sm_split (fun h => ?_) (fun h => ?_) <;> (try (simp only [decide_eq_true_eq, decide_eq_false_iff_not, bne_iff_ne, beq_iff_eq, bne_eq_false_iff_eq, beq_eq_false_iff_ne, Bool.not_eq_true, Bool.not_eq_true', Bool.not_eq_false, Bool.not_eq_false', ne_eq, Bool.and_eq_true, Bool.or_eq_true, true_eq_decide_iff, false_eq_decide_iff] at h)) <;> (try omega))
      | (exact ret_p rfl ⟨rfl, rfl⟩)
      | (refine ret_okv (by first | trivial | simp only [go_sem, detD, detDs, detP, and_self, and_true]) ?_)
      | (exact ret_gen _ _ _ rfl rfl rfl ⟨rfl, rfl⟩)
      | (simp only [Option.some.injEq, DV.tup.injEq, DV.p.injEq, List.cons.injEq, PV.int.injEq, PV.bool.injEq, PV.str.injEq, and_true, true_and])
      | rfl
      | (refine Bool.eq_iff_iff.2 ?_; simp only [decide_eq_true_eq, Bool.and_eq_true, Bool.or_eq_true, Bool.not_eq_true', decide_eq_false_iff_not, Bool.false_eq_true, beq_iff_eq, bne_iff_ne, ne_eq, false_iff, iff_false, true_iff, iff_true]; omega)
      | omega)
  · rw [decide_eq_false hb] at hbig
    simp only [envOf, envFrom, go_sem, reduceIte, Nat.reduceEqDiff]
    repeat' (first
      | (simp only [go_sem, reduceIte, Nat.reduceEqDiff])
      | (simp (disch := omega) only [w64, w8, bytesOf_cons, tmod10, tdiv10, tn48, nsub1, nadd1, nsub, nadd, nmul, List.take_length, Int.toNat_zero, Int.reduceAdd, Int.reduceSub, Int.reduceToNat, Int.reduceMul, Nat.sub_zero, Nat.min_self])
      | (refine Rm_need (by first | exact True.intro | omega | (simp; omega)) ?_)
      | (refine Rm_w rfl (hbig) (by trivial) ?_)
      | (refine Rm_w ?_ (hbig) (by trivial) ?_; · (simp [viewOfs, viewOf, List.take_of_length_le, cutL]; done))
      | (refine Rm_gi (by first | omega | (simp; omega)) ?_)
      | (refine Rm_gb (by first | omega | (simp; omega)) ?_)
      | (refine Rm_ga (by first | omega | (simp; omega)) _ rfl (Nat.le_of_ble_eq_true rfl) ?_)
      | (refine Rm_gm (by first | omega | (simp; omega)) _ rfl ?_)
      | (refine Rm_part _ _ rfl rfl ?_)
      | (refine Rm_puti (by first | omega | (simp; omega)) rfl ?_)
      | (refine Dm_draw [] (by simp) ?_)
      | (refine Tm_both ?_ ?_)
      | (refine Tm_fin (by simp only [hideOK, newsE]; simp []) ?_)
      | (refine Cm_split (fun h => ?_) (fun h => ?_) <;> (try (simp only [decide_eq_true_eq, decide_eq_false_iff_not, bne_iff_ne, beq_iff_eq, bne_eq_false_iff_eq, beq_eq_false_iff_ne, Bool.not_eq_true, Bool.not_eq_true', Bool.not_eq_false, Bool.not_eq_false', ne_eq, Bool.and_eq_true, Bool.or_eq_true, true_eq_decide_iff, false_eq_decide_iff] at h)) <;> (try omega))
      | (refine Gm_split (fun h => ?_) (fun h => ?_) <;> (try simp only [ne_eq, Bool.not_eq_true, Bool.not_eq_false] at h) <;> (try rw [h]) <;> (try (simp only [decide_eq_true_eq, decide_eq_false_iff_not, bne_iff_ne, beq_iff_eq, bne_eq_false_iff_eq, beq_eq_false_iff_ne, Bool.not_eq_true, Bool.not_eq_true', Bool.not_eq_false, Bool.not_eq_false', ne_eq, Bool.and_eq_true, Bool.or_eq_true, true_eq_decide_iff, false_eq_decide_iff] at h)) <;> (try omega))
      | (refine Sm_split (fun h => ?_) (fun h => ?_) <;> (try (simp only [decide_eq_true_eq, decide_eq_false_iff_not, bne_iff_ne, beq_iff_eq, bne_eq_false_iff_eq, beq_eq_false_iff_ne, Bool.not_eq_true, Bool.not_eq_true', Bool.not_eq_false, Bool.not_eq_false', ne_eq, Bool.and_eq_true, Bool.or_eq_true, true_eq_decide_iff, false_eq_decide_iff] at h)) <;> (try omega))
      | (exact ret_p rfl ⟨rfl, rfl⟩)
      | (refine ret_okv (by first | trivial | simp only [go_sem, detD, detDs, detP, and_self, and_true]) ?_)
      | (exact ret_gen _ _ _ rfl rfl rfl ⟨rfl, rfl⟩)
      | (simp only [Option.some.injEq, DV.tup.injEq, DV.p.injEq, List.cons.injEq, PV.int.injEq, PV.bool.injEq, PV.str.injEq, and_true, true_and])
      | rfl
      | (refine Bool.eq_iff_iff.2 ?_; simp only [decide_eq_true_eq, Bool.and_eq_true, Bool.or_eq_true, Bool.not_eq_true', decide_eq_false_iff_not, Bool.false_eq_true, beq_iff_eq, bne_iff_ne, ne_eq, false_iff, iff_false, true_iff, iff_true]; omega)
      | omega)
    refine Rm_o (k_DrawTroubleOf code (by omega)) rfl ?_
    rintro r H2 ⟨xs, cs, rfl, hx, hcl, rfl⟩
    obtain ⟨P, F, T, n, B, S, C, hL⟩ := lab_all xs cs hx.1
    have hx20 := hx.1
    obtain ⟨l1, l2, l3, l4, l5, f1, f3, f4, bl, sl, cl⟩ := hL
    have a1 := k_iTrouble xs cs (by omega) (by omega)
    have a2 := k_sTrouble xs cs (by omega) (by omega)
    have a3 := k_IsPlacing xs cs (by omega) (by omega)
    have a4 := k_iBestO xs (by omega)
    have a5 := k_sBest xs (by omega)
    have a6 := k_iSimpleO xs (by omega)
    have a7 := k_sSimple xs (by omega)
    have a8 := k_iCoveredO xs cs (by omega) (by omega)
    have a9 := k_sCovered xs cs (by omega) (by omega)
    have t1 := k_iTrouble xs S (by omega) sl
    have t2 := k_iTrouble xs B (by omega) bl
    unfold BpO at a4 a5
    unfold ItO at a6 a7
    unfold IntO at a8 a9
    rw [l1] at a1 a2
    rw [l2] at a3
    rw [l3] at a4 a5
    rw [l4] at a6 a7
    rw [l5] at a8 a9
    simp only [] at a1 a2 a4 a5 a6 a7 a8 a9
    have vB := k_vInts B bl
    have vS := k_vInts S sl
    have vC := k_vInts C cl
    clear l1 l2 l3 l4 l5 hx
    cases P
    · cases F
      · clear f1 f3 f4 t1 t2
        repeat' (first
          | (simp only [go_sem, reduceIte, Nat.reduceEqDiff, Nat.reduceBEq, Nat.reduceAdd])
          | (simp (disch := omega) only [w64, w8, bytesOf_cons, tmod10, tdiv10, tn48, nsub1, nadd1, nsub, nadd, nmul, List.take_length, Int.toNat_zero, Int.reduceAdd, Int.reduceSub, Int.reduceToNat, Int.reduceMul, Nat.sub_zero, Nat.min_self])
          | (refine Rm_need (by first | exact True.intro | omega | (simp; omega)) ?_)
          | (refine Rm_w rfl (a1) (by trivial) ?_)
          | (refine Rm_w ?_ (a1) (by trivial) ?_; · (simp [viewOfs, viewOf, List.take_of_length_le]; done))
          | (refine Rm_w rfl (a2) (by trivial) ?_)
          | (refine Rm_w ?_ (a2) (by trivial) ?_; · (simp [viewOfs, viewOf, List.take_of_length_le]; done))
          | (refine Rm_w rfl (a3) (by trivial) ?_)
          | (refine Rm_w ?_ (a3) (by trivial) ?_; · (simp [viewOfs, viewOf, List.take_of_length_le]; done))
          | (refine Rm_w rfl (vB) (by trivial) ?_)
          | (refine Rm_w ?_ (vB) (by trivial) ?_; · (simp [viewOfs, viewOf, List.take_of_length_le]; done))
          | (refine Rm_w rfl (vS) (by trivial) ?_)
          | (refine Rm_w ?_ (vS) (by trivial) ?_; · (simp [viewOfs, viewOf, List.take_of_length_le]; done))
          | (refine Rm_w rfl (vC) (by trivial) ?_)
          | (refine Rm_w ?_ (vC) (by trivial) ?_; · (simp [viewOfs, viewOf, List.take_of_length_le]; done))
          | (refine Rm_l a4 (by simp [viewOfs, viewOf, List.take_of_length_le]) (fun r H2 hh => ?_); obtain ⟨rfl, rfl⟩ := hh; refine ⟨by simp [flatD, flatDs, flatP], by simp [flatH, flatB, flat_intsB], ?_⟩)
          | (refine Rm_l a5 (by simp [viewOfs, viewOf, List.take_of_length_le]) (fun r H2 hh => ?_); obtain ⟨rfl, rfl⟩ := hh; refine ⟨by simp [flatD, flatDs, flatP], by simp [flatH, flatB, flat_intsB], ?_⟩)
          | (refine Rm_l a6 (by simp [viewOfs, viewOf, List.take_of_length_le]) (fun r H2 hh => ?_); obtain ⟨rfl, rfl⟩ := hh; refine ⟨by simp [flatD, flatDs, flatP], by simp [flatH, flatB, flat_intsB], ?_⟩)
          | (refine Rm_l a7 (by simp [viewOfs, viewOf, List.take_of_length_le]) (fun r H2 hh => ?_); obtain ⟨rfl, rfl⟩ := hh; refine ⟨by simp [flatD, flatDs, flatP], by simp [flatH, flatB, flat_intsB], ?_⟩)
          | (refine Rm_l a8 (by simp [viewOfs, viewOf, List.take_of_length_le]) (fun r H2 hh => ?_); obtain ⟨rfl, rfl⟩ := hh; refine ⟨by simp [flatD, flatDs, flatP], by simp [flatH, flatB, flat_intsB], ?_⟩)
          | (refine Rm_l a9 (by simp [viewOfs, viewOf, List.take_of_length_le]) (fun r H2 hh => ?_); obtain ⟨rfl, rfl⟩ := hh; refine ⟨by simp [flatD, flatDs, flatP], by simp [flatH, flatB, flat_intsB], ?_⟩)
          | (refine Rm_gi (by first | omega | (simp; omega)) ?_)
          | (refine Rm_gb (by first | omega | (simp; omega)) ?_)
          | (refine Rm_ga (by first | omega | (simp; omega)) _ rfl (Nat.le_of_ble_eq_true rfl) ?_)
          | (refine Rm_gm (by first | omega | (simp; omega)) _ rfl ?_)
          | (refine Rm_part _ _ rfl rfl ?_)
          | (refine Rm_puti (by first | omega | (simp; omega)) rfl ?_)
          | (refine Dm_draw [] (by simp) ?_)
          | (refine Tm_both ?_ ?_)
          | (refine Tm_fin (by simp only [hideOK, newsE]; simp []) ?_)
          | (refine Cm_split (fun h => ?_) (fun h => ?_) <;> (try (simp only [decide_eq_true_eq, decide_eq_false_iff_not, bne_iff_ne, beq_iff_eq, bne_eq_false_iff_eq, beq_eq_false_iff_ne, Bool.not_eq_true, Bool.not_eq_true', Bool.not_eq_false, Bool.not_eq_false', ne_eq, Bool.and_eq_true, Bool.or_eq_true, true_eq_decide_iff, false_eq_decide_iff] at h)) <;> (try omega))
          | (refine Gm_split (fun h => ?_) (fun h => ?_) <;> (try simp only [ne_eq, Bool.not_eq_true, Bool.not_eq_false] at h) <;> (try rw [h]) <;> (try (simp only [decide_eq_true_eq, decide_eq_false_iff_not, bne_iff_ne, beq_iff_eq, bne_eq_false_iff_eq, beq_eq_false_iff_ne, Bool.not_eq_true, Bool.not_eq_true', Bool.not_eq_false, Bool.not_eq_false', ne_eq, Bool.and_eq_true, Bool.or_eq_true, true_eq_decide_iff, false_eq_decide_iff] at h)) <;> (try omega))
          | (refine Sm_split (fun h => ?_) (fun h => ?_) <;> (try (simp only [decide_eq_true_eq, decide_eq_false_iff_not, bne_iff_ne, beq_iff_eq, bne_eq_false_iff_eq, beq_eq_false_iff_ne, Bool.not_eq_true, Bool.not_eq_true', Bool.not_eq_false, Bool.not_eq_false', ne_eq, Bool.and_eq_true, Bool.or_eq_true, true_eq_decide_iff, false_eq_decide_iff] at h)) <;> (try omega))
          | (exact ret_p rfl ⟨rfl, rfl⟩)
          | (refine ret_okv (by first | trivial | simp only [go_sem, detD, detDs, detP, and_self, and_true]) ?_)
          | (exact ret_gen _ _ _ rfl rfl rfl ⟨rfl, rfl⟩)
          | (simp only [Option.some.injEq, DV.tup.injEq, DV.p.injEq, List.cons.injEq, PV.int.injEq, PV.bool.injEq, PV.str.injEq, and_true, true_and])
          | rfl
          | (refine Bool.eq_iff_iff.2 ?_; simp only [decide_eq_true_eq, Bool.and_eq_true, Bool.or_eq_true, Bool.not_eq_true', decide_eq_false_iff_not, Bool.false_eq_true, beq_iff_eq, bne_iff_ne, ne_eq, false_iff, iff_false, true_iff, iff_true]; omega)
          | omega)
      · obtain ⟨a, g1, g2, g3⟩ := f3 rfl
        rw [g1] at t1
        rw [g3] at t2
        clear f1 f3 f4 g1 g3
        repeat' (first
          | (simp only [go_sem, reduceIte, Nat.reduceEqDiff, Nat.reduceBEq, Nat.reduceAdd])
          | (simp (disch := omega) only [w64, w8, bytesOf_cons, tmod10, tdiv10, tn48, nsub1, nadd1, nsub, nadd, nmul, List.take_length, Int.toNat_zero, Int.reduceAdd, Int.reduceSub, Int.reduceToNat, Int.reduceMul, Nat.sub_zero, Nat.min_self])
          | (refine Rm_need (by first | exact True.intro | omega | (simp; omega)) ?_)
          | (refine Rm_w rfl (t1) (by trivial) ?_)
          | (refine Rm_w ?_ (t1) (by trivial) ?_; · (simp [viewOfs, viewOf, List.take_of_length_le]; done))
          | (refine Rm_w rfl (t2) (by trivial) ?_)
          | (refine Rm_w ?_ (t2) (by trivial) ?_; · (simp [viewOfs, viewOf, List.take_of_length_le]; done))
          | (refine Rm_w rfl (a1) (by trivial) ?_)
          | (refine Rm_w ?_ (a1) (by trivial) ?_; · (simp [viewOfs, viewOf, List.take_of_length_le]; done))
          | (refine Rm_w rfl (a2) (by trivial) ?_)
          | (refine Rm_w ?_ (a2) (by trivial) ?_; · (simp [viewOfs, viewOf, List.take_of_length_le]; done))
          | (refine Rm_w rfl (a3) (by trivial) ?_)
          | (refine Rm_w ?_ (a3) (by trivial) ?_; · (simp [viewOfs, viewOf, List.take_of_length_le]; done))
          | (refine Rm_w rfl (vB) (by trivial) ?_)
          | (refine Rm_w ?_ (vB) (by trivial) ?_; · (simp [viewOfs, viewOf, List.take_of_length_le]; done))
          | (refine Rm_w rfl (vS) (by trivial) ?_)
          | (refine Rm_w ?_ (vS) (by trivial) ?_; · (simp [viewOfs, viewOf, List.take_of_length_le]; done))
          | (refine Rm_w rfl (vC) (by trivial) ?_)
          | (refine Rm_w ?_ (vC) (by trivial) ?_; · (simp [viewOfs, viewOf, List.take_of_length_le]; done))
          | (refine Rm_l a4 (by simp [viewOfs, viewOf, List.take_of_length_le]) (fun r H2 hh => ?_); obtain ⟨rfl, rfl⟩ := hh; refine ⟨by simp [flatD, flatDs, flatP], by simp [flatH, flatB, flat_intsB], ?_⟩)
          | (refine Rm_l a5 (by simp [viewOfs, viewOf, List.take_of_length_le]) (fun r H2 hh => ?_); obtain ⟨rfl, rfl⟩ := hh; refine ⟨by simp [flatD, flatDs, flatP], by simp [flatH, flatB, flat_intsB], ?_⟩)
          | (refine Rm_l a6 (by simp [viewOfs, viewOf, List.take_of_length_le]) (fun r H2 hh => ?_); obtain ⟨rfl, rfl⟩ := hh; refine ⟨by simp [flatD, flatDs, flatP], by simp [flatH, flatB, flat_intsB], ?_⟩)
          | (refine Rm_l a7 (by simp [viewOfs, viewOf, List.take_of_length_le]) (fun r H2 hh => ?_); obtain ⟨rfl, rfl⟩ := hh; refine ⟨by simp [flatD, flatDs, flatP], by simp [flatH, flatB, flat_intsB], ?_⟩)
          | (refine Rm_l a8 (by simp [viewOfs, viewOf, List.take_of_length_le]) (fun r H2 hh => ?_); obtain ⟨rfl, rfl⟩ := hh; refine ⟨by simp [flatD, flatDs, flatP], by simp [flatH, flatB, flat_intsB], ?_⟩)
          | (refine Rm_l a9 (by simp [viewOfs, viewOf, List.take_of_length_le]) (fun r H2 hh => ?_); obtain ⟨rfl, rfl⟩ := hh; refine ⟨by simp [flatD, flatDs, flatP], by simp [flatH, flatB, flat_intsB], ?_⟩)
          | (refine Rm_gi (by first | omega | (simp; omega)) ?_)
          | (refine Rm_gb (by first | omega | (simp; omega)) ?_)
          | (refine Rm_ga (by first | omega | (simp; omega)) _ rfl (Nat.le_of_ble_eq_true rfl) ?_)
          | (refine Rm_gm (by first | omega | (simp; omega)) _ rfl ?_)
          | (refine Rm_part _ _ rfl rfl ?_)
          | (refine Rm_puti (by first | omega | (simp; omega)) rfl ?_)
          | (refine Dm_draw [] (by simp) ?_)
          | (refine Tm_both ?_ ?_)
          | (refine Tm_fin (by simp only [hideOK, newsE]; simp []) ?_)
          | (refine Cm_split (fun h => ?_) (fun h => ?_) <;> (try (simp only [decide_eq_true_eq, decide_eq_false_iff_not, bne_iff_ne, beq_iff_eq, bne_eq_false_iff_eq, beq_eq_false_iff_ne, Bool.not_eq_true, Bool.not_eq_true', Bool.not_eq_false, Bool.not_eq_false', ne_eq, Bool.and_eq_true, Bool.or_eq_true, true_eq_decide_iff, false_eq_decide_iff] at h)) <;> (try omega))
          | (refine Gm_split (fun h => ?_) (fun h => ?_) <;> (try simp only [ne_eq, Bool.not_eq_true, Bool.not_eq_false] at h) <;> (try rw [h]) <;> (try (simp only [decide_eq_true_eq, decide_eq_false_iff_not, bne_iff_ne, beq_iff_eq, bne_eq_false_iff_eq, beq_eq_false_iff_ne, Bool.not_eq_true, Bool.not_eq_true', Bool.not_eq_false, Bool.not_eq_false', ne_eq, Bool.and_eq_true, Bool.or_eq_true, true_eq_decide_iff, false_eq_decide_iff] at h)) <;> (try omega))
          | (refine Sm_split (fun h => ?_) (fun h => ?_) <;> (try (simp only [decide_eq_true_eq, decide_eq_false_iff_not] at h)) <;> (try omega))
          | (exact ret_p rfl ⟨rfl, rfl⟩)
          | (refine ret_okv (by first | trivial | simp only [go_sem, detD, detDs, detP, and_self, and_true]) ?_)
          | (exact ret_gen _ _ _ rfl rfl rfl ⟨rfl, rfl⟩)
          | (simp only [Option.some.injEq, DV.tup.injEq, DV.p.injEq, List.cons.injEq, PV.int.injEq, PV.bool.injEq, PV.str.injEq, and_true, true_and])
          | rfl
          | (refine Bool.eq_iff_iff.2 ?_; simp only [decide_eq_true_eq, Bool.and_eq_true, Bool.or_eq_true, Bool.not_eq_true', decide_eq_false_iff_not, Bool.false_eq_true, beq_iff_eq, bne_iff_ne, ne_eq, false_iff, iff_false, true_iff, iff_true]; omega)
          | omega)
    · obtain ⟨rfl, hle⟩ := f1 rfl
      obtain ⟨a, g1, g2, g3⟩ := f3 rfl
      rw [g1] at t1
      rw [g3] at t2
      have f4 := f4 rfl
      clear f1 f3 g1 g3
      by_cases hT : T = 0
      · have hC := f4 hT
        subst hC
        clear f4
        repeat' (first
          | (simp only [go_sem, reduceIte, Nat.reduceEqDiff, Nat.reduceBEq, Nat.reduceAdd])
          | (simp (disch := omega) only [w64, w8, bytesOf_cons, tmod10, tdiv10, tn48, nsub1, nadd1, nsub, nadd, nmul, List.take_length, Int.toNat_zero, Int.reduceAdd, Int.reduceSub, Int.reduceToNat, Int.reduceMul, Nat.sub_zero, Nat.min_self])
          | (refine Rm_need (by first | exact True.intro | omega | (simp; omega)) ?_)
          | (refine Rm_w rfl (t1) (by trivial) ?_)
          | (refine Rm_w ?_ (t1) (by trivial) ?_; · (simp [viewOfs, viewOf, List.take_of_length_le]; done))
          | (refine Rm_w rfl (t2) (by trivial) ?_)
          | (refine Rm_w ?_ (t2) (by trivial) ?_; · (simp [viewOfs, viewOf, List.take_of_length_le]; done))
          | (refine Rm_w rfl (a1) (by trivial) ?_)
          | (refine Rm_w ?_ (a1) (by trivial) ?_; · (simp [viewOfs, viewOf, List.take_of_length_le]; done))
          | (refine Rm_w rfl (a2) (by trivial) ?_)
          | (refine Rm_w ?_ (a2) (by trivial) ?_; · (simp [viewOfs, viewOf, List.take_of_length_le]; done))
          | (refine Rm_w rfl (a3) (by trivial) ?_)
          | (refine Rm_w ?_ (a3) (by trivial) ?_; · (simp [viewOfs, viewOf, List.take_of_length_le]; done))
          | (refine Rm_w rfl (vB) (by trivial) ?_)
          | (refine Rm_w ?_ (vB) (by trivial) ?_; · (simp [viewOfs, viewOf, List.take_of_length_le]; done))
          | (refine Rm_w rfl (vS) (by trivial) ?_)
          | (refine Rm_w ?_ (vS) (by trivial) ?_; · (simp [viewOfs, viewOf, List.take_of_length_le]; done))
          | (refine Rm_w rfl (vC) (by trivial) ?_)
          | (refine Rm_w ?_ (vC) (by trivial) ?_; · (simp [viewOfs, viewOf, List.take_of_length_le, cutL]; done))
          | (refine Rm_l a4 (by simp [viewOfs, viewOf, List.take_of_length_le]) (fun r H2 hh => ?_); obtain ⟨rfl, rfl⟩ := hh; refine ⟨by simp [flatD, flatDs, flatP], by simp [flatH, flatB, flat_intsB], ?_⟩)
          | (refine Rm_l a5 (by simp [viewOfs, viewOf, List.take_of_length_le]) (fun r H2 hh => ?_); obtain ⟨rfl, rfl⟩ := hh; refine ⟨by simp [flatD, flatDs, flatP], by simp [flatH, flatB, flat_intsB], ?_⟩)
          | (refine Rm_l a6 (by simp [viewOfs, viewOf, List.take_of_length_le]) (fun r H2 hh => ?_); obtain ⟨rfl, rfl⟩ := hh; refine ⟨by simp [flatD, flatDs, flatP], by simp [flatH, flatB, flat_intsB], ?_⟩)
          | (refine Rm_l a7 (by simp [viewOfs, viewOf, List.take_of_length_le]) (fun r H2 hh => ?_); obtain ⟨rfl, rfl⟩ := hh; refine ⟨by simp [flatD, flatDs, flatP], by simp [flatH, flatB, flat_intsB], ?_⟩)
          | (refine Rm_l a8 (by simp [viewOfs, viewOf, List.take_of_length_le]) (fun r H2 hh => ?_); obtain ⟨rfl, rfl⟩ := hh; refine ⟨by simp [flatD, flatDs, flatP], by simp [flatH, flatB, flatPs], ?_⟩)
          | (refine Rm_l a9 (by simp [viewOfs, viewOf, List.take_of_length_le]) (fun r H2 hh => ?_); obtain ⟨rfl, rfl⟩ := hh; refine ⟨by simp [flatD, flatDs, flatP], by simp [flatH, flatB, flatPs], ?_⟩)
          | (refine Rm_gi (by first | omega | (simp; omega)) ?_)
          | (refine Rm_gb (by first | omega | (simp; omega)) ?_)
          | (refine Rm_ga (by first | omega | (simp; omega)) _ rfl (Nat.le_of_ble_eq_true rfl) ?_)
          | (refine Rm_gm (by first | omega | (simp; omega)) _ rfl ?_)
          | (refine Rm_part _ _ rfl rfl ?_)
          | (refine Rm_puti (by first | omega | (simp; omega)) rfl ?_)
          | (refine Dm_draw [] (by simp) ?_)
          | (refine Tm_both ?_ ?_)
          | (refine Tm_fin (by simp only [hideOK, newsE]; simp []) ?_)
          | (refine Cm_split (fun h => ?_) (fun h => ?_) <;> (try (simp only [decide_eq_true_eq, decide_eq_false_iff_not] at h)) <;> (try omega))
          | (refine Gm_split (fun h => ?_) (fun h => ?_) <;> (try simp only [ne_eq, Bool.not_eq_true, Bool.not_eq_false] at h) <;> (try rw [h]) <;> (try (simp only [decide_eq_true_eq, decide_eq_false_iff_not, bne_iff_ne, beq_iff_eq, bne_eq_false_iff_eq, beq_eq_false_iff_ne, Bool.not_eq_true, Bool.not_eq_true', Bool.not_eq_false, Bool.not_eq_false', ne_eq, Bool.and_eq_true, Bool.or_eq_true, true_eq_decide_iff, false_eq_decide_iff] at h)) <;> (try omega))
          | (refine Sm_split (fun h => ?_) (fun h => ?_) <;> (try (simp only [decide_eq_true_eq, decide_eq_false_iff_not, beq_iff_eq, beq_eq_false_iff_ne, ne_eq] at h)) <;> (try omega))
          | (exact ret_p rfl ⟨rfl, rfl⟩)
          | (refine ret_okv (by first | trivial | simp only [go_sem, detD, detDs, detP, and_self, and_true]) ?_)
          | (exact ret_gen _ _ _ rfl rfl rfl ⟨rfl, rfl⟩)
          | (simp only [Option.some.injEq, DV.tup.injEq, DV.p.injEq, List.cons.injEq, PV.int.injEq, PV.bool.injEq, PV.str.injEq, and_true, true_and])
          | rfl
          | (refine Bool.eq_iff_iff.2 ?_; simp only [decide_eq_true_eq, Bool.and_eq_true, Bool.or_eq_true, Bool.not_eq_true', decide_eq_false_iff_not, Bool.false_eq_true, beq_iff_eq, bne_iff_ne, ne_eq, false_iff, iff_false, true_iff, iff_true]; omega)
          | omega)
      · clear f4
        repeat' (first
          | (simp only [go_sem, reduceIte, Nat.reduceEqDiff, Nat.reduceBEq, Nat.reduceAdd])
          | (simp (disch := omega) only [w64, w8, bytesOf_cons, tmod10, tdiv10, tn48, nsub1, nadd1, nsub, nadd, nmul, List.take_length, Int.toNat_zero, Int.reduceAdd, Int.reduceSub, Int.reduceToNat, Int.reduceMul, Nat.sub_zero, Nat.min_self])
          | (refine Rm_need (by first | exact True.intro | omega | (simp; omega)) ?_)
          | (refine Rm_w rfl (t1) (by trivial) ?_)
          | (refine Rm_w ?_ (t1) (by trivial) ?_; · (simp [viewOfs, viewOf, List.take_of_length_le]; done))
          | (refine Rm_w rfl (t2) (by trivial) ?_)
          | (refine Rm_w ?_ (t2) (by trivial) ?_; · (simp [viewOfs, viewOf, List.take_of_length_le]; done))
          | (refine Rm_w rfl (a1) (by trivial) ?_)
          | (refine Rm_w ?_ (a1) (by trivial) ?_; · (simp [viewOfs, viewOf, List.take_of_length_le]; done))
          | (refine Rm_w rfl (a2) (by trivial) ?_)
          | (refine Rm_w ?_ (a2) (by trivial) ?_; · (simp [viewOfs, viewOf, List.take_of_length_le]; done))
          | (refine Rm_w rfl (a3) (by trivial) ?_)
          | (refine Rm_w ?_ (a3) (by trivial) ?_; · (simp [viewOfs, viewOf, List.take_of_length_le]; done))
          | (refine Rm_w rfl (vB) (by trivial) ?_)
          | (refine Rm_w ?_ (vB) (by trivial) ?_; · (simp [viewOfs, viewOf, List.take_of_length_le]; done))
          | (refine Rm_w rfl (vS) (by trivial) ?_)
          | (refine Rm_w ?_ (vS) (by trivial) ?_; · (simp [viewOfs, viewOf, List.take_of_length_le]; done))
          | (refine Rm_w rfl (vC) (by trivial) ?_)
          | (refine Rm_w ?_ (vC) (by trivial) ?_; · (simp [viewOfs, viewOf, List.take_of_length_le]; done))
          | (refine Rm_l a4 (by simp [viewOfs, viewOf, List.take_of_length_le]) (fun r H2 hh => ?_); obtain ⟨rfl, rfl⟩ := hh; refine ⟨by simp [flatD, flatDs, flatP], by simp [flatH, flatB, flat_intsB], ?_⟩)
          | (refine Rm_l a5 (by simp [viewOfs, viewOf, List.take_of_length_le]) (fun r H2 hh => ?_); obtain ⟨rfl, rfl⟩ := hh; refine ⟨by simp [flatD, flatDs, flatP], by simp [flatH, flatB, flat_intsB], ?_⟩)
          | (refine Rm_l a6 (by simp [viewOfs, viewOf, List.take_of_length_le]) (fun r H2 hh => ?_); obtain ⟨rfl, rfl⟩ := hh; refine ⟨by simp [flatD, flatDs, flatP], by simp [flatH, flatB, flat_intsB], ?_⟩)
          | (refine Rm_l a7 (by simp [viewOfs, viewOf, List.take_of_length_le]) (fun r H2 hh => ?_); obtain ⟨rfl, rfl⟩ := hh; refine ⟨by simp [flatD, flatDs, flatP], by simp [flatH, flatB, flat_intsB], ?_⟩)
          | (refine Rm_l a8 (by simp [viewOfs, viewOf, List.take_of_length_le]) (fun r H2 hh => ?_); obtain ⟨rfl, rfl⟩ := hh; refine ⟨by simp [flatD, flatDs, flatP], by simp [flatH, flatB, flat_intsB], ?_⟩)
          | (refine Rm_l a9 (by simp [viewOfs, viewOf, List.take_of_length_le]) (fun r H2 hh => ?_); obtain ⟨rfl, rfl⟩ := hh; refine ⟨by simp [flatD, flatDs, flatP], by simp [flatH, flatB, flat_intsB], ?_⟩)
          | (refine Rm_gi (by first | omega | (simp; omega)) ?_)
          | (refine Rm_gb (by first | omega | (simp; omega)) ?_)
          | (refine Rm_ga (by first | omega | (simp; omega)) _ rfl (Nat.le_of_ble_eq_true rfl) ?_)
          | (refine Rm_gm (by first | omega | (simp; omega)) _ rfl ?_)
          | (refine Rm_part _ _ rfl rfl ?_)
          | (refine Rm_puti (by first | omega | (simp; omega)) rfl ?_)
          | (refine Dm_draw [] (by simp) ?_)
          | (refine Tm_both ?_ ?_)
          | (refine Tm_fin (by simp only [hideOK, newsE]; simp []) ?_)
          | (refine Cm_split (fun h => ?_) (fun h => ?_) <;> (try (simp only [decide_eq_true_eq, decide_eq_false_iff_not] at h)) <;> (try omega))
          | (refine Gm_split (fun h => ?_) (fun h => ?_) <;> (try simp only [ne_eq, Bool.not_eq_true, Bool.not_eq_false] at h) <;> (try rw [h]) <;> (try (simp only [decide_eq_true_eq, decide_eq_false_iff_not, bne_iff_ne, beq_iff_eq, bne_eq_false_iff_eq, beq_eq_false_iff_ne, Bool.not_eq_true, Bool.not_eq_true', Bool.not_eq_false, Bool.not_eq_false', ne_eq, Bool.and_eq_true, Bool.or_eq_true, true_eq_decide_iff, false_eq_decide_iff] at h)) <;> (try omega))
          | (refine Sm_split (fun h => ?_) (fun h => ?_) <;> (try (simp only [decide_eq_true_eq, decide_eq_false_iff_not, beq_iff_eq, beq_eq_false_iff_ne, ne_eq] at h)) <;> (try omega))
          | (exact ret_p rfl ⟨rfl, rfl⟩)
          | (refine ret_okv (by first | trivial | simp only [go_sem, detD, detDs, detP, and_self, and_true]) ?_)
          | (exact ret_gen _ _ _ rfl rfl rfl ⟨rfl, rfl⟩)
          | (simp only [Option.some.injEq, DV.tup.injEq, DV.p.injEq, List.cons.injEq, PV.int.injEq, PV.bool.injEq, PV.str.injEq, and_true, true_and])
          | rfl
          | (refine Bool.eq_iff_iff.2 ?_; simp only [decide_eq_true_eq, Bool.and_eq_true, Bool.or_eq_true, Bool.not_eq_true', decide_eq_false_iff_not, Bool.false_eq_true, beq_iff_eq, bne_iff_ne, ne_eq, false_iff, iff_false, true_iff, iff_true]; omega)
          | omega)
end Go.Proofs.Ytakpkggmhgkicaa

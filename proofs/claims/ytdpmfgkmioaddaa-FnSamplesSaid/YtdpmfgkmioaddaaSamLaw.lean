import Derived.Test.YtdpmfgkmioaddaaStat
import Derived.Test.YtdpmfgkmioaddaaHistFn
namespace Go.Proofs.Ytdpmfgkmioaddaa
open Go.Dv Go.Dv.EvL
attribute [local irreducible] Ok Rm Dm Om Sm Xm Cm Gm Hm Tm

/-- all that FnSamples sees of samples -/
structure Seen (xs : List Int) (c : Int) (F : Bool) (n1 d1 n2 d2 n3 d3 t1 t2 : Int) (t3 : Bool) (A B : Int) : Prop where
  m : meanO xs = (n1, d1, F)
  w : medO xs = (n2, d2, F)
  v : varO xs = (n3, d3, F)
  t : trimO xs c = (t1, t2, t3)
  g : F = (goodB xs && decide (0 < xs.length))
  lo : F = true → percO xs 1 = (A, true)
  hi : F = true → percO xs 100 = (B, true)
  q : 0 ≤ n3 ∧ (F = true → A * d1 ≤ n1 ∧ n1 ≤ B * d1 ∧ A * d2 ≤ n2 ∧ n2 ≤ B * d2 ∧ (n3 = 0 ↔ A = B) ∧ (c = 0 → t1 = n1 ∧ t2 = d1) ∧ -3000000 ≤ A * d1 ∧ A * d1 ≤ 3000000 ∧ -3000000 ≤ B * d1 ∧ B * d1 ≤ 3000000 ∧ -3000000 ≤ A * d2 ∧ A * d2 ≤ 3000000 ∧ -3000000 ≤ B * d2 ∧ B * d2 ≤ 3000000)
theorem seen (xs : List Int) (c : Int) : ∃ F n1 d1 n2 d2 n3 d3 t1 t2 t3 A B, Seen xs c F n1 d1 n2 d2 n3 d3 t1 t2 t3 A B := by
  obtain ⟨t1, t2, t3, hT⟩ : ∃ t1 t2 t3, trimO xs c = (t1, t2, t3) := ⟨_, _, _, rfl⟩
  have hsome : someB xs = (goodB xs && decide (0 < xs.length)) := rfl
  cases hs : someB xs
  · refine ⟨false, 0, 0, 0, 0, 0, 0, t1, t2, t3, 0, 0, ⟨?_, ?_, ?_, hT, ?_, fun h => (Bool.noConfusion h), fun h => (Bool.noConfusion h), ⟨by omega, fun h => (Bool.noConfusion h)⟩⟩⟩
    · simp [meanO, hs, noneO]
    · simp [medO, hs, noneO]
    · simp [varO, hs, noneO]
    · rw [← hsome, hs]
  · obtain ⟨⟨n1, d1, m1, m2, m3, m4, m5, m6⟩, ⟨n2, d2, w1, w2, w3, w4, w5⟩, ⟨n3, d3, v1, v2, v3⟩, e1, e2⟩ := asked hs c
    obtain ⟨hg, hp⟩ := some_of hs
    have hA := good_getD (srt_good hg) (i := 0) (by rw [srt_len]; omega)
    have hB := good_getD (srt_good hg) (i := xs.length - 1) (by rw [srt_len]; omega)
    have p1 := mul_in (a := (srt xs).getD 0 0) (b := d1) (A := 100000) (B := 30) (by omega) (by omega)
    have p2 := mul_in (a := (srt xs).getD (xs.length - 1) 0) (b := d1) (A := 100000) (B := 30) (by omega) (by omega)
    have p3 := mul_in (a := (srt xs).getD 0 0) (b := d2) (A := 100000) (B := 30) (by omega) (by omega)
    have p4 := mul_in (a := (srt xs).getD (xs.length - 1) 0) (b := d2) (A := 100000) (B := 30) (by omega) (by omega)
    refine ⟨true, n1, d1, n2, d2, n3, d3, t1, t2, t3, (srt xs).getD 0 0, (srt xs).getD (xs.length - 1) 0, ⟨m1, w1, v1, hT, by rw [← hsome, hs], fun _ => e1, fun _ => e2, ⟨v2, fun _ => ⟨m2, m3, w2, w3, v3, fun h => ?_, p1.1, p1.2, p2.1, p2.2, p3.1, p3.2, p4.1, p4.2⟩⟩⟩⟩
    have := m6 h
    rw [hT] at this
    simp only [Prod.mk.injEq] at this
    exact ⟨this.1, this.2.1⟩
set_option maxRecDepth 100000 in
set_option maxHeartbeats 16000000 in
/-- laws.FnSamples -/
theorem k_FnSamples (code : List UInt8) (hc : code.length ≤ 9223372036854775807) : Okv Try.prog 13 [codeP code] (.p (.bool true)) := by
  refine ok_D hmix c_laws_FnSamples (by simp) ?_
  have hbig := k_rBig code hc
  by_cases hb : 65536 < code.length
  · rw [decide_eq_true hb] at hbig
    simp only [envOf, envFrom, go_sem, reduceIte, Nat.reduceEqDiff]
    repeat' (first
      | (simp only [go_sem, reduceIte, Nat.reduceEqDiff])
      | (simp (disch := omega) only [w64, w8, bytesOf_cons, tmod10, tdiv10, tn48, nsub1, nadd1, nsub, nadd, nmul, List.take_length, Int.toNat_zero, Int.reduceAdd, Int.reduceSub, Int.reduceToNat, Int.reduceMul, Nat.sub_zero, Nat.min_self])
      | (refine Rm_need (by first | exact True.intro | omega | (simp; omega)) ?_)
      | (refine Rm_w rfl (hbig) (by trivial) ?_)
      | (refine Rm_w ?_ (hbig) (by trivial) ?_; · (simp [viewOfs, viewOf, List.take_of_length_le, cutL]; done))
      | (refine Rm_gi (by first | omega | (simp; omega)) ?_)
      | (refine Rm_gb (by first | omega | (simp; omega)) ?_)
      | (refine Rm_ga (by first | omega | (simp; omega)) _ rfl (Nat.le_of_ble_eq_true rfl) ?_)
      | (refine Rm_gm (by first | omega | (simp; omega)) _ rfl ?_)
      | (refine Rm_part _ _ rfl rfl ?_)
      | (refine Rm_puti (by first | omega | (simp; omega)) rfl ?_)
      | (refine Dm_draw [] (by simp) ?_)
      | (refine Tm_both ?_ ?_)
      | (refine Tm_fin (by simp only [hideOK, newsE]; simp []) ?_)
      | (refine Cm_split (fun h => ?_) (fun h => ?_) <;> (try (simp only [decide_eq_true_eq, decide_eq_false_iff_not, bne_iff_ne, beq_iff_eq, bne_eq_false_iff_eq, beq_eq_false_iff_ne, Bool.not_eq_true, Bool.not_eq_true', Bool.not_eq_false, Bool.not_eq_false', ne_eq, Bool.and_eq_true, Bool.or_eq_true, true_eq_decide_iff, false_eq_decide_iff] at h)) <;> (try omega))
      | (refine Gm_split (fun h => ?_) (fun h => ?_) <;> (try simp only [ne_eq, Bool.not_eq_true, Bool.not_eq_false] at h) <;> (try rw [h]) <;> (try (simp only [decide_eq_true_eq, decide_eq_false_iff_not, bne_iff_ne, beq_iff_eq, bne_eq_false_iff_eq, beq_eq_false_iff_ne, Bool.not_eq_true, Bool.not_eq_true', Bool.not_eq_false, Bool.not_eq_false', ne_eq, Bool.and_eq_true, Bool.or_eq_true, true_eq_decide_iff, false_eq_decide_iff] at h)) <;> (try omega))
      | (refine Sm_split (fun h => ?_) (fun h => ?_) <;> (try (simp only [decide_eq_true_eq, decide_eq_false_iff_not, bne_iff_ne, beq_iff_eq, bne_eq_false_iff_eq, beq_eq_false_iff_ne, Bool.not_eq_true, Bool.not_eq_true', Bool.not_eq_false, Bool.not_eq_false', ne_eq, Bool.and_eq_true, Bool.or_eq_true, true_eq_decide_iff, false_eq_decide_iff] at h)) <;> (try omega))
      | (exact ret_p rfl ⟨rfl, rfl⟩)
      | (refine ret_okv (by first | trivial | simp only [go_sem, detD, detDs, detP, and_self, and_true]) ?_)
      | (exact ret_gen _ _ _ rfl rfl rfl ⟨rfl, rfl⟩)
      | (simp only [Option.some.injEq, DV.tup.injEq, DV.p.injEq, List.cons.injEq, PV.int.injEq, PV.bool.injEq, PV.str.injEq, and_true, true_and])
      | rfl
      | (refine Bool.eq_iff_iff.2 ?_; simp only [decide_eq_true_eq, Bool.and_eq_true, Bool.or_eq_true, Bool.not_eq_true', decide_eq_false_iff_not, Bool.false_eq_true, beq_iff_eq, bne_iff_ne, ne_eq, false_iff, iff_false, true_iff, iff_true]; omega)
      | omega)
  · rw [decide_eq_false hb] at hbig
    simp only [envOf, envFrom, go_sem, reduceIte, Nat.reduceEqDiff]
    repeat' (first
      | (simp only [go_sem, reduceIte, Nat.reduceEqDiff])
      | (simp (disch := omega) only [w64, w8, bytesOf_cons, tmod10, tdiv10, tn48, nsub1, nadd1, nsub, nadd, nmul, List.take_length, Int.toNat_zero, Int.reduceAdd, Int.reduceSub, Int.reduceToNat, Int.reduceMul, Nat.sub_zero, Nat.min_self])
      | (refine Rm_need (by first | exact True.intro | omega | (simp; omega)) ?_)
      | (refine Rm_w rfl (hbig) (by trivial) ?_)
      | (refine Rm_w ?_ (hbig) (by trivial) ?_; · (simp [viewOfs, viewOf, List.take_of_length_le, cutL]; done))
      | (refine Rm_gi (by first | omega | (simp; omega)) ?_)
      | (refine Rm_gb (by first | omega | (simp; omega)) ?_)
      | (refine Rm_ga (by first | omega | (simp; omega)) _ rfl (Nat.le_of_ble_eq_true rfl) ?_)
      | (refine Rm_gm (by first | omega | (simp; omega)) _ rfl ?_)
      | (refine Rm_part _ _ rfl rfl ?_)
      | (refine Rm_puti (by first | omega | (simp; omega)) rfl ?_)
      | (refine Dm_draw [] (by simp) ?_)
      | (refine Tm_both ?_ ?_)
      | (refine Tm_fin (by simp only [hideOK, newsE]; simp []) ?_)
      | (refine Cm_split (fun h => ?_) (fun h => ?_) <;> (try (simp only [decide_eq_true_eq, decide_eq_false_iff_not, bne_iff_ne, beq_iff_eq, bne_eq_false_iff_eq, beq_eq_false_iff_ne, Bool.not_eq_true, Bool.not_eq_true', Bool.not_eq_false, Bool.not_eq_false', ne_eq, Bool.and_eq_true, Bool.or_eq_true, true_eq_decide_iff, false_eq_decide_iff] at h)) <;> (try omega))
      | (refine Gm_split (fun h => ?_) (fun h => ?_) <;> (try simp only [ne_eq, Bool.not_eq_true, Bool.not_eq_false] at h) <;> (try rw [h]) <;> (try (simp only [decide_eq_true_eq, decide_eq_false_iff_not, bne_iff_ne, beq_iff_eq, bne_eq_false_iff_eq, beq_eq_false_iff_ne, Bool.not_eq_true, Bool.not_eq_true', Bool.not_eq_false, Bool.not_eq_false', ne_eq, Bool.and_eq_true, Bool.or_eq_true, true_eq_decide_iff, false_eq_decide_iff] at h)) <;> (try omega))
      | (refine Sm_split (fun h => ?_) (fun h => ?_) <;> (try (simp only [decide_eq_true_eq, decide_eq_false_iff_not, bne_iff_ne, beq_iff_eq, bne_eq_false_iff_eq, beq_eq_false_iff_ne, Bool.not_eq_true, Bool.not_eq_true', Bool.not_eq_false, Bool.not_eq_false', ne_eq, Bool.and_eq_true, Bool.or_eq_true, true_eq_decide_iff, false_eq_decide_iff] at h)) <;> (try omega))
      | (exact ret_p rfl ⟨rfl, rfl⟩)
      | (refine ret_okv (by first | trivial | simp only [go_sem, detD, detDs, detP, and_self, and_true]) ?_)
      | (exact ret_gen _ _ _ rfl rfl rfl ⟨rfl, rfl⟩)
      | (simp only [Option.some.injEq, DV.tup.injEq, DV.p.injEq, List.cons.injEq, PV.int.injEq, PV.bool.injEq, PV.str.injEq, and_true, true_and])
      | rfl
      | (refine Bool.eq_iff_iff.2 ?_; simp only [decide_eq_true_eq, Bool.and_eq_true, Bool.or_eq_true, Bool.not_eq_true', decide_eq_false_iff_not, Bool.false_eq_true, beq_iff_eq, bne_iff_ne, ne_eq, false_iff, iff_false, true_iff, iff_true]; omega)
      | omega)
    refine Rm_o (k_DrawTrimmedMean code (by omega)) rfl ?_
    rintro r H2 ⟨xs, c, rfl, rfl, hx, hl, hcw⟩
    obtain ⟨F, n1, d1, n2, d2, n3, d3, t1, t2, t3, A, B, hS⟩ := seen xs c
    have h1 := k_iTrim xs c (by omega)
    have h2 := k_sTrim xs c (by omega)
    have h3 := k_iMean xs (by omega)
    have h4 := k_sMean xs (by omega)
    have h5 : Okv Try.prog 17 [slI .i64 xs] (.p (.bool (goodB xs))) := k_iValid xs (by omega)
    have h6 := k_iMed xs (by omega)
    have h7 := k_sMed xs (by omega)
    have h8 := k_iVar xs (by omega)
    have h9 := k_sVar xs (by omega)
    have h10 := k_iPerc xs 1 (by omega)
    have h11 := k_iPerc xs 100 (by omega)
    rw [hS.t] at h1 h2
    rw [hS.m] at h3 h4
    rw [hS.w] at h6 h7
    rw [hS.v] at h8 h9
    simp only [tri] at h1 h2 h3 h4 h6 h7 h8 h9
    have hg := hS.g
    have hq := hS.q
    have hlo := hS.lo
    have hhi := hS.hi
    clear hS hx hcw hbig
    have tail : ∀ (ys : List Int) (p : Int), ys.length ≤ 50 → Okv Try.prog 22 [slI .i64 ys, .int .i64 p] (pair (percO ys p)) ∧ Okv Try.prog 21 [slI .i64 ys, .int .i64 p] (pair (percO ys p)) := fun ys p h => ⟨k_iPerc ys p (by omega), k_sPerc ys p (by omega)⟩
    cases F
    · have hgg : goodB xs = true → xs.length = 0 := fun h => by
        rw [h] at hg
        simp only [Bool.true_and, Bool.false_eq, decide_eq_false_iff_not] at hg
        omega
      clear h10 h11 hlo hhi hg
      generalize goodB xs = gb at *
      cases gb
      · repeat' (first
          | (simp only [go_sem, reduceIte, Nat.reduceEqDiff, Nat.reduceBEq])
          | (simp (disch := omega) only [w64, w8, bytesOf_cons, tmod10, tdiv10, tn48, nsub1, nadd1, nsub, nadd, nmul, List.take_length, Int.toNat_zero, Int.reduceAdd, Int.reduceSub, Int.reduceToNat, Int.reduceMul, Nat.sub_zero, Nat.min_self])
          | (refine Rm_need (by first | exact True.intro | omega | (simp; omega)) ?_)
          | (refine Rm_w rfl (h1) (by trivial) ?_)
          | (refine Rm_w ?_ (h1) (by trivial) ?_; · (simp [viewOfs, viewOf, List.take_of_length_le]; done))
          | (refine Rm_w rfl (h2) (by trivial) ?_)
          | (refine Rm_w ?_ (h2) (by trivial) ?_; · (simp [viewOfs, viewOf, List.take_of_length_le]; done))
          | (refine Rm_w rfl (h3) (by trivial) ?_)
          | (refine Rm_w ?_ (h3) (by trivial) ?_; · (simp [viewOfs, viewOf, List.take_of_length_le]; done))
          | (refine Rm_w rfl (h4) (by trivial) ?_)
          | (refine Rm_w ?_ (h4) (by trivial) ?_; · (simp [viewOfs, viewOf, List.take_of_length_le]; done))
          | (refine Rm_w rfl (h5) (by trivial) ?_)
          | (refine Rm_w ?_ (h5) (by trivial) ?_; · (simp [viewOfs, viewOf, List.take_of_length_le]; done))
          | (refine Rm_w rfl (h6) (by trivial) ?_)
          | (refine Rm_w ?_ (h6) (by trivial) ?_; · (simp [viewOfs, viewOf, List.take_of_length_le]; done))
          | (refine Rm_w rfl (h7) (by trivial) ?_)
          | (refine Rm_w ?_ (h7) (by trivial) ?_; · (simp [viewOfs, viewOf, List.take_of_length_le]; done))
          | (refine Rm_w rfl (h8) (by trivial) ?_)
          | (refine Rm_w ?_ (h8) (by trivial) ?_; · (simp [viewOfs, viewOf, List.take_of_length_le]; done))
          | (refine Rm_w rfl (h9) (by trivial) ?_)
          | (refine Rm_w ?_ (h9) (by trivial) ?_; · (simp [viewOfs, viewOf, List.take_of_length_le]; done))
          | (refine Rm_o (k_DrawSamplePercentile code (by omega)) rfl (fun r H2 hh => ?_); obtain ⟨ys, p, rfl, rfl, hy, hly, hpw⟩ := hh; have q := tail ys p hly; generalize percO ys p = Q at *; obtain ⟨Q1, Q2⟩ := Q; simp only [pair] at q; obtain ⟨q1, q2⟩ := q)
          | (refine Rm_w rfl (q1) (by trivial) ?_)
          | (refine Rm_w ?_ (q1) (by trivial) ?_; · (simp [viewOfs, viewOf, List.take_of_length_le]; done))
          | (refine Rm_w rfl (q2) (by trivial) ?_)
          | (refine Rm_w ?_ (q2) (by trivial) ?_; · (simp [viewOfs, viewOf, List.take_of_length_le]; done))
          | (refine Rm_gi (by first | omega | (simp; omega)) ?_)
          | (refine Rm_gb (by first | omega | (simp; omega)) ?_)
          | (refine Rm_ga (by first | omega | (simp; omega)) _ rfl (Nat.le_of_ble_eq_true rfl) ?_)
          | (refine Rm_gm (by first | omega | (simp; omega)) _ rfl ?_)
          | (refine Rm_part _ _ rfl rfl ?_)
          | (refine Rm_puti (by first | omega | (simp; omega)) rfl ?_)
          | (refine Dm_draw [] (by simp) ?_)
          | (refine Tm_both ?_ ?_)
          | (refine Tm_fin (by simp only [hideOK, newsE]; simp []) ?_)
          | (refine Cm_split (fun h => ?_) (fun h => ?_) <;> (try (simp only [decide_eq_true_eq, decide_eq_false_iff_not] at h)) <;> (try omega))
          | (refine Gm_split (fun h => ?_) (fun h => ?_) <;> (try simp only [ne_eq, Bool.not_eq_true, Bool.not_eq_false] at h) <;> (try rw [h]) <;> (try (simp only [decide_eq_true_eq, decide_eq_false_iff_not, bne_iff_ne, beq_iff_eq, bne_eq_false_iff_eq, beq_eq_false_iff_ne, Bool.not_eq_true, Bool.not_eq_true', Bool.not_eq_false, Bool.not_eq_false', ne_eq, Bool.and_eq_true, Bool.or_eq_true, true_eq_decide_iff, false_eq_decide_iff] at h)) <;> (try omega))
          | (refine Sm_split (fun h => ?_) (fun h => ?_) <;> (try (simp only [decide_eq_true_eq, decide_eq_false_iff_not, bne_iff_ne, beq_iff_eq, bne_eq_false_iff_eq, beq_eq_false_iff_ne, Bool.not_eq_true, Bool.not_eq_true', Bool.not_eq_false, Bool.not_eq_false', ne_eq, Bool.and_eq_true, Bool.or_eq_true, true_eq_decide_iff, false_eq_decide_iff] at h)) <;> (try omega))
          | (exact ret_p rfl ⟨rfl, rfl⟩)
          | (refine ret_okv (by first | trivial | simp only [go_sem, detD, detDs, detP, and_self, and_true]) ?_)
          | (exact ret_gen _ _ _ rfl rfl rfl ⟨rfl, rfl⟩)
          | (simp only [Option.some.injEq, DV.tup.injEq, DV.p.injEq, List.cons.injEq, PV.int.injEq, PV.bool.injEq, PV.str.injEq, and_true, true_and])
          | rfl
          | (refine Bool.eq_iff_iff.2 ?_; simp only [decide_eq_true_eq, Bool.and_eq_true, Bool.or_eq_true, Bool.not_eq_true', decide_eq_false_iff_not, Bool.false_eq_true, beq_iff_eq, bne_iff_ne, ne_eq, false_iff, iff_false, true_iff, iff_true]; omega)
          | omega)
      · have hpos : decide ((xs.length : Int) > 0) = false := by have := hgg rfl; simp only [decide_eq_false_iff_not]; omega
        repeat' (first
          | (simp only [go_sem, reduceIte, Nat.reduceEqDiff, Nat.reduceBEq])
          | (simp (disch := omega) only [w64, w8, bytesOf_cons, tmod10, tdiv10, tn48, nsub1, nadd1, nsub, nadd, nmul, List.take_length, Int.toNat_zero, Int.reduceAdd, Int.reduceSub, Int.reduceToNat, Int.reduceMul, Nat.sub_zero, Nat.min_self])
          | (refine Rm_need (by first | exact True.intro | omega | (simp; omega)) ?_)
          | (rw [hpos])
          | (refine Rm_w rfl (h1) (by trivial) ?_)
          | (refine Rm_w ?_ (h1) (by trivial) ?_; · (simp [viewOfs, viewOf, List.take_of_length_le]; done))
          | (refine Rm_w rfl (h2) (by trivial) ?_)
          | (refine Rm_w ?_ (h2) (by trivial) ?_; · (simp [viewOfs, viewOf, List.take_of_length_le]; done))
          | (refine Rm_w rfl (h3) (by trivial) ?_)
          | (refine Rm_w ?_ (h3) (by trivial) ?_; · (simp [viewOfs, viewOf, List.take_of_length_le]; done))
          | (refine Rm_w rfl (h4) (by trivial) ?_)
          | (refine Rm_w ?_ (h4) (by trivial) ?_; · (simp [viewOfs, viewOf, List.take_of_length_le]; done))
          | (refine Rm_w rfl (h5) (by trivial) ?_)
          | (refine Rm_w ?_ (h5) (by trivial) ?_; · (simp [viewOfs, viewOf, List.take_of_length_le]; done))
          | (refine Rm_w rfl (h6) (by trivial) ?_)
          | (refine Rm_w ?_ (h6) (by trivial) ?_; · (simp [viewOfs, viewOf, List.take_of_length_le]; done))
          | (refine Rm_w rfl (h7) (by trivial) ?_)
          | (refine Rm_w ?_ (h7) (by trivial) ?_; · (simp [viewOfs, viewOf, List.take_of_length_le]; done))
          | (refine Rm_w rfl (h8) (by trivial) ?_)
          | (refine Rm_w ?_ (h8) (by trivial) ?_; · (simp [viewOfs, viewOf, List.take_of_length_le]; done))
          | (refine Rm_w rfl (h9) (by trivial) ?_)
          | (refine Rm_w ?_ (h9) (by trivial) ?_; · (simp [viewOfs, viewOf, List.take_of_length_le]; done))
          | (refine Rm_o (k_DrawSamplePercentile code (by omega)) rfl (fun r H2 hh => ?_); obtain ⟨ys, p, rfl, rfl, hy, hly, hpw⟩ := hh; have q := tail ys p hly; generalize percO ys p = Q at *; obtain ⟨Q1, Q2⟩ := Q; simp only [pair] at q; obtain ⟨q1, q2⟩ := q)
          | (refine Rm_w rfl (q1) (by trivial) ?_)
          | (refine Rm_w ?_ (q1) (by trivial) ?_; · (simp [viewOfs, viewOf, List.take_of_length_le]; done))
          | (refine Rm_w rfl (q2) (by trivial) ?_)
          | (refine Rm_w ?_ (q2) (by trivial) ?_; · (simp [viewOfs, viewOf, List.take_of_length_le]; done))
          | (refine Rm_gi (by first | omega | (simp; omega)) ?_)
          | (refine Rm_gb (by first | omega | (simp; omega)) ?_)
          | (refine Rm_ga (by first | omega | (simp; omega)) _ rfl (Nat.le_of_ble_eq_true rfl) ?_)
          | (refine Rm_gm (by first | omega | (simp; omega)) _ rfl ?_)
          | (refine Rm_part _ _ rfl rfl ?_)
          | (refine Rm_puti (by first | omega | (simp; omega)) rfl ?_)
          | (refine Dm_draw [] (by simp) ?_)
          | (refine Tm_both ?_ ?_)
          | (refine Tm_fin (by simp only [hideOK, newsE]; simp []) ?_)
          | (refine Cm_split (fun h => ?_) (fun h => ?_) <;> (try (simp only [decide_eq_true_eq, decide_eq_false_iff_not] at h)) <;> (try omega))
          | (refine Gm_split (fun h => ?_) (fun h => ?_) <;> (try simp only [ne_eq, Bool.not_eq_true, Bool.not_eq_false] at h) <;> (try rw [h]) <;> (try (simp only [decide_eq_true_eq, decide_eq_false_iff_not, bne_iff_ne, beq_iff_eq, bne_eq_false_iff_eq, beq_eq_false_iff_ne, Bool.not_eq_true, Bool.not_eq_true', Bool.not_eq_false, Bool.not_eq_false', ne_eq, Bool.and_eq_true, Bool.or_eq_true, true_eq_decide_iff, false_eq_decide_iff] at h)) <;> (try omega))
          | (refine Sm_split (fun h => ?_) (fun h => ?_) <;> (try (simp only [decide_eq_true_eq, decide_eq_false_iff_not, bne_iff_ne, beq_iff_eq, bne_eq_false_iff_eq, beq_eq_false_iff_ne, Bool.not_eq_true, Bool.not_eq_true', Bool.not_eq_false, Bool.not_eq_false', ne_eq, Bool.and_eq_true, Bool.or_eq_true, true_eq_decide_iff, false_eq_decide_iff] at h)) <;> (try omega))
          | (exact ret_p rfl ⟨rfl, rfl⟩)
          | (refine ret_okv (by first | trivial | simp only [go_sem, detD, detDs, detP, and_self, and_true]) ?_)
          | (exact ret_gen _ _ _ rfl rfl rfl ⟨rfl, rfl⟩)
          | (simp only [Option.some.injEq, DV.tup.injEq, DV.p.injEq, List.cons.injEq, PV.int.injEq, PV.bool.injEq, PV.str.injEq, and_true, true_and])
          | rfl
          | (refine Bool.eq_iff_iff.2 ?_; simp only [decide_eq_true_eq, Bool.and_eq_true, Bool.or_eq_true, Bool.not_eq_true', decide_eq_false_iff_not, Bool.false_eq_true, beq_iff_eq, bne_iff_ne, ne_eq, false_iff, iff_false, true_iff, iff_true]; omega)
          | omega)
    · have hgb : goodB xs = true ∧ 0 < xs.length := by
        simp only [Bool.true_eq, Bool.and_eq_true, decide_eq_true_eq] at hg
        exact hg
      rw [hgb.1] at h5
      rw [hlo rfl] at h10
      rw [hhi rfl] at h11
      simp only [pair] at h10 h11
      obtain ⟨z0, z⟩ := hq
      obtain ⟨z1, z2, z3, z4, z5, z6, b1, b2, b3, b4, b5, b6, b7, b8⟩ := z rfl
      have hpos : decide ((xs.length : Int) > 0) = true := by simp only [decide_eq_true_eq]; omega
      clear z hlo hhi hg
      obtain ⟨AB, hAB, hn3⟩ : ∃ AB : Bool, (A == B) = AB ∧ (n3 == 0) = AB := ⟨_, rfl, by rw [Bool.eq_iff_iff]; simpa using z5⟩
      clear z5
      repeat' (first
        | (simp only [go_sem, reduceIte, Nat.reduceEqDiff, Nat.reduceBEq])
        | (simp (disch := omega) only [w64])
        | (refine Rm_need (by first | exact True.intro | omega | (simp; omega)) ?_)
        | (refine Rm_w rfl (h1) (by trivial) ?_)
        | (refine Rm_w ?_ (h1) (by trivial) ?_; · (simp [viewOfs, viewOf, List.take_of_length_le]; done))
        | (refine Rm_w rfl (h2) (by trivial) ?_)
        | (refine Rm_w ?_ (h2) (by trivial) ?_; · (simp [viewOfs, viewOf, List.take_of_length_le]; done))
        | (refine Rm_w rfl (h3) (by trivial) ?_)
        | (refine Rm_w ?_ (h3) (by trivial) ?_; · (simp [viewOfs, viewOf, List.take_of_length_le]; done))
        | (refine Rm_w rfl (h4) (by trivial) ?_)
        | (refine Rm_w ?_ (h4) (by trivial) ?_; · (simp [viewOfs, viewOf, List.take_of_length_le]; done))
        | (refine Rm_w rfl (h5) (by trivial) ?_)
        | (refine Rm_w ?_ (h5) (by trivial) ?_; · (simp [viewOfs, viewOf, List.take_of_length_le]; done))
        | (refine Rm_w rfl (h6) (by trivial) ?_)
        | (refine Rm_w ?_ (h6) (by trivial) ?_; · (simp [viewOfs, viewOf, List.take_of_length_le]; done))
        | (refine Rm_w rfl (h7) (by trivial) ?_)
        | (refine Rm_w ?_ (h7) (by trivial) ?_; · (simp [viewOfs, viewOf, List.take_of_length_le]; done))
        | (refine Rm_w rfl (h8) (by trivial) ?_)
        | (refine Rm_w ?_ (h8) (by trivial) ?_; · (simp [viewOfs, viewOf, List.take_of_length_le]; done))
        | (refine Rm_w rfl (h9) (by trivial) ?_)
        | (refine Rm_w ?_ (h9) (by trivial) ?_; · (simp [viewOfs, viewOf, List.take_of_length_le]; done))
        | (refine Rm_w rfl (h10) (by trivial) ?_)
        | (refine Rm_w ?_ (h10) (by trivial) ?_; · (simp [viewOfs, viewOf, List.take_of_length_le]; done))
        | (refine Rm_w rfl (h11) (by trivial) ?_)
        | (refine Rm_w ?_ (h11) (by trivial) ?_; · (simp [viewOfs, viewOf, List.take_of_length_le]; done))
        | (rw [hpos])
        | (rw [hAB])
        | (rw [hn3])
        | (refine Rm_o (k_DrawSamplePercentile code (by omega)) rfl (fun r H2 hh => ?_); obtain ⟨ys, p, rfl, rfl, hy, hly, hpw⟩ := hh; have q := tail ys p hly; generalize percO ys p = Q at *; obtain ⟨Q1, Q2⟩ := Q; simp only [pair] at q; obtain ⟨q1, q2⟩ := q)
        | (refine Rm_w rfl (q1) (by trivial) ?_)
        | (refine Rm_w ?_ (q1) (by trivial) ?_; · (simp [viewOfs, viewOf, List.take_of_length_le]; done))
        | (refine Rm_w rfl (q2) (by trivial) ?_)
        | (refine Rm_w ?_ (q2) (by trivial) ?_; · (simp [viewOfs, viewOf, List.take_of_length_le]; done))
        | (refine Rm_gi (by first | omega | (simp; omega)) ?_)
        | (refine Rm_gb (by first | omega | (simp; omega)) ?_)
        | (refine Rm_ga (by first | omega | (simp; omega)) _ rfl (Nat.le_of_ble_eq_true rfl) ?_)
        | (refine Rm_gm (by first | omega | (simp; omega)) _ rfl ?_)
        | (refine Rm_part _ _ rfl rfl ?_)
        | (refine Rm_puti (by first | omega | (simp; omega)) rfl ?_)
        | (refine Dm_draw [] (by simp) ?_)
        | (refine Tm_both ?_ ?_)
        | (refine Tm_fin (by simp only [hideOK, newsE]; simp []) ?_)
        | (refine Cm_split (fun h => ?_) (fun h => ?_) <;> (try (simp only [decide_eq_true_eq, decide_eq_false_iff_not, bne_iff_ne, bne_eq_false_iff_eq, ne_eq] at h)) <;> (try omega))
        | (refine Gm_split (fun h => ?_) (fun h => ?_) <;> (try simp only [ne_eq, Bool.not_eq_true, Bool.not_eq_false] at h) <;> (try rw [h]) <;> (try (simp only [decide_eq_true_eq, decide_eq_false_iff_not, bne_iff_ne, beq_iff_eq, bne_eq_false_iff_eq, beq_eq_false_iff_ne, Bool.not_eq_true, Bool.not_eq_true', Bool.not_eq_false, Bool.not_eq_false', ne_eq, Bool.and_eq_true, Bool.or_eq_true, true_eq_decide_iff, false_eq_decide_iff] at h)) <;> (try omega))
        | (refine Sm_split (fun h => ?_) (fun h => ?_) <;> (try (simp only [decide_eq_true_eq, decide_eq_false_iff_not, bne_iff_ne, beq_iff_eq, bne_eq_false_iff_eq, beq_eq_false_iff_ne, ne_eq] at h)) <;> (try omega))
        | (exact ret_p rfl ⟨rfl, rfl⟩)
        | (refine ret_okv (by first | trivial | simp only [go_sem, detD, detDs, detP, and_self, and_true]) ?_)
        | (exact ret_gen _ _ _ rfl rfl rfl ⟨rfl, rfl⟩)
        | (simp only [Option.some.injEq, DV.tup.injEq, DV.p.injEq, List.cons.injEq, PV.int.injEq, PV.bool.injEq, PV.str.injEq, and_true, true_and])
        | rfl
        | (refine Bool.eq_iff_iff.2 ?_; simp only [decide_eq_true_eq, Bool.and_eq_true, Bool.or_eq_true, Bool.not_eq_true', decide_eq_false_iff_not, Bool.false_eq_true, beq_iff_eq, bne_iff_ne, ne_eq, false_iff, iff_false, true_iff, iff_true]; omega)
        | omega)
      all_goals skip
end Go.Proofs.Ytdpmfgkmioaddaa

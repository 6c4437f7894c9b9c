import Derived.Test.YtakpkggmhgkicaaLabT
namespace Go.Proofs.Ytakpkggmhgkicaa
open Go.Dv Go.Dv.EvL
attribute [local irreducible] Ok Rm Dm Om Sm Xm Cm Gm Hm Tm
attribute [local irreducible] scrTo rowTo byteO scrO

set_option maxRecDepth 100000 in
set_option maxHeartbeats 16000000 in
/-- impl.ScreenText -/
theorem k_iScreen (xs : List Sp) (cs : List Int) (hb : xs.length ≤ 1048576) (hc : cs.length ≤ 1048576) : Okv Try.prog 14 [spS xs, slI .i64 cs] (.tup [.p (.str (if plB xs cs then scrO xs cs else [])), .p (.bool (plB xs cs))]) := by
  refine ok_D hmix c_impl_ScreenText (by simp) ?_
  have hg := k_IsPlacing xs cs hb hc
  cases h : plB xs cs
  · rw [h] at hg
    simp only [envOf, envFrom, go_sem, reduceIte, Nat.reduceEqDiff, Bool.false_eq_true]
    repeat' (first
      | (simp only [go_sem, reduceIte, Nat.reduceEqDiff])
      | (simp (disch := omega) only [w64, w8, bytesOf_cons, tmod10, tdiv10, tn48, nsub1, nadd1, nsub, nadd, nmul, List.take_length, Int.toNat_zero, Int.reduceAdd, Int.reduceSub, Int.reduceToNat, Int.reduceMul, Nat.sub_zero, Nat.min_self])
      | (refine Rm_need (by first | exact True.intro | omega | (simp; omega)) ?_)
      | (refine Rm_w rfl (hg) (by trivial) ?_)
      | (refine Rm_w ?_ (hg) (by trivial) ?_; · (simp [viewOfs, viewOf, List.take_of_length_le, cutL]; done))
      | (refine Rm_gi (by first | omega | (simp; omega)) ?_)
      | (refine Rm_gb (by first | omega | (simp; omega)) ?_)
      | (refine Rm_ga (by first | omega | (simp; omega)) _ rfl (Nat.le_of_ble_eq_true rfl) ?_)
      | (refine Rm_gm (by first | omega | (simp; omega)) _ rfl ?_)
      | (refine Rm_part _ _ rfl rfl ?_)
      | (refine Rm_puti (by first | omega | (simp; omega)) rfl ?_)
      | (refine Dm_draw [] (by simp) ?_)
      | (refine Tm_both ?_ ?_)
      | (refine Tm_fin (by simp only [hideOK, newsE]; simp []) ?_)
      | (refine Cm_split (fun h => ?_) (fun h => ?_) <;> (try (simp only [decide_eq_true_eq, decide_eq_false_iff_not, bne_iff_ne, beq_iff_eq, bne_eq_false_iff_eq, beq_eq_false_iff_ne, Bool.not_eq_true, Bool.not_eq_true', Bool.not_eq_false, Bool.not_eq_false', ne_eq, Bool.and_eq_true, Bool.or_eq_true, true_eq_decide_iff, false_eq_decide_iff] at h)) <;> (try omega))
      | (refine Gm_split (fun h => ?_) (fun h => ?_) <;> (try simp only [ne_eq, Bool.not_eq_true, Bool.not_eq_false] at h) <;> (try rw [h]) <;> (try (simp only [decide_eq_true_eq, decide_eq_false_iff_not, bne_iff_ne, beq_iff_eq, bne_eq_false_iff_eq, beq_eq_false_iff_ne, Bool.not_eq_true, Bool.not_eq_true', Bool.not_eq_false, Bool.not_eq_false', ne_eq, Bool.and_eq_true, Bool.or_eq_true, true_eq_decide_iff, false_eq_decide_iff] at h)) <;> (try omega))
      | (refine Sm_split (fun h => ?_) (fun h => ?_) <;> (try (simp only [decide_eq_true_eq, decide_eq_false_iff_not, bne_iff_ne, beq_iff_eq, bne_eq_false_iff_eq, beq_eq_false_iff_ne, Bool.not_eq_true, Bool.not_eq_true', Bool.not_eq_false, Bool.not_eq_false', ne_eq, Bool.and_eq_true, Bool.or_eq_true, true_eq_decide_iff, false_eq_decide_iff] at h)) <;> (try omega))
      | (exact ret_p rfl ⟨rfl, rfl⟩)
      | (refine ret_okv (by first | trivial | simp only [go_sem, detD, detDs, detP, and_self, and_true]) ?_)
      | (exact ret_gen _ _ _ rfl rfl rfl ⟨rfl, rfl⟩)
      | (simp only [Option.some.injEq, DV.tup.injEq, DV.p.injEq, List.cons.injEq, PV.int.injEq, PV.bool.injEq, PV.str.injEq, and_true, true_and])
      | rfl
      | (refine Bool.eq_iff_iff.2 ?_; simp only [decide_eq_true_eq, Bool.and_eq_true, Bool.or_eq_true, Bool.not_eq_true', decide_eq_false_iff_not, Bool.false_eq_true, beq_iff_eq, bne_iff_ne, ne_eq, false_iff, iff_false, true_iff, iff_true]; omega)
      | omega)
  · rw [h] at hg
    have hd := scrO_def (xs := xs) (cs := cs)
    rw [if_pos rfl, hd]
    obtain ⟨h1, hle, h3⟩ := pl_in h
    obtain ⟨hx5, hon⟩ := lb_in h1
    have hcc := fun i (h : i < cs.length) => (plTo_at h3 h).1
    have hat := fun i hi => k_labelAt (xs.getD i default).x (xs.getD i default).y (cs.getD i 0) (hon i hi)
    have hlg := fun i => lbls_get (xs := xs) (cs := cs) (i := i) (n := cs.length)
    clear hd h h1 h3
    generalize lbls xs cs cs.length = ls at *
    simp only [envOf, envFrom, go_sem, reduceIte, Nat.reduceEqDiff]
    repeat' (first
      | (simp only [go_sem, Nat.lt_add_one, reduceIte, Nat.reduceEqDiff])
      | (simp (disch := omega) only [Int.toNat_zero])
      | (refine Rm_need (by first | exact True.intro | omega | (simp; omega)) ?_)
      | (refine Rm_w rfl (hg) (by trivial) ?_)
      | (refine Rm_w ?_ (hg) (by trivial) ?_; · (simp [viewOfs, viewOf, List.take_of_length_le, cutL]; done))
      | (refine Rm_gi (by first | omega | (simp; omega)) ?_)
      | (refine Rm_gb (by first | omega | (simp; omega)) ?_)
      | (refine Rm_ga (by first | omega | (simp; omega)) _ rfl (Nat.le_of_ble_eq_true rfl) ?_)
      | (refine Rm_gm (by first | omega | (simp; omega)) _ rfl ?_)
      | (refine Rm_part _ _ rfl rfl ?_)
      | (refine Rm_puti (by first | omega | (simp; omega)) rfl ?_)
      | (refine Dm_draw [] (by simp) ?_)
      | (refine Tm_both ?_ ?_)
      | (refine Tm_fin (by simp only [hideOK, newsE]; simp []) ?_)
      | (refine Cm_split (fun h => ?_) (fun h => ?_) <;> (try (simp only [decide_eq_true_eq, decide_eq_false_iff_not, bne_iff_ne, beq_iff_eq, bne_eq_false_iff_eq, beq_eq_false_iff_ne, Bool.not_eq_true, Bool.not_eq_true', Bool.not_eq_false, Bool.not_eq_false', ne_eq, Bool.and_eq_true, Bool.or_eq_true, true_eq_decide_iff, false_eq_decide_iff] at h)) <;> (try omega))
      | (refine Gm_split (fun h => ?_) (fun h => ?_) <;> (try simp only [ne_eq, Bool.not_eq_true, Bool.not_eq_false] at h) <;> (try rw [h]) <;> (try (simp only [decide_eq_true_eq, decide_eq_false_iff_not, bne_iff_ne, beq_iff_eq, bne_eq_false_iff_eq, beq_eq_false_iff_ne, Bool.not_eq_true, Bool.not_eq_true', Bool.not_eq_false, Bool.not_eq_false', ne_eq, Bool.and_eq_true, Bool.or_eq_true, true_eq_decide_iff, false_eq_decide_iff] at h)) <;> (try omega))
      | (refine Sm_split (fun h => ?_) (fun h => ?_) <;> (try (simp only [decide_eq_true_eq, decide_eq_false_iff_not, bne_iff_ne, beq_iff_eq, bne_eq_false_iff_eq, beq_eq_false_iff_ne, Bool.not_eq_true, Bool.not_eq_true', Bool.not_eq_false, Bool.not_eq_false', ne_eq, Bool.and_eq_true, Bool.or_eq_true, true_eq_decide_iff, false_eq_decide_iff] at h)) <;> (try omega))
      | (exact ret_p rfl ⟨rfl, rfl⟩)
      | (refine ret_okv (by first | trivial | simp only [go_sem, detD, detDs, detP, and_self, and_true]) ?_)
      | (exact ret_gen _ _ _ rfl rfl rfl ⟨rfl, rfl⟩)
      | (simp only [Option.some.injEq, DV.tup.injEq, DV.p.injEq, List.cons.injEq, PV.int.injEq, PV.bool.injEq, PV.str.injEq, and_true, true_and])
      | rfl
      | (refine Bool.eq_iff_iff.2 ?_; simp only [decide_eq_true_eq, Bool.and_eq_true, Bool.or_eq_true, Bool.not_eq_true', decide_eq_false_iff_not, Bool.false_eq_true, beq_iff_eq, bne_iff_ne, ne_eq, false_iff, iff_false, true_iff, iff_true]; omega)
      | omega)
    refine Dm_loop [0, 1, 6, 7] (fun m ds H' => ∃ y : Nat, y ≤ 30 ∧ m = 30 - y ∧ ds = [.p (spS xs), .p (slI .i64 cs), .own 0 0 (scrTo xs ls y).length, .p (.int .i64 y)] ∧ H' = [.arr 5 1 ((scrTo xs ls y).map fun b : UInt8 => .int .u8 b.toNat)]) 30 ⟨0, by omega, by omega, by rw [scr_zero]; rfl, by rw [scr_zero]; rfl⟩ ?_
    rintro m ds H' ⟨y, hy, rfl, rfl, rfl⟩ -
    have hsl := scr_len (xs := xs) (ls := ls) (n := y)
    have hss : scrTo xs ls (y + 1) = (scrTo xs ls y ++ rowTo xs ls y 60) ++ [10] := by rw [List.append_assoc]; exact scr_succ
    rcases Nat.lt_or_ge y 30 with hyl | hyl
    · repeat' (first
        | (simp only [go_sem, reduceIte, Nat.reduceEqDiff])
        | (simp (disch := omega) only [w64, w8, bytesOf_cons, tmod10, tdiv10, tn48, nsub1, nadd1, nsub, nadd, nmul, List.take_length, Int.toNat_zero, Int.reduceAdd, Int.reduceSub, Int.reduceToNat, Int.reduceMul, Nat.sub_zero, Nat.min_self])
        | (refine Rm_need (by first | exact True.intro | omega | (simp; omega)) ?_)
        | (refine Rm_gi (by first | omega | (simp; omega)) ?_)
        | (refine Rm_gb (by first | omega | (simp; omega)) ?_)
        | (refine Rm_ga (by first | omega | (simp; omega)) _ rfl (Nat.le_of_ble_eq_true rfl) ?_)
        | (refine Rm_gm (by first | omega | (simp; omega)) _ rfl ?_)
        | (refine Rm_part _ _ rfl rfl ?_)
        | (refine Rm_puti (by first | omega | (simp; omega)) rfl ?_)
        | (refine Dm_draw [] (by simp) ?_)
        | (refine Tm_both ?_ ?_)
        | (refine Tm_fin (by simp only [hideOK, newsE]; simp []) ?_)
        | (refine Cm_split (fun h => ?_) (fun h => ?_) <;> (try (simp only [decide_eq_true_eq, decide_eq_false_iff_not] at h)) <;> (try omega))
        | (refine Gm_split (fun h => ?_) (fun h => ?_) <;> (try simp only [ne_eq, Bool.not_eq_true, Bool.not_eq_false] at h) <;> (try rw [h]) <;> (try (simp only [decide_eq_true_eq, decide_eq_false_iff_not, bne_iff_ne, beq_iff_eq, bne_eq_false_iff_eq, beq_eq_false_iff_ne, Bool.not_eq_true, Bool.not_eq_true', Bool.not_eq_false, Bool.not_eq_false', ne_eq, Bool.and_eq_true, Bool.or_eq_true, true_eq_decide_iff, false_eq_decide_iff] at h)) <;> (try omega))
        | (refine Sm_split (fun h => ?_) (fun h => ?_) <;> (try (simp only [decide_eq_true_eq, decide_eq_false_iff_not, bne_iff_ne, beq_iff_eq, bne_eq_false_iff_eq, beq_eq_false_iff_ne, Bool.not_eq_true, Bool.not_eq_true', Bool.not_eq_false, Bool.not_eq_false', ne_eq, Bool.and_eq_true, Bool.or_eq_true, true_eq_decide_iff, false_eq_decide_iff] at h)) <;> (try omega))
        | (exact ret_p rfl ⟨rfl, rfl⟩)
        | (refine ret_okv (by first | trivial | simp only [go_sem, detD, detDs, detP, and_self, and_true]) ?_)
        | (exact ret_gen _ _ _ rfl rfl rfl ⟨rfl, rfl⟩)
        | (simp only [Option.some.injEq, DV.tup.injEq, DV.p.injEq, List.cons.injEq, PV.int.injEq, PV.bool.injEq, PV.str.injEq, and_true, true_and])
        | rfl
        | (refine Bool.eq_iff_iff.2 ?_; simp only [decide_eq_true_eq, Bool.and_eq_true, Bool.or_eq_true, Bool.not_eq_true', decide_eq_false_iff_not, Bool.false_eq_true, beq_iff_eq, bne_iff_ne, ne_eq, false_iff, iff_false, true_iff, iff_true]; omega)
        | omega)
      refine Dm_loop [0, 1, 6, 7, 8] (fun m ds H' => ∃ x : Nat, x ≤ 60 ∧ m = 60 - x ∧ ds = [.p (spS xs), .p (slI .i64 cs), .own 0 0 (scrTo xs ls y ++ rowTo xs ls y x).length, .p (.int .i64 y), .p (.int .i64 x)] ∧
        H' = [.arr 5 1 ((scrTo xs ls y ++ rowTo xs ls y x).map fun b : UInt8 => .int .u8 b.toNat)]) 60 ⟨0, by omega, by omega, by rw [row_zero, List.append_nil]; rfl, by rw [row_zero, List.append_nil]; rfl⟩ ?_
      rintro m ds H' ⟨x, hx, rfl, rfl, rfl⟩ -
      have hrl := row_len (xs := xs) (ls := ls) (y := y) (n := x)
      have hZl : (scrTo xs ls y ++ rowTo xs ls y x).length ≤ 2000 := by rw [List.length_append]; omega
      rcases Nat.lt_or_ge x 60 with hxl | hxl
      · have hrs : scrTo xs ls y ++ rowTo xs ls y (x + 1) = (scrTo xs ls y ++ rowTo xs ls y x) ++ [byteO xs ls ⟨x, y⟩] := by rw [List.append_assoc, row_succ]
        have hbd := byteO_def (xs := xs) (ls := ls) (p := ⟨x, y⟩)
        generalize scrTo xs ls y ++ rowTo xs ls y x = Z at *
        clear hss hsl hrl
        repeat' (first
          | (simp only [go_sem, reduceIte, Nat.reduceEqDiff])
          | (simp (disch := omega) only [w64])
          | (refine Rm_need (by first | exact True.intro | omega | (simp; omega)) ?_)
          | (refine Rm_gi (by first | omega | (simp; omega)) ?_)
          | (refine Rm_gb (by first | omega | (simp; omega)) ?_)
          | (refine Rm_ga (by first | omega | (simp; omega)) _ rfl (Nat.le_of_ble_eq_true rfl) ?_)
          | (refine Rm_gm (by first | omega | (simp; omega)) _ rfl ?_)
          | (refine Rm_part _ _ rfl rfl ?_)
          | (refine Rm_puti (by first | omega | (simp; omega)) rfl ?_)
          | (refine Dm_draw [] (by simp) ?_)
          | (refine Tm_both ?_ ?_)
          | (refine Tm_fin (by simp only [hideOK, newsE]; simp []) ?_)
          | (refine Cm_split (fun h => ?_) (fun h => ?_) <;> (try (simp only [decide_eq_true_eq, decide_eq_false_iff_not] at h)) <;> (try omega))
          | (refine Gm_split (fun h => ?_) (fun h => ?_) <;> (try simp only [ne_eq, Bool.not_eq_true, Bool.not_eq_false] at h) <;> (try rw [h]) <;> (try (simp only [decide_eq_true_eq, decide_eq_false_iff_not, bne_iff_ne, beq_iff_eq, bne_eq_false_iff_eq, beq_eq_false_iff_ne, Bool.not_eq_true, Bool.not_eq_true', Bool.not_eq_false, Bool.not_eq_false', ne_eq, Bool.and_eq_true, Bool.or_eq_true, true_eq_decide_iff, false_eq_decide_iff] at h)) <;> (try omega))
          | (refine Sm_split (fun h => ?_) (fun h => ?_) <;> (try (simp only [decide_eq_true_eq, decide_eq_false_iff_not, bne_iff_ne, beq_iff_eq, bne_eq_false_iff_eq, beq_eq_false_iff_ne, Bool.not_eq_true, Bool.not_eq_true', Bool.not_eq_false, Bool.not_eq_false', ne_eq, Bool.and_eq_true, Bool.or_eq_true, true_eq_decide_iff, false_eq_decide_iff] at h)) <;> (try omega))
          | (exact ret_p rfl ⟨rfl, rfl⟩)
          | (refine ret_okv (by first | trivial | simp only [go_sem, detD, detDs, detP, and_self, and_true]) ?_)
          | (exact ret_gen _ _ _ rfl rfl rfl ⟨rfl, rfl⟩)
          | (simp only [Option.some.injEq, DV.tup.injEq, DV.p.injEq, List.cons.injEq, PV.int.injEq, PV.bool.injEq, PV.str.injEq, and_true, true_and])
          | rfl
          | (refine Bool.eq_iff_iff.2 ?_; simp only [decide_eq_true_eq, Bool.and_eq_true, Bool.or_eq_true, Bool.not_eq_true', decide_eq_false_iff_not, Bool.false_eq_true, beq_iff_eq, bne_iff_ne, ne_eq, false_iff, iff_false, true_iff, iff_true]; omega)
          | omega)
        refine Dm_loop [0, 1, 6, 7, 8, 9, 10] (fun j ds H' => ∃ k : Int, j ≤ xs.length ∧ k = (j : Int) - 1 ∧ ds = [.p (spS xs), .p (slI .i64 cs), .own 0 0 Z.length, .p (.int .i64 y), .p (.int .i64 x), .p (.int .u8 (fco ls ⟨x, y⟩ (xs.length - j) j).toNat), .p (.int .i64 k)] ∧
          H' = [.arr 5 1 (Z.map fun b : UInt8 => .int .u8 b.toNat)]) xs.length ⟨(xs.length : Int) - 1, by omega, rfl, by rw [Nat.sub_self]; rfl, rfl⟩ ?_
        · rintro j ds H' ⟨k, hj, hk, rfl, rfl⟩ -
          rcases j with _ | j
          · subst hk
            rw [Nat.sub_zero]
            generalize fco ls ⟨x, y⟩ xs.length 0 = F at *
            repeat' (first
              | (simp only [go_sem, Nat.lt_add_one, reduceIte, Nat.reduceEqDiff, Nat.reduceAdd, Nat.reduceMul, Nat.reduceLeDiff])
              | (simp (disch := omega) only [w64, w8, bytesOf_cons, tmod10, tdiv10, tn48, nsub1, nadd1, nsub, nadd, nmul, List.take_length, Int.toNat_zero, Int.reduceAdd, Int.reduceSub, Int.reduceToNat, Int.reduceMul, Nat.sub_zero, Nat.min_self])
              | (refine Rm_need (by first | exact True.intro | omega | (simp; omega)) ?_)
              | (refine Rm_gi (by first | omega | (simp; omega)) ?_)
              | (refine Rm_gb (by first | omega | (simp; omega)) ?_)
              | (refine Rm_ga (by first | omega | (simp; omega)) _ rfl (Nat.le_of_ble_eq_true rfl) ?_)
              | (refine Rm_gm (by first | omega | (simp; omega)) _ rfl ?_)
              | (refine Rm_part _ _ rfl rfl ?_)
              | (refine Rm_puti (by first | omega | (simp; omega)) rfl ?_)
              | (refine Dm_draw [] (by simp) ?_)
              | (refine Tm_both ?_ ?_)
              | (refine Tm_fin (by simp only [hideOK, newsE]; simp []) ?_)
              | (refine Cm_split (fun h => ?_) (fun h => ?_) <;> (try (simp only [decide_eq_true_eq, decide_eq_false_iff_not] at h)) <;> (try omega))
              | (refine Gm_split (fun h => ?_) (fun h => ?_) <;> (try simp only [ne_eq, Bool.not_eq_true, Bool.not_eq_false] at h) <;> (try rw [h]) <;> (try (simp only [decide_eq_true_eq, decide_eq_false_iff_not, bne_iff_ne, beq_iff_eq, bne_eq_false_iff_eq, beq_eq_false_iff_ne, Bool.not_eq_true, Bool.not_eq_true', Bool.not_eq_false, Bool.not_eq_false', ne_eq, Bool.and_eq_true, Bool.or_eq_true, true_eq_decide_iff, false_eq_decide_iff] at h)) <;> (try omega))
              | (refine Sm_split (fun h => ?_) (fun h => ?_) <;> (try (simp only [decide_eq_true_eq, decide_eq_false_iff_not, bne_iff_ne, beq_iff_eq, bne_eq_false_iff_eq, beq_eq_false_iff_ne, Bool.not_eq_true, Bool.not_eq_true', Bool.not_eq_false, Bool.not_eq_false', ne_eq, Bool.and_eq_true, Bool.or_eq_true, true_eq_decide_iff, false_eq_decide_iff] at h)) <;> (try omega))
              | (exact ret_p rfl ⟨rfl, rfl⟩)
              | (refine ret_okv (by first | trivial | simp only [go_sem, detD, detDs, detP, and_self, and_true]) ?_)
              | (exact ret_gen _ _ _ rfl rfl rfl ⟨rfl, rfl⟩)
              | (simp only [Option.some.injEq, DV.tup.injEq, DV.p.injEq, List.cons.injEq, PV.int.injEq, PV.bool.injEq, PV.str.injEq, and_true, true_and])
              | rfl
              | (refine Bool.eq_iff_iff.2 ?_; simp only [decide_eq_true_eq, Bool.and_eq_true, Bool.or_eq_true, Bool.not_eq_true', decide_eq_false_iff_not, Bool.false_eq_true, beq_iff_eq, bne_iff_ne, ne_eq, false_iff, iff_false, true_iff, iff_true]; omega)
              | omega)
            refine Dm_loop [0, 1, 6, 7, 8, 9, 55, 56, 57] (fun m ds H' => ∃ i : Nat, i ≤ xs.length ∧ m = xs.length - i ∧ ds = [.p (spS xs), .p (slI .i64 cs), .own 0 0 Z.length, .p (.int .i64 y), .p (.int .i64 x), .p (.int .u8 (if (⟨x, y⟩ : Sp) ∈ xs.take i then (42 : UInt8) else F).toNat), .p (spS xs), .p (.int .i64 xs.length), .p (.int .i64 i)] ∧
              H' = [.arr 5 1 (Z.map fun b : UInt8 => .int .u8 b.toNat)]) xs.length ⟨0, by omega, by omega, by simp; rfl, rfl⟩ ?_
            rintro m ds H' ⟨i, hi, rfl, rfl, rfl⟩ -
            rcases Nat.lt_or_ge i xs.length with hil | hil
            · have his := in_step (p := ⟨x, y⟩) hil
              simp only [] at his
              by_cases hm : (⟨x, y⟩ : Sp) ∈ xs.take i
              · have hm2 : (⟨x, y⟩ : Sp) ∈ xs.take (i + 1) := his.2 (.inl hm)
                rw [if_pos hm]
                repeat' (first
                  | (simp only [go_sem, reduceIte, Nat.reduceEqDiff, Nat.reduceBEq, Nat.reduceAdd, Nat.reduceLeDiff, Bool.false_eq_true])
                  | (simp (disch := omega) only [w64, nadd1])
                  | (refine Rm_need (by first | exact True.intro | omega | (simp; omega)) ?_)
                  | (refine Rm_gi (by first | omega | (simp; omega)) ?_)
                  | (refine Rm_gb (by first | omega | (simp; omega)) ?_)
                  | (refine Rm_ga (by first | omega | (simp; omega)) _ rfl (Nat.le_of_ble_eq_true rfl) ?_)
                  | (refine Rm_gm (by first | omega | (simp; omega)) _ rfl ?_)
                  | (refine Rm_part _ _ rfl rfl ?_)
                  | (refine Rm_puti (by first | omega | (simp; omega)) rfl ?_)
                  | (refine Dm_draw [] (by simp) ?_)
                  | (refine Tm_both ?_ ?_)
                  | (refine Tm_fin (by simp only [hideOK, newsE]; simp []) ?_)
                  | (refine Cm_split (fun h => ?_) (fun h => ?_) <;> (try (simp only [decide_eq_true_eq, decide_eq_false_iff_not, beq_iff_eq, beq_eq_false_iff_ne, ne_eq] at h)) <;> (try omega))
                  | (refine Gm_split (fun h => ?_) (fun h => ?_) <;> (try simp only [ne_eq, Bool.not_eq_true, Bool.not_eq_false] at h) <;> (try rw [h]) <;> (try (simp only [decide_eq_true_eq, decide_eq_false_iff_not, bne_iff_ne, beq_iff_eq, bne_eq_false_iff_eq, beq_eq_false_iff_ne, Bool.not_eq_true, Bool.not_eq_true', Bool.not_eq_false, Bool.not_eq_false', ne_eq, Bool.and_eq_true, Bool.or_eq_true, true_eq_decide_iff, false_eq_decide_iff] at h)) <;> (try omega))
                  | (refine Sm_split (fun h => ?_) (fun h => ?_) <;> (try (simp only [beq_iff_eq, beq_eq_false_iff_ne, ne_eq] at h)) <;> (try omega))
                  | (exact ret_p rfl ⟨rfl, rfl⟩)
                  | (refine ret_okv (by first | trivial | simp only [go_sem, detD, detDs, detP, and_self, and_true]) ?_)
                  | (exact ret_gen _ _ _ rfl rfl rfl ⟨rfl, rfl⟩)
                  | (simp only [Option.some.injEq, DV.tup.injEq, DV.p.injEq, List.cons.injEq, PV.int.injEq, PV.bool.injEq, PV.str.injEq, and_true, true_and])
                  | rfl
                  | (refine Bool.eq_iff_iff.2 ?_; simp only [decide_eq_true_eq, Bool.and_eq_true, Bool.or_eq_true, Bool.not_eq_true', decide_eq_false_iff_not, Bool.false_eq_true, beq_iff_eq, bne_iff_ne, ne_eq, false_iff, iff_false, true_iff, iff_true]; omega)
                  | omega)
                all_goals
                  refine Xm_inv_n (xs.length - (i + 1)) (by omega) ⟨i + 1, by omega, rfl, ?_, rfl⟩
                  rw [if_pos hm2]; rfl
              · rw [if_neg hm]
                by_cases hq : (xs.getD i default).x = x ∧ (xs.getD i default).y = y
                · have hm2 : (⟨x, y⟩ : Sp) ∈ xs.take (i + 1) := his.2 (.inr hq)
                  repeat' (first
                    | (simp only [go_sem, reduceIte, Nat.reduceEqDiff, Nat.reduceBEq, Nat.reduceAdd, Nat.reduceLeDiff, Bool.false_eq_true])
                    | (simp (disch := omega) only [w64, nadd1])
                    | (refine Rm_need (by first | exact True.intro | omega | (simp; omega)) ?_)
                    | (refine Rm_gi (by first | omega | (simp; omega)) ?_)
                    | (refine Rm_gb (by first | omega | (simp; omega)) ?_)
                    | (refine Rm_ga (by first | omega | (simp; omega)) _ rfl (Nat.le_of_ble_eq_true rfl) ?_)
                    | (refine Rm_gm (by first | omega | (simp; omega)) _ rfl ?_)
                    | (refine Rm_part _ _ rfl rfl ?_)
                    | (refine Rm_puti (by first | omega | (simp; omega)) rfl ?_)
                    | (refine Dm_draw [] (by simp) ?_)
                    | (refine Tm_both ?_ ?_)
                    | (refine Tm_fin (by simp only [hideOK, newsE]; simp []) ?_)
                    | (refine Cm_split (fun h => ?_) (fun h => ?_) <;> (try (simp only [decide_eq_true_eq, decide_eq_false_iff_not, beq_iff_eq, beq_eq_false_iff_ne, ne_eq] at h)) <;> (try omega))
                    | (refine Gm_split (fun h => ?_) (fun h => ?_) <;> (try simp only [ne_eq, Bool.not_eq_true, Bool.not_eq_false] at h) <;> (try rw [h]) <;> (try (simp only [decide_eq_true_eq, decide_eq_false_iff_not, bne_iff_ne, beq_iff_eq, bne_eq_false_iff_eq, beq_eq_false_iff_ne, Bool.not_eq_true, Bool.not_eq_true', Bool.not_eq_false, Bool.not_eq_false', ne_eq, Bool.and_eq_true, Bool.or_eq_true, true_eq_decide_iff, false_eq_decide_iff] at h)) <;> (try omega))
                    | (refine Sm_split (fun h => ?_) (fun h => ?_) <;> (try (simp only [beq_iff_eq, beq_eq_false_iff_ne, ne_eq] at h)) <;> (try omega))
                    | (exact ret_p rfl ⟨rfl, rfl⟩)
                    | (refine ret_okv (by first | trivial | simp only [go_sem, detD, detDs, detP, and_self, and_true]) ?_)
                    | (exact ret_gen _ _ _ rfl rfl rfl ⟨rfl, rfl⟩)
                    | (simp only [Option.some.injEq, DV.tup.injEq, DV.p.injEq, List.cons.injEq, PV.int.injEq, PV.bool.injEq, PV.str.injEq, and_true, true_and])
                    | rfl
                    | (refine Bool.eq_iff_iff.2 ?_; simp only [decide_eq_true_eq, Bool.and_eq_true, Bool.or_eq_true, Bool.not_eq_true', decide_eq_false_iff_not, Bool.false_eq_true, beq_iff_eq, bne_iff_ne, ne_eq, false_iff, iff_false, true_iff, iff_true]; omega)
                    | omega)
                  all_goals first
                    | (exact absurd hq.1 (by assumption))
                    | (exact absurd hq.2 (by assumption))
                    | (refine Xm_inv_n (xs.length - (i + 1)) (by omega) ⟨i + 1, by omega, rfl, ?_, rfl⟩
                       rw [if_pos hm2]; rfl)
                · have hm2 : (⟨x, y⟩ : Sp) ∉ xs.take (i + 1) := fun h => (his.1 h).elim hm hq
                  repeat' (first
                    | (simp only [go_sem, reduceIte, Nat.reduceEqDiff, Nat.reduceBEq, Nat.reduceAdd, Nat.reduceLeDiff, Bool.false_eq_true])
                    | (simp (disch := omega) only [w64, nadd1])
                    | (refine Rm_need (by first | exact True.intro | omega | (simp; omega)) ?_)
                    | (refine Rm_gi (by first | omega | (simp; omega)) ?_)
                    | (refine Rm_gb (by first | omega | (simp; omega)) ?_)
                    | (refine Rm_ga (by first | omega | (simp; omega)) _ rfl (Nat.le_of_ble_eq_true rfl) ?_)
                    | (refine Rm_gm (by first | omega | (simp; omega)) _ rfl ?_)
                    | (refine Rm_part _ _ rfl rfl ?_)
                    | (refine Rm_puti (by first | omega | (simp; omega)) rfl ?_)
                    | (refine Dm_draw [] (by simp) ?_)
                    | (refine Tm_both ?_ ?_)
                    | (refine Tm_fin (by simp only [hideOK, newsE]; simp []) ?_)
                    | (refine Cm_split (fun h => ?_) (fun h => ?_) <;> (try (simp only [decide_eq_true_eq, decide_eq_false_iff_not, beq_iff_eq, beq_eq_false_iff_ne, ne_eq] at h)) <;> (try omega))
                    | (refine Gm_split (fun h => ?_) (fun h => ?_) <;> (try simp only [ne_eq, Bool.not_eq_true, Bool.not_eq_false] at h) <;> (try rw [h]) <;> (try (simp only [decide_eq_true_eq, decide_eq_false_iff_not, bne_iff_ne, beq_iff_eq, bne_eq_false_iff_eq, beq_eq_false_iff_ne, Bool.not_eq_true, Bool.not_eq_true', Bool.not_eq_false, Bool.not_eq_false', ne_eq, Bool.and_eq_true, Bool.or_eq_true, true_eq_decide_iff, false_eq_decide_iff] at h)) <;> (try omega))
                    | (refine Sm_split (fun h => ?_) (fun h => ?_) <;> (try (simp only [beq_iff_eq, beq_eq_false_iff_ne, ne_eq] at h)) <;> (try omega))
                    | (exact ret_p rfl ⟨rfl, rfl⟩)
                    | (refine ret_okv (by first | trivial | simp only [go_sem, detD, detDs, detP, and_self, and_true]) ?_)
                    | (exact ret_gen _ _ _ rfl rfl rfl ⟨rfl, rfl⟩)
                    | (simp only [Option.some.injEq, DV.tup.injEq, DV.p.injEq, List.cons.injEq, PV.int.injEq, PV.bool.injEq, PV.str.injEq, and_true, true_and])
                    | rfl
                    | (refine Bool.eq_iff_iff.2 ?_; simp only [decide_eq_true_eq, Bool.and_eq_true, Bool.or_eq_true, Bool.not_eq_true', decide_eq_false_iff_not, Bool.false_eq_true, beq_iff_eq, bne_iff_ne, ne_eq, false_iff, iff_false, true_iff, iff_true]; omega)
                    | omega)
                  all_goals first
                    | (exact absurd ⟨by assumption, by assumption⟩ hq)
                    | (refine Xm_inv_n (xs.length - (i + 1)) (by omega) ⟨i + 1, by omega, rfl, ?_, rfl⟩
                       rw [if_neg hm2]; rfl)
            · rw [List.take_of_length_le hil, ← hbd]
              repeat' (first
                | (simp only [go_sem, Nat.lt_add_one, reduceIte, Nat.reduceEqDiff, Nat.reduceAdd, Nat.reduceMul, Nat.reduceLeDiff])
                | (simp (disch := omega) only [w64, nadd1, List.take_length])
                | (refine Rm_need (by first | exact True.intro | omega | (simp; omega)) ?_)
                | (rw [byte_app])
                | (refine Rm_gi (by first | omega | (simp; omega)) ?_)
                | (refine Rm_gb (by first | omega | (simp; omega)) ?_)
                | (refine Rm_ga (by first | omega | (simp; omega)) _ rfl (Nat.le_of_ble_eq_true rfl) ?_)
                | (refine Rm_gm (by first | omega | (simp; omega)) _ rfl ?_)
                | (refine Rm_part _ _ rfl rfl ?_)
                | (refine Rm_puti (by first | omega | (simp; omega)) rfl ?_)
                | (refine Dm_draw [] (by simp) ?_)
                | (refine Tm_both ?_ ?_)
                | (refine Tm_fin (by simp only [hideOK, newsE]; simp []) ?_)
                | (refine Cm_split (fun h => ?_) (fun h => ?_) <;> (try (simp only [decide_eq_true_eq, decide_eq_false_iff_not] at h)) <;> (try omega))
                | (refine Gm_split (fun h => ?_) (fun h => ?_) <;> (try simp only [ne_eq, Bool.not_eq_true, Bool.not_eq_false] at h) <;> (try rw [h]) <;> (try (simp only [decide_eq_true_eq, decide_eq_false_iff_not, bne_iff_ne, beq_iff_eq, bne_eq_false_iff_eq, beq_eq_false_iff_ne, Bool.not_eq_true, Bool.not_eq_true', Bool.not_eq_false, Bool.not_eq_false', ne_eq, Bool.and_eq_true, Bool.or_eq_true, true_eq_decide_iff, false_eq_decide_iff] at h)) <;> (try omega))
                | (refine Sm_split (fun h => ?_) (fun h => ?_) <;> (try (simp only [decide_eq_true_eq, decide_eq_false_iff_not, bne_iff_ne, beq_iff_eq, bne_eq_false_iff_eq, beq_eq_false_iff_ne, Bool.not_eq_true, Bool.not_eq_true', Bool.not_eq_false, Bool.not_eq_false', ne_eq, Bool.and_eq_true, Bool.or_eq_true, true_eq_decide_iff, false_eq_decide_iff] at h)) <;> (try omega))
                | (exact ret_p rfl ⟨rfl, rfl⟩)
                | (refine ret_okv (by first | trivial | simp only [go_sem, detD, detDs, detP, and_self, and_true]) ?_)
                | (exact ret_gen _ _ _ rfl rfl rfl ⟨rfl, rfl⟩)
                | (simp only [Option.some.injEq, DV.tup.injEq, DV.p.injEq, List.cons.injEq, PV.int.injEq, PV.bool.injEq, PV.str.injEq, and_true, true_and])
                | rfl
                | (refine Bool.eq_iff_iff.2 ?_; simp only [decide_eq_true_eq, Bool.and_eq_true, Bool.or_eq_true, Bool.not_eq_true', decide_eq_false_iff_not, Bool.false_eq_true, beq_iff_eq, bne_iff_ne, ne_eq, false_iff, iff_false, true_iff, iff_true]; omega)
                | omega)
              refine Xm_inv_n (60 - (x + 1)) (by omega) ⟨x + 1, by omega, rfl, ?_, ?_⟩
              · rw [hrs, List.length_append]; rfl
              · rw [hrs]; rfl
          · obtain rfl : k = (j : Int) := by omega
            have hfd := fco_down (ls := ls) (p := ⟨x, y⟩) (n := xs.length) (j := j) (by omega)
            have hak := hat j (by omega) (hcc j (by omega))
            have hb1 := at_in (c := cs.getD j 0) (hon j (by omega))
            have hcv := k_covered (atX (xs.getD j default).x (cs.getD j 0)) (atY (xs.getD j default).y (cs.getD j 0)) x y (by omega) (by omega)
            have he2 : (⟨atX (xs.getD j default).x (cs.getD j 0), atY (xs.getD j default).y (cs.getD j 0)⟩ : Sp) = ls.getD j default := by rw [hlg j (by omega)]; rfl
            rw [he2] at hcv
            cases hv : cov (ls.getD j default) ⟨x, y⟩
            · rw [hv] at hcv
              rw [hv, if_neg (by simp)] at hfd
              repeat' (first
                | (simp only [go_sem, reduceIte, Nat.reduceEqDiff, Nat.reduceAdd, Nat.reduceSub, Nat.reduceLeDiff])
                | (simp (disch := omega) only [w64])
                | (refine Rm_need (by first | exact True.intro | omega | (simp; omega)) ?_)
                | (refine Rm_w rfl (hak) (by trivial) ?_)
                | (refine Rm_w ?_ (hak) (by trivial) ?_; · (simp [viewOfs, viewOf, List.take_of_length_le, cutL]; done))
                | (refine Rm_w rfl (hcv) (by trivial) ?_)
                | (refine Rm_w ?_ (hcv) (by trivial) ?_; · (simp [viewOfs, viewOf, List.take_of_length_le, cutL]; done))
                | (refine Rm_gi (by first | omega | (simp; omega)) ?_)
                | (refine Rm_gb (by first | omega | (simp; omega)) ?_)
                | (refine Rm_ga (by first | omega | (simp; omega)) _ rfl (Nat.le_of_ble_eq_true rfl) ?_)
                | (refine Rm_gm (by first | omega | (simp; omega)) _ rfl ?_)
                | (refine Rm_part _ _ rfl rfl ?_)
                | (refine Rm_puti (by first | omega | (simp; omega)) rfl ?_)
                | (refine Dm_draw [] (by simp) ?_)
                | (refine Tm_both ?_ ?_)
                | (refine Tm_fin (by simp only [hideOK, newsE]; simp []) ?_)
                | (refine Cm_split (fun h => ?_) (fun h => ?_) <;> (try (simp only [decide_eq_true_eq, decide_eq_false_iff_not] at h)) <;> (try omega))
                | (refine Gm_split (fun h => ?_) (fun h => ?_) <;> (try simp only [ne_eq, Bool.not_eq_true, Bool.not_eq_false] at h) <;> (try rw [h]) <;> (try (simp only [decide_eq_true_eq, decide_eq_false_iff_not, bne_iff_ne, beq_iff_eq, bne_eq_false_iff_eq, beq_eq_false_iff_ne, Bool.not_eq_true, Bool.not_eq_true', Bool.not_eq_false, Bool.not_eq_false', ne_eq, Bool.and_eq_true, Bool.or_eq_true, true_eq_decide_iff, false_eq_decide_iff] at h)) <;> (try omega))
                | (refine Sm_split (fun h => ?_) (fun h => ?_) <;> (try (simp only [decide_eq_true_eq, decide_eq_false_iff_not, bne_iff_ne, beq_iff_eq, bne_eq_false_iff_eq, beq_eq_false_iff_ne, Bool.not_eq_true, Bool.not_eq_true', Bool.not_eq_false, Bool.not_eq_false', ne_eq, Bool.and_eq_true, Bool.or_eq_true, true_eq_decide_iff, false_eq_decide_iff] at h)) <;> (try omega))
                | (exact ret_p rfl ⟨rfl, rfl⟩)
                | (refine ret_okv (by first | trivial | simp only [go_sem, detD, detDs, detP, and_self, and_true]) ?_)
                | (exact ret_gen _ _ _ rfl rfl rfl ⟨rfl, rfl⟩)
                | (simp only [Option.some.injEq, DV.tup.injEq, DV.p.injEq, List.cons.injEq, PV.int.injEq, PV.bool.injEq, PV.str.injEq, and_true, true_and])
                | rfl
                | (refine Bool.eq_iff_iff.2 ?_; simp only [decide_eq_true_eq, Bool.and_eq_true, Bool.or_eq_true, Bool.not_eq_true', decide_eq_false_iff_not, Bool.false_eq_true, beq_iff_eq, bne_iff_ne, ne_eq, false_iff, iff_false, true_iff, iff_true]; omega)
                | omega)
              all_goals
                refine Xm_inv_n j (by omega) ⟨(j : Int) - 1, by omega, rfl, ?_, rfl⟩
                rw [hfd]; rfl
            · rw [hv] at hcv
              rw [hv, if_pos rfl] at hfd
              repeat' (first
                | (simp only [go_sem, reduceIte, Nat.reduceEqDiff, Nat.reduceAdd, Nat.reduceSub, Nat.reduceLeDiff])
                | (simp (disch := omega) only [w64, w8])
                | (refine Rm_need (by first | exact True.intro | omega | (simp; omega)) ?_)
                | (refine Rm_w rfl (hak) (by trivial) ?_)
                | (refine Rm_w ?_ (hak) (by trivial) ?_; · (simp [viewOfs, viewOf, List.take_of_length_le, cutL]; done))
                | (refine Rm_w rfl (hcv) (by trivial) ?_)
                | (refine Rm_w ?_ (hcv) (by trivial) ?_; · (simp [viewOfs, viewOf, List.take_of_length_le, cutL]; done))
                | (refine Rm_gi (by first | omega | (simp; omega)) ?_)
                | (refine Rm_gb (by first | omega | (simp; omega)) ?_)
                | (refine Rm_ga (by first | omega | (simp; omega)) _ rfl (Nat.le_of_ble_eq_true rfl) ?_)
                | (refine Rm_gm (by first | omega | (simp; omega)) _ rfl ?_)
                | (refine Rm_part _ _ rfl rfl ?_)
                | (refine Rm_puti (by first | omega | (simp; omega)) rfl ?_)
                | (refine Dm_draw [] (by simp) ?_)
                | (refine Tm_both ?_ ?_)
                | (refine Tm_fin (by simp only [hideOK, newsE]; simp []) ?_)
                | (refine Cm_split (fun h => ?_) (fun h => ?_) <;> (try (simp only [decide_eq_true_eq, decide_eq_false_iff_not] at h)) <;> (try omega))
                | (refine Gm_split (fun h => ?_) (fun h => ?_) <;> (try simp only [ne_eq, Bool.not_eq_true, Bool.not_eq_false] at h) <;> (try rw [h]) <;> (try (simp only [decide_eq_true_eq, decide_eq_false_iff_not, bne_iff_ne, beq_iff_eq, bne_eq_false_iff_eq, beq_eq_false_iff_ne, Bool.not_eq_true, Bool.not_eq_true', Bool.not_eq_false, Bool.not_eq_false', ne_eq, Bool.and_eq_true, Bool.or_eq_true, true_eq_decide_iff, false_eq_decide_iff] at h)) <;> (try omega))
                | (refine Sm_split (fun h => ?_) (fun h => ?_) <;> (try (simp only [decide_eq_true_eq, decide_eq_false_iff_not, bne_iff_ne, beq_iff_eq, bne_eq_false_iff_eq, beq_eq_false_iff_ne, Bool.not_eq_true, Bool.not_eq_true', Bool.not_eq_false, Bool.not_eq_false', ne_eq, Bool.and_eq_true, Bool.or_eq_true, true_eq_decide_iff, false_eq_decide_iff] at h)) <;> (try omega))
                | (exact ret_p rfl ⟨rfl, rfl⟩)
                | (refine ret_okv (by first | trivial | simp only [go_sem, detD, detDs, detP, and_self, and_true]) ?_)
                | (exact ret_gen _ _ _ rfl rfl rfl ⟨rfl, rfl⟩)
                | (simp only [Option.some.injEq, DV.tup.injEq, DV.p.injEq, List.cons.injEq, PV.int.injEq, PV.bool.injEq, PV.str.injEq, and_true, true_and])
                | rfl
                | (refine Bool.eq_iff_iff.2 ?_; simp only [decide_eq_true_eq, Bool.and_eq_true, Bool.or_eq_true, Bool.not_eq_true', decide_eq_false_iff_not, Bool.false_eq_true, beq_iff_eq, bne_iff_ne, ne_eq, false_iff, iff_false, true_iff, iff_true]; omega)
                | omega)
              all_goals
                refine Xm_inv_n j (by omega) ⟨(j : Int) - 1, by omega, rfl, ?_, rfl⟩
                rw [hfd, ← digit_at (by omega)]; rfl
      · obtain rfl : x = 60 := by omega
        repeat' (first
          | (simp only [go_sem, Nat.lt_add_one, reduceIte, Nat.reduceEqDiff, Nat.reduceAdd, Nat.reduceSub, Nat.reduceMul, Nat.reduceLeDiff])
          | (simp (disch := omega) only [w64, nadd1, List.take_length])
          | (refine Rm_need (by first | exact True.intro | omega | (simp; omega)) ?_)
          | (refine Rm_gi (by first | omega | (simp; omega)) ?_)
          | (refine Rm_gb (by first | omega | (simp; omega)) ?_)
          | (refine Rm_ga (by first | omega | (simp; omega)) _ rfl (Nat.le_of_ble_eq_true rfl) ?_)
          | (refine Rm_gm (by first | omega | (simp; omega)) _ rfl ?_)
          | (refine Rm_part _ _ rfl rfl ?_)
          | (refine Rm_puti (by first | omega | (simp; omega)) rfl ?_)
          | (refine Dm_draw [] (by simp) ?_)
          | (refine Tm_both ?_ ?_)
          | (refine Tm_fin (by simp only [hideOK, newsE]; simp []) ?_)
          | (refine Cm_split (fun h => ?_) (fun h => ?_) <;> (try (simp only [decide_eq_true_eq, decide_eq_false_iff_not] at h)) <;> (try omega))
          | (refine Gm_split (fun h => ?_) (fun h => ?_) <;> (try simp only [ne_eq, Bool.not_eq_true, Bool.not_eq_false] at h) <;> (try rw [h]) <;> (try (simp only [decide_eq_true_eq, decide_eq_false_iff_not, bne_iff_ne, beq_iff_eq, bne_eq_false_iff_eq, beq_eq_false_iff_ne, Bool.not_eq_true, Bool.not_eq_true', Bool.not_eq_false, Bool.not_eq_false', ne_eq, Bool.and_eq_true, Bool.or_eq_true, true_eq_decide_iff, false_eq_decide_iff] at h)) <;> (try omega))
          | (refine Sm_split (fun h => ?_) (fun h => ?_) <;> (try (simp only [decide_eq_true_eq, decide_eq_false_iff_not, bne_iff_ne, beq_iff_eq, bne_eq_false_iff_eq, beq_eq_false_iff_ne, Bool.not_eq_true, Bool.not_eq_true', Bool.not_eq_false, Bool.not_eq_false', ne_eq, Bool.and_eq_true, Bool.or_eq_true, true_eq_decide_iff, false_eq_decide_iff] at h)) <;> (try omega))
          | (exact ret_p rfl ⟨rfl, rfl⟩)
          | (refine ret_okv (by first | trivial | simp only [go_sem, detD, detDs, detP, and_self, and_true]) ?_)
          | (exact ret_gen _ _ _ rfl rfl rfl ⟨rfl, rfl⟩)
          | (simp only [Option.some.injEq, DV.tup.injEq, DV.p.injEq, List.cons.injEq, PV.int.injEq, PV.bool.injEq, PV.str.injEq, and_true, true_and])
          | rfl
          | (refine Bool.eq_iff_iff.2 ?_; simp only [decide_eq_true_eq, Bool.and_eq_true, Bool.or_eq_true, Bool.not_eq_true', decide_eq_false_iff_not, Bool.false_eq_true, beq_iff_eq, bne_iff_ne, ne_eq, false_iff, iff_false, true_iff, iff_true]; omega)
          | omega)
        refine Xm_inv_n (30 - (y + 1)) (by omega) ⟨y + 1, by omega, rfl, ?_, ?_⟩
        · rw [hss]; simp only [List.length_append]; rfl
        · rw [hss, ← byte_nl]; rfl
    · obtain rfl : y = 30 := by omega
      repeat' (first
        | (simp only [go_sem, reduceIte, Nat.reduceEqDiff, Nat.reduceSub])
        | (simp (disch := omega) only [List.take_length])
        | (refine Rm_need (by first | exact True.intro | omega | (simp; omega)) ?_)
        | (refine Rm_gi (by first | omega | (simp; omega)) ?_)
        | (refine Rm_gb (by first | omega | (simp; omega)) ?_)
        | (refine Rm_ga (by first | omega | (simp; omega)) _ rfl (Nat.le_of_ble_eq_true rfl) ?_)
        | (refine Rm_gm (by first | omega | (simp; omega)) _ rfl ?_)
        | (refine Rm_part _ _ rfl rfl ?_)
        | (refine Rm_puti (by first | omega | (simp; omega)) rfl ?_)
        | (refine Dm_draw [] (by simp) ?_)
        | (refine Tm_both ?_ ?_)
        | (refine Tm_fin (by simp only [hideOK, newsE]; simp []) ?_)
        | (refine Cm_split (fun h => ?_) (fun h => ?_) <;> (try (simp only [decide_eq_true_eq, decide_eq_false_iff_not] at h)) <;> (try omega))
        | (refine Gm_split (fun h => ?_) (fun h => ?_) <;> (try simp only [ne_eq, Bool.not_eq_true, Bool.not_eq_false] at h) <;> (try rw [h]) <;> (try (simp only [decide_eq_true_eq, decide_eq_false_iff_not, bne_iff_ne, beq_iff_eq, bne_eq_false_iff_eq, beq_eq_false_iff_ne, Bool.not_eq_true, Bool.not_eq_true', Bool.not_eq_false, Bool.not_eq_false', ne_eq, Bool.and_eq_true, Bool.or_eq_true, true_eq_decide_iff, false_eq_decide_iff] at h)) <;> (try omega))
        | (refine Sm_split (fun h => ?_) (fun h => ?_) <;> (try (simp only [decide_eq_true_eq, decide_eq_false_iff_not, bne_iff_ne, beq_iff_eq, bne_eq_false_iff_eq, beq_eq_false_iff_ne, Bool.not_eq_true, Bool.not_eq_true', Bool.not_eq_false, Bool.not_eq_false', ne_eq, Bool.and_eq_true, Bool.or_eq_true, true_eq_decide_iff, false_eq_decide_iff] at h)) <;> (try omega))
        | (exact ret_p rfl ⟨rfl, rfl⟩)
        | (refine ret_okv (by first | trivial | simp only [go_sem, detD, detDs, detP, and_self, and_true]) ?_)
        | (exact ret_gen _ _ _ rfl rfl rfl ⟨rfl, rfl⟩)
        | (simp only [Option.some.injEq, DV.tup.injEq, DV.p.injEq, List.cons.injEq, PV.int.injEq, PV.bool.injEq, PV.str.injEq, and_true, true_and])
        | rfl
        | (refine Bool.eq_iff_iff.2 ?_; simp only [decide_eq_true_eq, Bool.and_eq_true, Bool.or_eq_true, Bool.not_eq_true', decide_eq_false_iff_not, Bool.false_eq_true, beq_iff_eq, bne_iff_ne, ne_eq, false_iff, iff_false, true_iff, iff_true]; omega)
        | omega)
set_option maxRecDepth 100000 in
set_option maxHeartbeats 16000000 in
/-- laws.FnExactScreenText -/
theorem k_FnExactScreenText (xs : List Sp) (hr : xs.length ≤ 9223372036854775807 ∧ spBds xs) (cs : List Int) (_ : W64s cs) : Okv Try.prog 3 [spS xs, slI .i64 cs] (.p (.bool true)) := by
  refine ok_D hmix c_laws_FnExactScreenText (by simp) ?_
  have h1 := k_szSpotS xs 1048576 (by omega) hr.1
  by_cases hb : szO 1048576 xs.length < 0
  · generalize szO 1048576 xs.length = z at *
    simp only [envOf, envFrom, go_sem, reduceIte, Nat.reduceEqDiff]
    repeat' (first
      | (simp only [go_sem, reduceIte, Nat.reduceEqDiff])
      | (simp (disch := omega) only [w64, w8, bytesOf_cons, tmod10, tdiv10, tn48, nsub1, nadd1, nsub, nadd, nmul, List.take_length, Int.toNat_zero, Int.reduceAdd, Int.reduceSub, Int.reduceToNat, Int.reduceMul, Nat.sub_zero, Nat.min_self])
      | (refine Rm_need (by first | exact True.intro | omega | (simp; omega)) ?_)
      | (refine Rm_w rfl (h1) (by trivial) ?_)
      | (refine Rm_w ?_ (h1) (by trivial) ?_; · (simp [viewOfs, viewOf, List.take_of_length_le, cutL]; done))
      | (refine Rm_gi (by first | omega | (simp; omega)) ?_)
      | (refine Rm_gb (by first | omega | (simp; omega)) ?_)
      | (refine Rm_ga (by first | omega | (simp; omega)) _ rfl (Nat.le_of_ble_eq_true rfl) ?_)
      | (refine Rm_gm (by first | omega | (simp; omega)) _ rfl ?_)
      | (refine Rm_part _ _ rfl rfl ?_)
      | (refine Rm_puti (by first | omega | (simp; omega)) rfl ?_)
      | (refine Dm_draw [] (by simp) ?_)
      | (refine Tm_both ?_ ?_)
      | (refine Tm_fin (by simp only [hideOK, newsE]; simp []) ?_)
      | (refine Cm_split (fun h => ?_) (fun h => ?_) <;> (try (simp only [decide_eq_true_eq, decide_eq_false_iff_not] at h)) <;> (try omega))
      | (refine Gm_split (fun h => ?_) (fun h => ?_) <;> (try simp only [ne_eq, Bool.not_eq_true, Bool.not_eq_false] at h) <;> (try rw [h]) <;> (try (simp only [decide_eq_true_eq, decide_eq_false_iff_not, bne_iff_ne, beq_iff_eq, bne_eq_false_iff_eq, beq_eq_false_iff_ne, Bool.not_eq_true, Bool.not_eq_true', Bool.not_eq_false, Bool.not_eq_false', ne_eq, Bool.and_eq_true, Bool.or_eq_true, true_eq_decide_iff, false_eq_decide_iff] at h)) <;> (try omega))
      | (refine Sm_split (fun h => ?_) (fun h => ?_) <;> (try (simp only [decide_eq_true_eq, decide_eq_false_iff_not, bne_iff_ne, beq_iff_eq, bne_eq_false_iff_eq, beq_eq_false_iff_ne, Bool.not_eq_true, Bool.not_eq_true', Bool.not_eq_false, Bool.not_eq_false', ne_eq, Bool.and_eq_true, Bool.or_eq_true, true_eq_decide_iff, false_eq_decide_iff] at h)) <;> (try omega))
      | (exact ret_p rfl ⟨rfl, rfl⟩)
      | (refine ret_okv (by first | trivial | simp only [go_sem, detD, detDs, detP, and_self, and_true]) ?_)
      | (exact ret_gen _ _ _ rfl rfl rfl ⟨rfl, rfl⟩)
      | (simp only [Option.some.injEq, DV.tup.injEq, DV.p.injEq, List.cons.injEq, PV.int.injEq, PV.bool.injEq, PV.str.injEq, and_true, true_and])
      | rfl
      | (refine Bool.eq_iff_iff.2 ?_; simp only [decide_eq_true_eq, Bool.and_eq_true, Bool.or_eq_true, Bool.not_eq_true', decide_eq_false_iff_not, Bool.false_eq_true, beq_iff_eq, bne_iff_ne, ne_eq, false_iff, iff_false, true_iff, iff_true]; omega)
      | omega)
  · have hf : xs.length ≤ 1048576 := by have := (szO_ok hb).1; omega
    generalize szO 1048576 xs.length = z at *
    by_cases hcl : cs.length ≤ 1048576
    · have h2 := k_toSpotS xs hf
      have h3 := k_sScreen xs cs hf hcl
      have h4 := k_iScreen xs cs hf hcl
      have h5 := k_eqSpotS xs hf
      have h6 := k_toIntS cs hcl
      have h7 := k_eqIntS cs cs hcl
      rw [decide_eq_true rfl] at h7
      generalize (if plB xs cs then scrO xs cs else []) = T at *
      generalize plB xs cs = b at *
      simp only [envOf, envFrom, go_sem, reduceIte, Nat.reduceEqDiff]
      repeat' (first
        | (simp only [go_sem, reduceIte, Nat.reduceEqDiff, Nat.reduceBEq, Nat.reduceAdd])
        | (simp (disch := omega) only [w64, w8, bytesOf_cons, tmod10, tdiv10, tn48, nsub1, nadd1, nsub, nadd, nmul, List.take_length, Int.toNat_zero, Int.reduceAdd, Int.reduceSub, Int.reduceToNat, Int.reduceMul, Nat.sub_zero, Nat.min_self])
        | (refine Rm_need (by first | exact True.intro | omega | (simp; omega)) ?_)
        | (refine Rm_w rfl (h1) (by trivial) ?_)
        | (refine Rm_w ?_ (h1) (by trivial) ?_; · (simp [viewOfs, viewOf, List.take_of_length_le, cutL]; done))
        | (refine Rm_o h2 rfl (fun r H2 hh => ?_); obtain ⟨rfl, rfl⟩ := hh)
        | (refine Rm_o h6 rfl (fun r H2 hh => ?_); obtain ⟨rfl, rfl⟩ := hh)
        | (refine Rm_w rfl (h3) (by trivial) ?_)
        | (refine Rm_w ?_ (h3) (by trivial) ?_; · (simp [viewOfs, viewOf, List.take_of_length_le]; done))
        | (refine Rm_w rfl (h4) (by trivial) ?_)
        | (refine Rm_w ?_ (h4) (by trivial) ?_; · (simp [viewOfs, viewOf, List.take_of_length_le]; done))
        | (refine Rm_w rfl (h5) (by trivial) ?_)
        | (refine Rm_w ?_ (h5) (by trivial) ?_; · (simp [viewOfs, viewOf, List.take_of_length_le]; done))
        | (refine Rm_w rfl (h7) (by trivial) ?_)
        | (refine Rm_w ?_ (h7) (by trivial) ?_; · (simp [viewOfs, viewOf, List.take_of_length_le]; done))
        | (refine Rm_gi (by first | omega | (simp; omega)) ?_)
        | (refine Rm_gb (by first | omega | (simp; omega)) ?_)
        | (refine Rm_ga (by first | omega | (simp; omega)) _ rfl (Nat.le_of_ble_eq_true rfl) ?_)
        | (refine Rm_gm (by first | omega | (simp; omega)) _ rfl ?_)
        | (refine Rm_part _ _ rfl rfl ?_)
        | (refine Rm_puti (by first | omega | (simp; omega)) rfl ?_)
        | (refine Dm_draw [] (by simp) ?_)
        | (refine Tm_both ?_ ?_)
        | (refine Tm_fin (by simp only [hideOK, newsE]; simp []) ?_)
        | (refine Cm_split (fun h => ?_) (fun h => ?_) <;> (try (simp only [decide_eq_true_eq, decide_eq_false_iff_not] at h)) <;> (try omega))
        | (refine Gm_split (fun h => ?_) (fun h => ?_) <;> (try simp only [ne_eq, Bool.not_eq_true, Bool.not_eq_false] at h) <;> (try rw [h]) <;> (try (simp only [decide_eq_true_eq, decide_eq_false_iff_not, bne_iff_ne, beq_iff_eq, bne_eq_false_iff_eq, beq_eq_false_iff_ne, Bool.not_eq_true, Bool.not_eq_true', Bool.not_eq_false, Bool.not_eq_false', ne_eq, Bool.and_eq_true, Bool.or_eq_true, true_eq_decide_iff, false_eq_decide_iff] at h)) <;> (try omega))
        | (refine Sm_split (fun h => ?_) (fun h => ?_) <;> (try (simp only [decide_eq_true_eq, decide_eq_false_iff_not, bne_iff_ne, beq_iff_eq, bne_eq_false_iff_eq, beq_eq_false_iff_ne, Bool.not_eq_true, Bool.not_eq_true', Bool.not_eq_false, Bool.not_eq_false', ne_eq, Bool.and_eq_true, Bool.or_eq_true, true_eq_decide_iff, false_eq_decide_iff] at h)) <;> (try omega))
        | (exact ret_p rfl ⟨rfl, rfl⟩)
        | (refine ret_okv (by first | trivial | simp only [go_sem, detD, detDs, detP, and_self, and_true]) ?_)
        | (exact ret_gen _ _ _ rfl rfl rfl ⟨rfl, rfl⟩)
        | (simp only [Option.some.injEq, DV.tup.injEq, DV.p.injEq, List.cons.injEq, PV.int.injEq, PV.bool.injEq, PV.str.injEq, and_true, true_and])
        | rfl
        | (refine Bool.eq_iff_iff.2 ?_; simp only [decide_eq_true_eq, Bool.and_eq_true, Bool.or_eq_true, Bool.not_eq_true', decide_eq_false_iff_not, Bool.false_eq_true, beq_iff_eq, bne_iff_ne, ne_eq, false_iff, iff_false, true_iff, iff_true]; omega)
        | omega)
    · simp only [envOf, envFrom, go_sem, reduceIte, Nat.reduceEqDiff]
      repeat' (first
        | (simp only [go_sem])
        | (simp (disch := omega) only [w64, w8, bytesOf_cons, tmod10, tdiv10, tn48, nsub1, nadd1, nsub, nadd, nmul, List.take_length, Int.toNat_zero, Int.reduceAdd, Int.reduceSub, Int.reduceToNat, Int.reduceMul, Nat.sub_zero, Nat.min_self])
        | (refine Rm_need (by first | exact True.intro | omega | (simp; omega)) ?_)
        | (refine Rm_w rfl (h1) (by trivial) ?_)
        | (refine Rm_w ?_ (h1) (by trivial) ?_; · (simp [viewOfs, viewOf, List.take_of_length_le, cutL]; done))
        | (refine Rm_gi (by first | omega | (simp; omega)) ?_)
        | (refine Rm_gb (by first | omega | (simp; omega)) ?_)
        | (refine Rm_ga (by first | omega | (simp; omega)) _ rfl (Nat.le_of_ble_eq_true rfl) ?_)
        | (refine Rm_gm (by first | omega | (simp; omega)) _ rfl ?_)
        | (refine Rm_part _ _ rfl rfl ?_)
        | (refine Rm_puti (by first | omega | (simp; omega)) rfl ?_)
        | (refine Dm_draw [] (by simp) ?_)
        | (refine Tm_both ?_ ?_)
        | (refine Tm_fin (by simp only [hideOK, newsE]; simp []) ?_)
        | (refine Cm_split (fun h => ?_) (fun h => ?_) <;> (try (simp only [decide_eq_true_eq, decide_eq_false_iff_not] at h)) <;> (try omega))
        | (refine Gm_split (fun h => ?_) (fun h => ?_) <;> (try simp only [ne_eq, Bool.not_eq_true, Bool.not_eq_false] at h) <;> (try rw [h]) <;> (try (simp only [decide_eq_true_eq, decide_eq_false_iff_not, bne_iff_ne, beq_iff_eq, bne_eq_false_iff_eq, beq_eq_false_iff_ne, Bool.not_eq_true, Bool.not_eq_true', Bool.not_eq_false, Bool.not_eq_false', ne_eq, Bool.and_eq_true, Bool.or_eq_true, true_eq_decide_iff, false_eq_decide_iff] at h)) <;> (try omega))
        | (refine Sm_split (fun h => ?_) (fun h => ?_) <;> (try (simp only [decide_eq_true_eq, decide_eq_false_iff_not, bne_iff_ne, beq_iff_eq, bne_eq_false_iff_eq, beq_eq_false_iff_ne, Bool.not_eq_true, Bool.not_eq_true', Bool.not_eq_false, Bool.not_eq_false', ne_eq, Bool.and_eq_true, Bool.or_eq_true, true_eq_decide_iff, false_eq_decide_iff] at h)) <;> (try omega))
        | (exact ret_p rfl ⟨rfl, rfl⟩)
        | (refine ret_okv (by first | trivial | simp only [go_sem, detD, detDs, detP, and_self, and_true]) ?_)
        | (exact ret_gen _ _ _ rfl rfl rfl ⟨rfl, rfl⟩)
        | (simp only [Option.some.injEq, DV.tup.injEq, DV.p.injEq, List.cons.injEq, PV.int.injEq, PV.bool.injEq, PV.str.injEq, and_true, true_and])
        | rfl
        | (refine Bool.eq_iff_iff.2 ?_; simp only [decide_eq_true_eq, Bool.and_eq_true, Bool.or_eq_true, Bool.not_eq_true', decide_eq_false_iff_not, Bool.false_eq_true, beq_iff_eq, bne_iff_ne, ne_eq, false_iff, iff_false, true_iff, iff_true]; omega)
        | omega)
end Go.Proofs.Ytakpkggmhgkicaa

import Derived.Test.YtchekagoaidlpaaKit
namespace Go.Proofs.Ytchekagoaidlpaa
open Go.Dv Go.Dv.EvL
attribute [local irreducible] Ok Rm Dm Om Sm Xm Cm Gm Hm Tm

/-! ### rows of texts in laws -/
abbrev Txt := List UInt8
abbrev slS (xs : List Txt) : PV := .sl 1 (xs.map .str)
def ssz (xs : List Txt) : Nat := xs.length + (xs.map List.length).sum
def sBds (xs : List Txt) : Prop := ∀ r ∈ xs, r.length ≤ 9223372036854775807
theorem s_take {xs : List Txt} {i : Nat} (h : i < xs.length) : ((xs.take (i + 1)).map List.length).sum = ((xs.take i).map List.length).sum + (xs.getD i []).length := by
  rw [take_snoc (d := []) h, List.map_append, List.sum_append]
  simp
theorem s_part {xs : List Txt} {i : Nat} : ((xs.take i).map List.length).sum ≤ (xs.map List.length).sum := by
  have : (xs.map List.length).sum = ((xs.take i).map List.length).sum + ((xs.drop i).map List.length).sum := by
    rw [← List.sum_append, ← List.map_append, List.take_append_drop]
  omega
theorem s_one {xs : List Txt} {i : Nat} (h : i < xs.length) : (xs.getD i []).length ≤ (xs.map List.length).sum := by
  have h1 := s_take h
  have h2 := s_part (xs := xs) (i := i + 1)
  omega
set_option maxRecDepth 100000 in
/-- texts in a list, read -/
theorem open_Ss {xs : List PV} {m : Nat} (h : PTy Try.prog (m + 2) 22 xs) : ∃ rs : List Txt, mkEl (aggB Try.prog 22) xs = slS rs ∧ rs.length ≤ 9223372036854775807 ∧ sBds rs := by
  have e : aggB Try.prog 22 = false := by kernel_rfl
  obtain ⟨rows, rfl, hl, hr⟩ := pty_slice Try.underlying22 h
  obtain ⟨rs, h1, h2⟩ := els_of (G := fun r : Txt => r.length ≤ 9223372036854775807) (f := PV.str) (ag := aggB Try.prog 9) (fun ys hy => by
    obtain ⟨a, rfl, b⟩ := pty_str Try.underlying9 hy
    exact ⟨a, by rw [(by kernel_rfl : aggB Try.prog 9 = false)]; rfl, b⟩) hr
  rw [e, (by kernel_rfl : Try.prog.cellsOf 9 = 1), h1]
  exact ⟨rs, rfl, by rw [← List.length_map (f := PV.str), ← h1, List.length_map]; exact hl, h2⟩
set_option maxRecDepth 100000 in
set_option maxHeartbeats 16000000 in
/-- laws.szStringS -/
theorem k_szStringS (xs : List Txt) (n : Int) (hn : 0 ≤ n ∧ n ≤ 1048576) (hl : xs.length ≤ 9223372036854775807) (hr : sBds xs) : Okv Try.prog 56 [slS xs, .int .i64 n] (.p (.int .i64 (szO n (ssz xs)))) := by
  refine ok_D hmix c_laws_szStringS (by simp) ?_
  have hz : ssz xs = xs.length + (xs.map List.length).sum := rfl
  have hs : szO n (ssz xs) = if n < ssz xs then -1 else n - ssz xs := rfl
  simp only [envOf, envFrom, go_sem, reduceIte, Nat.reduceEqDiff]
  repeat' (first
    | (simp only [go_sem, reduceIte, Nat.reduceEqDiff])
    | (simp (disch := omega) only [w64])
    | (refine Rm_need (by first | exact True.intro | omega | (simp; omega)) ?_)
    | (refine Rm_gi (by first | omega | (simp; omega)) ?_)
    | (refine Rm_gb (by first | omega | (simp; omega)) ?_)
    | (refine Rm_ga (by first | omega | (simp; omega)) _ rfl (Nat.le_of_ble_eq_true rfl) ?_)
    | (refine Rm_gm (by first | omega | (simp; omega)) _ rfl ?_)
    | (refine Rm_part _ _ rfl rfl ?_)
    | (refine Rm_puti (by first | omega | (simp; omega)) rfl ?_)
    | (refine Dm_draw [] (by simp) ?_)
    | (refine Tm_both ?_ ?_)
    | (refine Tm_fin (by simp only [hideOK, newsE]; simp []) ?_)
    | (refine Cm_split (fun h => ?_) (fun h => ?_) <;> (try (simp only [decide_eq_true_eq, decide_eq_false_iff_not] at h)) <;> (try omega))
    | (refine Gm_split (fun h => ?_) (fun h => ?_) <;> (try simp only [ne_eq, Bool.not_eq_true, Bool.not_eq_false] at h) <;> (try rw [h]) <;> (try (simp only [decide_eq_true_eq, decide_eq_false_iff_not, bne_iff_ne, beq_iff_eq, bne_eq_false_iff_eq, beq_eq_false_iff_ne, Bool.not_eq_true, Bool.not_eq_true', Bool.not_eq_false, Bool.not_eq_false', ne_eq, Bool.and_eq_true, Bool.or_eq_true, true_eq_decide_iff, false_eq_decide_iff] at h)) <;> (try omega))
    | (refine Sm_split (fun h => ?_) (fun h => ?_) <;> (try (simp only [decide_eq_true_eq, decide_eq_false_iff_not, bne_iff_ne, beq_iff_eq, bne_eq_false_iff_eq, beq_eq_false_iff_ne, Bool.not_eq_true, Bool.not_eq_true', Bool.not_eq_false, Bool.not_eq_false', ne_eq, Bool.and_eq_true, Bool.or_eq_true, true_eq_decide_iff, false_eq_decide_iff] at h)) <;> (try omega))
    | (exact ret_p rfl ⟨rfl, rfl⟩)
    | (refine ret_okv (by first | trivial | simp only [go_sem, detD, detDs, detP, and_self, and_true]) ?_)
    | (exact ret_gen _ _ _ rfl rfl rfl ⟨rfl, rfl⟩)
    | (simp only [Option.some.injEq, DV.p.injEq, PV.int.injEq, true_and])
    | rfl
    | (refine Bool.eq_iff_iff.2 ?_; simp only [decide_eq_true_eq, Bool.and_eq_true, Bool.or_eq_true, Bool.not_eq_true', decide_eq_false_iff_not, Bool.false_eq_true, beq_iff_eq, bne_iff_ne, ne_eq, false_iff, iff_false, true_iff, iff_true]; omega)
    | omega)
  · refine Dm_loop [0, 1, 5] (fun m ds H' => ∃ i : Nat, i ≤ xs.length ∧ m = xs.length - i ∧ 0 ≤ n - xs.length - ((xs.take i).map List.length).sum ∧ ds = [.p (slS xs), .p (.int .i64 (n - xs.length - ((xs.take i).map List.length).sum)), .p (.int .i64 i)] ∧ H' = []) xs.length ⟨0, by omega, by omega, by simp; omega, by simp; rfl, rfl⟩ ?_
    rintro m ds H' ⟨i, hi, rfl, h0, rfl, rfl⟩ -
    have h1 := fun h : i < xs.length => s_take h
    have h2 := fun i : Nat => s_part (xs := xs) (i := i)
    have h3 := h2 (i + 1)
    have h4 := fun h : i < xs.length => hr _ (getD_mem (d := []) h)
    have h5 := fun h : i < xs.length => s_one h
    have hd : (default : Txt) = [] := rfl
    repeat' (first
      | (simp only [go_sem, reduceIte, Nat.reduceEqDiff])
      | (simp (disch := omega) only [w64, nadd1])
      | (refine Rm_need (by first | exact True.intro | omega | (simp; omega)) ?_)
      | (rw [hd])
      | (refine Rm_gi (by first | omega | (simp; omega)) ?_)
      | (refine Rm_gb (by first | omega | (simp; omega)) ?_)
      | (refine Rm_ga (by first | omega | (simp; omega)) _ rfl (Nat.le_of_ble_eq_true rfl) ?_)
      | (refine Rm_gm (by first | omega | (simp; omega)) _ rfl ?_)
      | (refine Rm_part _ _ rfl rfl ?_)
      | (refine Rm_puti (by first | omega | (simp; omega)) rfl ?_)
      | (refine Dm_draw [] (by simp) ?_)
      | (refine Tm_both ?_ ?_)
      | (refine Tm_fin (by simp only [hideOK, newsE]; simp []) ?_)
      | (refine Cm_split (fun h => ?_) (fun h => ?_) <;> (try (simp only [decide_eq_true_eq, decide_eq_false_iff_not] at h)) <;> (try omega))
      | (refine Gm_split (fun h => ?_) (fun h => ?_) <;> (try simp only [ne_eq, Bool.not_eq_true, Bool.not_eq_false] at h) <;> (try rw [h]) <;> (try (simp only [decide_eq_true_eq, decide_eq_false_iff_not, bne_iff_ne, beq_iff_eq, bne_eq_false_iff_eq, beq_eq_false_iff_ne, Bool.not_eq_true, Bool.not_eq_true', Bool.not_eq_false, Bool.not_eq_false', ne_eq, Bool.and_eq_true, Bool.or_eq_true, true_eq_decide_iff, false_eq_decide_iff] at h)) <;> (try omega))
      | (refine Sm_split (fun h => ?_) (fun h => ?_) <;> (try (simp only [decide_eq_true_eq, decide_eq_false_iff_not, bne_iff_ne, beq_iff_eq, bne_eq_false_iff_eq, beq_eq_false_iff_ne, Bool.not_eq_true, Bool.not_eq_true', Bool.not_eq_false, Bool.not_eq_false', ne_eq, Bool.and_eq_true, Bool.or_eq_true, true_eq_decide_iff, false_eq_decide_iff] at h)) <;> (try omega))
      | (exact ret_p rfl ⟨rfl, rfl⟩)
      | (refine ret_okv (by first | trivial | simp only [go_sem, detD, detDs, detP, and_self, and_true]) ?_)
      | (exact ret_gen _ _ _ rfl rfl rfl ⟨rfl, rfl⟩)
      | (simp only [Option.some.injEq, DV.p.injEq, PV.int.injEq, true_and])
      | rfl
      | (refine Bool.eq_iff_iff.2 ?_; simp only [decide_eq_true_eq, Bool.and_eq_true, Bool.or_eq_true, Bool.not_eq_true', decide_eq_false_iff_not, Bool.false_eq_true, beq_iff_eq, bne_iff_ne, ne_eq, false_iff, iff_false, true_iff, iff_true]; omega)
      | omega)
    all_goals first
      | (exact Xm_inv_n (xs.length - (i + 1)) (by omega) ⟨i + 1, by omega, rfl, by grind, by rw [h1 (by omega), show n - (xs.length : Int) - ((((xs.take i).map List.length).sum + (xs.getD i []).length : Nat) : Int) = n - (xs.length : Int) - (((xs.take i).map List.length).sum : Nat) - ((xs.getD i []).length : Nat) from by omega]; rfl, rfl⟩)
      | grind
      | (obtain rfl : i = xs.length := by omega
         rw [List.take_length] at *
         grind)
set_option maxRecDepth 100000 in
set_option maxHeartbeats 16000000 in
/-- laws.toStringS -/
theorem k_toStringS (xs : List Txt) (hb : xs.length ≤ 1048576) : Okw Try.prog 58 [slS xs] fun d H => d = .own 0 0 xs.length ∧ H = [.arr 9 1 (xs.map .str)] := by
  refine ok_D hmix c_laws_toStringS (by simp) ?_
  simp only [envOf, envFrom, go_sem, Nat.lt_add_one, reduceIte, Nat.reduceEqDiff]
  repeat' (first
    | (simp only [go_sem, reduceIte, Nat.reduceEqDiff])
    | (simp (disch := omega) only [nmul])
    | (refine Rm_need (by first | exact True.intro | omega | (simp; omega)) ?_)
    | (refine Rm_gi (by first | omega | (simp; omega)) ?_)
    | (refine Rm_gb (by first | omega | (simp; omega)) ?_)
    | (refine Rm_ga (by first | omega | (simp; omega)) _ rfl (Nat.le_of_ble_eq_true rfl) ?_)
    | (refine Rm_gm (by first | omega | (simp; omega)) _ rfl ?_)
    | (refine Rm_part _ _ rfl rfl ?_)
    | (refine Rm_puti (by first | omega | (simp; omega)) rfl ?_)
    | (refine Dm_draw [] (by simp) ?_)
    | (refine Tm_both ?_ ?_)
    | (refine Tm_fin (by simp only [hideOK, newsE]; simp []) ?_)
    | (refine Cm_split (fun h => ?_) (fun h => ?_) <;> (try (simp only [decide_eq_true_eq, decide_eq_false_iff_not, bne_iff_ne, beq_iff_eq, bne_eq_false_iff_eq, beq_eq_false_iff_ne, Bool.not_eq_true, Bool.not_eq_true', Bool.not_eq_false, Bool.not_eq_false', ne_eq, Bool.and_eq_true, Bool.or_eq_true, true_eq_decide_iff, false_eq_decide_iff] at h)) <;> (try omega))
    | (refine Gm_split (fun h => ?_) (fun h => ?_) <;> (try simp only [ne_eq, Bool.not_eq_true, Bool.not_eq_false] at h) <;> (try rw [h]) <;> (try (simp only [decide_eq_true_eq, decide_eq_false_iff_not, bne_iff_ne, beq_iff_eq, bne_eq_false_iff_eq, beq_eq_false_iff_ne, Bool.not_eq_true, Bool.not_eq_true', Bool.not_eq_false, Bool.not_eq_false', ne_eq, Bool.and_eq_true, Bool.or_eq_true, true_eq_decide_iff, false_eq_decide_iff] at h)) <;> (try omega))
    | (refine Sm_split (fun h => ?_) (fun h => ?_) <;> (try (simp only [decide_eq_true_eq, decide_eq_false_iff_not, bne_iff_ne, beq_iff_eq, bne_eq_false_iff_eq, beq_eq_false_iff_ne, Bool.not_eq_true, Bool.not_eq_true', Bool.not_eq_false, Bool.not_eq_false', ne_eq, Bool.and_eq_true, Bool.or_eq_true, true_eq_decide_iff, false_eq_decide_iff] at h)) <;> (try omega))
    | (exact ret_p rfl ⟨rfl, rfl⟩)
    | (refine ret_okv (by first | trivial | simp only [go_sem, detD, detDs, detP, and_self, and_true]) ?_)
    | (exact ret_gen _ _ _ rfl rfl rfl ⟨rfl, rfl⟩)
    | (simp only [Option.some.injEq, DV.tup.injEq, DV.p.injEq, List.cons.injEq, PV.int.injEq, PV.bool.injEq, PV.str.injEq, and_true, true_and])
    | rfl
    | (refine Bool.eq_iff_iff.2 ?_; simp only [decide_eq_true_eq, Bool.and_eq_true, Bool.or_eq_true, Bool.not_eq_true', decide_eq_false_iff_not, Bool.false_eq_true, beq_iff_eq, bne_iff_ne, ne_eq, false_iff, iff_false, true_iff, iff_true]; omega)
    | omega)
  refine Dm_loop [0, 3, 4] (fun m ds H' => ∃ i : Nat, i ≤ xs.length ∧ m = xs.length - i ∧ ds = [.p (slS xs), .own 0 0 xs.length, .p (.int .i64 i)] ∧ H' = [.arr 9 1 ((xs.take i ++ List.replicate (xs.length - i) ([] : Txt)).map .str)]) xs.length ⟨0, by omega, by omega, rfl, by simp; rfl⟩ ?_
  rintro m ds H' ⟨i, hi, rfl, rfl, rfl⟩ -
  have h1 := fun h : i < xs.length => fillD_step (d := ([] : Txt)) (z := ([] : Txt)) h
  have hd : (default : Txt) = [] := rfl
  have h3 : (xs.take i ++ List.replicate (xs.length - i) ([] : Txt)).length = xs.length := by simp; omega
  repeat' (first
    | (simp only [go_sem, reduceIte, Nat.reduceEqDiff])
    | (simp (disch := omega) only [w64, nadd1])
    | (refine Rm_need (by first | exact True.intro | omega | (simp; omega)) ?_)
    | (rw [hd])
    | (refine Rm_putw (by omega) (xs.getD i []) rfl rfl rfl ?_)
    | (refine Rm_gi (by first | omega | (simp; omega)) ?_)
    | (refine Rm_gb (by first | omega | (simp; omega)) ?_)
    | (refine Rm_ga (by first | omega | (simp; omega)) _ rfl (Nat.le_of_ble_eq_true rfl) ?_)
    | (refine Rm_gm (by first | omega | (simp; omega)) _ rfl ?_)
    | (refine Rm_part _ _ rfl rfl ?_)
    | (refine Rm_puti (by first | omega | (simp; omega)) rfl ?_)
    | (refine Dm_draw [] (by simp) ?_)
    | (refine Tm_both ?_ ?_)
    | (refine Tm_fin (by simp only [hideOK, newsE]; simp []) ?_)
    | (refine Cm_split (fun h => ?_) (fun h => ?_) <;> (try (simp only [decide_eq_true_eq, decide_eq_false_iff_not] at h)) <;> (try omega))
    | (refine Gm_split (fun h => ?_) (fun h => ?_) <;> (try simp only [ne_eq, Bool.not_eq_true, Bool.not_eq_false] at h) <;> (try rw [h]) <;> (try (simp only [decide_eq_true_eq, decide_eq_false_iff_not, bne_iff_ne, beq_iff_eq, bne_eq_false_iff_eq, beq_eq_false_iff_ne, Bool.not_eq_true, Bool.not_eq_true', Bool.not_eq_false, Bool.not_eq_false', ne_eq, Bool.and_eq_true, Bool.or_eq_true, true_eq_decide_iff, false_eq_decide_iff] at h)) <;> (try omega))
    | (refine Sm_split (fun h => ?_) (fun h => ?_) <;> (try (simp only [decide_eq_true_eq, decide_eq_false_iff_not, bne_iff_ne, beq_iff_eq, bne_eq_false_iff_eq, beq_eq_false_iff_ne, Bool.not_eq_true, Bool.not_eq_true', Bool.not_eq_false, Bool.not_eq_false', ne_eq, Bool.and_eq_true, Bool.or_eq_true, true_eq_decide_iff, false_eq_decide_iff] at h)) <;> (try omega))
    | (exact ret_p rfl ⟨rfl, rfl⟩)
    | (refine ret_okv (by first | trivial | simp only [go_sem, detD, detDs, detP, and_self, and_true]) ?_)
    | (exact ret_gen _ _ _ rfl rfl rfl ⟨rfl, rfl⟩)
    | (simp only [Option.some.injEq, DV.tup.injEq, DV.p.injEq, List.cons.injEq, PV.int.injEq, PV.bool.injEq, PV.str.injEq, and_true, true_and])
    | rfl
    | (refine Bool.eq_iff_iff.2 ?_; simp only [decide_eq_true_eq, Bool.and_eq_true, Bool.or_eq_true, Bool.not_eq_true', decide_eq_false_iff_not, Bool.false_eq_true, beq_iff_eq, bne_iff_ne, ne_eq, false_iff, iff_false, true_iff, iff_true]; omega)
    | omega)
  · rw [h1 (by omega)]
    exact Xm_inv_n (xs.length - (i + 1)) (by omega) ⟨i + 1, by omega, rfl, rfl, rfl⟩
  · obtain rfl : i = xs.length := by omega
    refine ret_gen _ _ _ rfl rfl rfl ⟨rfl, ?_⟩
    show [OB.arr _ _ ((xs.take xs.length ++ List.replicate (xs.length - xs.length) ([] : Txt)).map PV.str)] = _
    simp
set_option maxRecDepth 100000 in
set_option maxHeartbeats 16000000 in
/-- laws.eqStringS -/
theorem k_eqStringS (xs ys : List Txt) (hb : xs.length ≤ 1048576) : Okv Try.prog 29 [slS xs, slS ys] (.p (.bool (decide (xs = ys)))) := by
  refine ok_D hmix c_laws_eqStringS (by simp) ?_
  simp only [envOf, envFrom, go_sem, reduceIte, Nat.reduceEqDiff]
  by_cases hl : xs.length = ys.length
  · repeat' (first
      | (simp only [go_sem])
      | (simp (disch := omega) only [w64, w8, bytesOf_cons, tmod10, tdiv10, tn48, nsub1, nadd1, nsub, nadd, nmul, List.take_length, Int.toNat_zero, Int.reduceAdd, Int.reduceSub, Int.reduceToNat, Int.reduceMul, Nat.sub_zero, Nat.min_self])
      | (refine Rm_need (by first | exact True.intro | omega | (simp; omega)) ?_)
      | (refine Rm_gi (by first | omega | (simp; omega)) ?_)
      | (refine Rm_gb (by first | omega | (simp; omega)) ?_)
      | (refine Rm_ga (by first | omega | (simp; omega)) _ rfl (Nat.le_of_ble_eq_true rfl) ?_)
      | (refine Rm_gm (by first | omega | (simp; omega)) _ rfl ?_)
      | (refine Rm_part _ _ rfl rfl ?_)
      | (refine Rm_puti (by first | omega | (simp; omega)) rfl ?_)
      | (refine Dm_draw [] (by simp) ?_)
      | (refine Tm_both ?_ ?_)
      | (refine Tm_fin (by simp only [hideOK, newsE]; simp []) ?_)
      | (refine Cm_split (fun h => ?_) (fun h => ?_) <;> (try (simp only [bne_iff_ne, bne_eq_false_iff_eq, ne_eq] at h)) <;> (try omega))
      | (refine Gm_split (fun h => ?_) (fun h => ?_) <;> (try simp only [ne_eq, Bool.not_eq_true, Bool.not_eq_false] at h) <;> (try rw [h]) <;> (try (simp only [decide_eq_true_eq, decide_eq_false_iff_not, bne_iff_ne, beq_iff_eq, bne_eq_false_iff_eq, beq_eq_false_iff_ne, Bool.not_eq_true, Bool.not_eq_true', Bool.not_eq_false, Bool.not_eq_false', ne_eq, Bool.and_eq_true, Bool.or_eq_true, true_eq_decide_iff, false_eq_decide_iff] at h)) <;> (try omega))
      | (refine Sm_split (fun h => ?_) (fun h => ?_) <;> (try (simp only [decide_eq_true_eq, decide_eq_false_iff_not, bne_iff_ne, beq_iff_eq, bne_eq_false_iff_eq, beq_eq_false_iff_ne, Bool.not_eq_true, Bool.not_eq_true', Bool.not_eq_false, Bool.not_eq_false', ne_eq, Bool.and_eq_true, Bool.or_eq_true, true_eq_decide_iff, false_eq_decide_iff] at h)) <;> (try omega))
      | (exact ret_p rfl ⟨rfl, rfl⟩)
      | (refine ret_okv (by first | trivial | simp only [go_sem, detD, detDs, detP, and_self, and_true]) ?_)
      | (exact ret_gen _ _ _ rfl rfl rfl ⟨rfl, rfl⟩)
      | (simp only [Option.some.injEq, DV.tup.injEq, DV.p.injEq, List.cons.injEq, PV.int.injEq, PV.bool.injEq, PV.str.injEq, and_true, true_and])
      | rfl
      | (refine Bool.eq_iff_iff.2 ?_; simp only [decide_eq_true_eq, Bool.and_eq_true, Bool.or_eq_true, Bool.not_eq_true', decide_eq_false_iff_not, Bool.false_eq_true, beq_iff_eq, bne_iff_ne, ne_eq, false_iff, iff_false, true_iff, iff_true]; omega)
      | omega)
    refine Dm_loop [0, 1, 5] (fun m ds H' => ∃ i : Nat, i ≤ xs.length ∧ m = xs.length - i ∧ xs.take i = ys.take i ∧ ds = [.p (slS xs), .p (slS ys), .p (.int .i64 i)] ∧ H' = []) xs.length ⟨0, by simp, by simp, by simp, rfl, rfl⟩ ?_
    rintro m ds H' ⟨i, hi', rfl, hall, rfl, rfl⟩ -
    have hd : (default : Txt) = [] := rfl
    have hx := fun h : i < xs.length => take_snoc (d := ([] : Txt)) h
    have hy := fun h : i < ys.length => take_snoc (d := ([] : Txt)) h
    repeat' (first
      | (simp only [go_sem, reduceIte, Nat.reduceEqDiff])
      | (simp (disch := omega) only [w64, nadd1])
      | (refine Rm_need (by first | exact True.intro | omega | (simp; omega)) ?_)
      | (rw [hd])
      | (refine Rm_gi (by first | omega | (simp; omega)) ?_)
      | (refine Rm_gb (by first | omega | (simp; omega)) ?_)
      | (refine Rm_ga (by first | omega | (simp; omega)) _ rfl (Nat.le_of_ble_eq_true rfl) ?_)
      | (refine Rm_gm (by first | omega | (simp; omega)) _ rfl ?_)
      | (refine Rm_part _ _ rfl rfl ?_)
      | (refine Rm_puti (by first | omega | (simp; omega)) rfl ?_)
      | (refine Dm_draw [] (by simp) ?_)
      | (refine Tm_both ?_ ?_)
      | (refine Tm_fin (by simp only [hideOK, newsE]; simp []) ?_)
      | (refine Cm_split (fun h => ?_) (fun h => ?_) <;> (try (simp only [decide_eq_true_eq, decide_eq_false_iff_not, beq_iff_eq, beq_eq_false_iff_ne, Bool.not_eq_true', Bool.not_eq_false', ne_eq] at h)) <;> (try omega))
      | (refine Gm_split (fun h => ?_) (fun h => ?_) <;> (try simp only [ne_eq, Bool.not_eq_true, Bool.not_eq_false] at h) <;> (try rw [h]) <;> (try (simp only [decide_eq_true_eq, decide_eq_false_iff_not, bne_iff_ne, beq_iff_eq, bne_eq_false_iff_eq, beq_eq_false_iff_ne, Bool.not_eq_true, Bool.not_eq_true', Bool.not_eq_false, Bool.not_eq_false', ne_eq, Bool.and_eq_true, Bool.or_eq_true, true_eq_decide_iff, false_eq_decide_iff] at h)) <;> (try omega))
      | (refine Sm_split (fun h => ?_) (fun h => ?_) <;> (try (simp only [decide_eq_true_eq, decide_eq_false_iff_not, bne_iff_ne, beq_iff_eq, bne_eq_false_iff_eq, beq_eq_false_iff_ne, Bool.not_eq_true, Bool.not_eq_true', Bool.not_eq_false, Bool.not_eq_false', ne_eq, Bool.and_eq_true, Bool.or_eq_true, true_eq_decide_iff, false_eq_decide_iff] at h)) <;> (try omega))
      | (exact ret_p rfl ⟨rfl, rfl⟩)
      | (refine ret_okv (by first | trivial | simp only [go_sem, detD, detDs, detP, and_self, and_true]) ?_)
      | (exact ret_gen _ _ _ rfl rfl rfl ⟨rfl, rfl⟩)
      | (simp only [Option.some.injEq, DV.p.injEq, PV.bool.injEq])
      | rfl
      | (refine Bool.eq_iff_iff.2 ?_; simp only [decide_eq_true_eq, Bool.false_eq_true, false_iff, true_iff]; omega)
      | omega)
    all_goals first
      | (refine Xm_inv_n (xs.length - (i + 1)) (by omega) ⟨i + 1, by omega, rfl, ?_, rfl, rfl⟩
         rw [hx (by omega), hy (by omega)]; grind)
      | (have hne : ¬ xs = ys := by rintro rfl; exact absurd rfl (by assumption)
         simp [hne]; done)
      | (obtain rfl : i = xs.length := by omega
         rw [List.take_length, hl, List.take_length] at hall
         simp [hall])
  · have hne : ¬ xs = ys := by rintro rfl; exact hl rfl
    repeat' (first
      | (simp only [go_sem, reduceIte, Nat.reduceEqDiff])
      | (simp (disch := omega) only [w64, w8, bytesOf_cons, tmod10, tdiv10, tn48, nsub1, nadd1, nsub, nadd, nmul, List.take_length, Int.toNat_zero, Int.reduceAdd, Int.reduceSub, Int.reduceToNat, Int.reduceMul, Nat.sub_zero, Nat.min_self])
      | (refine Rm_need (by first | exact True.intro | omega | (simp; omega)) ?_)
      | (refine Rm_gi (by first | omega | (simp; omega)) ?_)
      | (refine Rm_gb (by first | omega | (simp; omega)) ?_)
      | (refine Rm_ga (by first | omega | (simp; omega)) _ rfl (Nat.le_of_ble_eq_true rfl) ?_)
      | (refine Rm_gm (by first | omega | (simp; omega)) _ rfl ?_)
      | (refine Rm_part _ _ rfl rfl ?_)
      | (refine Rm_puti (by first | omega | (simp; omega)) rfl ?_)
      | (refine Dm_draw [] (by simp) ?_)
      | (refine Tm_both ?_ ?_)
      | (refine Tm_fin (by simp only [hideOK, newsE]; simp []) ?_)
      | (refine Cm_split (fun h => ?_) (fun h => ?_) <;> (try (simp only [bne_iff_ne, bne_eq_false_iff_eq, ne_eq] at h)) <;> (try omega))
      | (refine Gm_split (fun h => ?_) (fun h => ?_) <;> (try simp only [ne_eq, Bool.not_eq_true, Bool.not_eq_false] at h) <;> (try rw [h]) <;> (try (simp only [decide_eq_true_eq, decide_eq_false_iff_not, bne_iff_ne, beq_iff_eq, bne_eq_false_iff_eq, beq_eq_false_iff_ne, Bool.not_eq_true, Bool.not_eq_true', Bool.not_eq_false, Bool.not_eq_false', ne_eq, Bool.and_eq_true, Bool.or_eq_true, true_eq_decide_iff, false_eq_decide_iff] at h)) <;> (try omega))
      | (refine Sm_split (fun h => ?_) (fun h => ?_) <;> (try (simp only [decide_eq_true_eq, decide_eq_false_iff_not, bne_iff_ne, beq_iff_eq, bne_eq_false_iff_eq, beq_eq_false_iff_ne, Bool.not_eq_true, Bool.not_eq_true', Bool.not_eq_false, Bool.not_eq_false', ne_eq, Bool.and_eq_true, Bool.or_eq_true, true_eq_decide_iff, false_eq_decide_iff] at h)) <;> (try omega))
      | (exact ret_p rfl ⟨rfl, rfl⟩)
      | (refine ret_okv (by first | trivial | simp only [go_sem, detD, detDs, detP, and_self, and_true]) ?_)
      | (exact ret_gen _ _ _ rfl rfl rfl ⟨rfl, rfl⟩)
      | (simp only [Option.some.injEq, DV.p.injEq, PV.bool.injEq])
      | rfl
      | (refine Bool.eq_iff_iff.2 ?_; simp only [decide_eq_true_eq, Bool.false_eq_true, false_iff]; omega)
      | omega)
    all_goals simp [hne]
def mts (k : Int) (n : Nat) : List Txt := (List.range n).map fun i : Nat => mtO (k + i)
theorem mts_len {k : Int} {n : Nat} : (mts k n).length = n := by simp [mts]
attribute [simp] mts_len
theorem mts_get {k : Int} {n i : Nat} (h : i < n) : (mts k n).getD i [] = mtO (k + i) := by simp [mts, List.getD_eq_getElem?_getD, h]
theorem mts_succ {k : Int} {n : Nat} : mts k (n + 1) = mts k n ++ [mtO (k + n)] := by simp [mts, List.range_succ]
theorem mts_step {k : Int} {ys : List Txt} {i : Nat} (h : i < ys.length) : (mts k i ++ ys.drop i).set i (mtO (k + i)) = mts k (i + 1) ++ ys.drop (i + 1) := by
  rw [List.set_append_right _ _ (by rw [mts_len]; omega), mts_len, Nat.sub_self, mts_succ, List.append_assoc]
  congr 1
  rw [List.drop_eq_getElem_cons h]
  rfl
set_option maxRecDepth 100000 in
set_option maxHeartbeats 16000000 in
/-- laws.markStringS -/
theorem k_markStringS (ys : List Txt) (k : Int) (hb : ys.length ≤ 1048576) (hk : 0 < k ∧ k ≤ 1099511627776) : Ok Try.prog 30 [.own 0 0 ys.length, .p (.int .i64 k)] [.arr 9 1 (ys.map .str)]
    fun d H => d = .p (.int .i64 (k + ys.length)) ∧ H = [.arr 9 1 ((mts k ys.length).map .str)] := by
  refine ok_D hmix c_laws_markStringS (by simp) ?_
  simp only [envOf, envFrom, go_sem]
  refine Dm_loop [0, 1, 5] (fun m ds H' => ∃ i : Nat, i ≤ ys.length ∧ m = ys.length - i ∧ ds = [.own 0 0 ys.length, .p (.int .i64 (k + i)), .p (.int .i64 i)] ∧ H' = [.arr 9 1 ((mts k i ++ ys.drop i).map .str)]) ys.length ⟨0, by simp, by simp, by simp; rfl, rfl⟩ ?_
  rintro m ds H' ⟨i, hi, rfl, rfl, rfl⟩ -
  have hL : (mts k i ++ ys.drop i).length = ys.length := by rw [List.length_append, mts_len, List.length_drop]; omega
  have hstep := fun h : i < ys.length => mts_step (k := k) h
  have hfin : i = ys.length → mts k i ++ ys.drop i = mts k ys.length := by rintro rfl; simp
  generalize mts k i ++ ys.drop i = L at *
  repeat' (first
    | (simp only [go_sem, reduceIte, Nat.reduceEqDiff])
    | (simp (disch := omega) only [w64, nadd1])
    | (refine Rm_need (by first | exact True.intro | omega | (simp; omega)) ?_)
    | (refine Rm_w rfl (k_markText _ (by omega)) (by trivial) ?_)
    | (refine Rm_w ?_ (k_markText _ (by omega)) (by trivial) ?_; · (simp [viewOfs, viewOf, List.take_of_length_le, cutL]; done))
    | (refine Rm_putw (by omega) (mtO (k + i)) rfl rfl rfl ?_)
    | (refine Rm_gi (by first | omega | (simp; omega)) ?_)
    | (refine Rm_gb (by first | omega | (simp; omega)) ?_)
    | (refine Rm_ga (by first | omega | (simp; omega)) _ rfl (Nat.le_of_ble_eq_true rfl) ?_)
    | (refine Rm_gm (by first | omega | (simp; omega)) _ rfl ?_)
    | (refine Rm_part _ _ rfl rfl ?_)
    | (refine Rm_puti (by first | omega | (simp; omega)) rfl ?_)
    | (refine Dm_draw [] (by simp) ?_)
    | (refine Tm_both ?_ ?_)
    | (refine Tm_fin (by simp only [hideOK, newsE]; simp []) ?_)
    | (refine Cm_split (fun h => ?_) (fun h => ?_) <;> (try (simp only [decide_eq_true_eq, decide_eq_false_iff_not] at h)) <;> (try omega))
    | (refine Gm_split (fun h => ?_) (fun h => ?_) <;> (try simp only [ne_eq, Bool.not_eq_true, Bool.not_eq_false] at h) <;> (try rw [h]) <;> (try (simp only [decide_eq_true_eq, decide_eq_false_iff_not, bne_iff_ne, beq_iff_eq, bne_eq_false_iff_eq, beq_eq_false_iff_ne, Bool.not_eq_true, Bool.not_eq_true', Bool.not_eq_false, Bool.not_eq_false', ne_eq, Bool.and_eq_true, Bool.or_eq_true, true_eq_decide_iff, false_eq_decide_iff] at h)) <;> (try omega))
    | (refine Sm_split (fun h => ?_) (fun h => ?_) <;> (try (simp only [decide_eq_true_eq, decide_eq_false_iff_not, bne_iff_ne, beq_iff_eq, bne_eq_false_iff_eq, beq_eq_false_iff_ne, Bool.not_eq_true, Bool.not_eq_true', Bool.not_eq_false, Bool.not_eq_false', ne_eq, Bool.and_eq_true, Bool.or_eq_true, true_eq_decide_iff, false_eq_decide_iff] at h)) <;> (try omega))
    | (exact ret_p rfl ⟨rfl, rfl⟩)
    | (refine ret_okv (by first | trivial | simp only [go_sem, detD, detDs, detP, and_self, and_true]) ?_)
    | (exact ret_gen _ _ _ rfl rfl rfl ⟨rfl, rfl⟩)
    | (simp only [Option.some.injEq, DV.tup.injEq, DV.p.injEq, List.cons.injEq, PV.int.injEq, PV.bool.injEq, PV.str.injEq, and_true, true_and])
    | rfl
    | (refine Bool.eq_iff_iff.2 ?_; simp only [decide_eq_true_eq, Bool.and_eq_true, Bool.or_eq_true, Bool.not_eq_true', decide_eq_false_iff_not, Bool.false_eq_true, beq_iff_eq, bne_iff_ne, ne_eq, false_iff, iff_false, true_iff, iff_true]; omega)
    | omega)
  · have e : (L.set i (mtO (k + i))) = _ := hstep (by omega)
    refine Xm_inv_n (ys.length - (i + 1)) (by omega) ⟨i + 1, by omega, rfl, ?_, ?_⟩
    · rw [show k + ((i + 1 : Nat) : Int) = k + i + 1 from by omega]
      rfl
    · rw [← e]
      rfl
  · obtain rfl : i = ys.length := by omega
    rw [hfin rfl]
    refine ret_gen _ _ _ rfl rfl rfl ⟨rfl, rfl⟩
set_option maxRecDepth 100000 in
set_option maxHeartbeats 16000000 in
/-- laws.markStringS, of no row -/
theorem k_markStringN (j : Nat) (k : Int) : Okv Try.prog 30 [.sl j [], .int .i64 k] (.p (.int .i64 k)) := by
  refine ok_D hmix c_laws_markStringS (by simp) ?_
  simp only [envOf, envFrom, go_sem]
  refine Dm_loop [0, 1, 5] (fun m ds H' => ds = [.p (.sl j []), .p (.int .i64 k), .p (.int .i64 0)] ∧ H' = []) 0 ⟨rfl, rfl⟩ ?_
  rintro m ds H' ⟨rfl, rfl⟩ -
  repeat' (first
    | (simp only [go_sem, reduceIte, Nat.reduceEqDiff])
    | (simp (disch := omega) only [w64, w8, bytesOf_cons, tmod10, tdiv10, tn48, nsub1, nadd1, nsub, nadd, nmul, List.take_length, Int.toNat_zero, Int.reduceAdd, Int.reduceSub, Int.reduceToNat, Int.reduceMul, Nat.sub_zero, Nat.min_self])
    | (refine Rm_need (by first | exact True.intro | omega | (simp; omega)) ?_)
    | (refine Rm_gi (by first | omega | (simp; omega)) ?_)
    | (refine Rm_gb (by first | omega | (simp; omega)) ?_)
    | (refine Rm_ga (by first | omega | (simp; omega)) _ rfl (Nat.le_of_ble_eq_true rfl) ?_)
    | (refine Rm_gm (by first | omega | (simp; omega)) _ rfl ?_)
    | (refine Rm_part _ _ rfl rfl ?_)
    | (refine Rm_puti (by first | omega | (simp; omega)) rfl ?_)
    | (refine Dm_draw [] (by simp) ?_)
    | (refine Tm_both ?_ ?_)
    | (refine Tm_fin (by simp only [hideOK, newsE]; simp []) ?_)
    | (refine Cm_split (fun h => ?_) (fun h => ?_) <;> (try (simp only [decide_eq_true_eq, decide_eq_false_iff_not] at h)) <;> (try omega))
    | (refine Gm_split (fun h => ?_) (fun h => ?_) <;> (try simp only [ne_eq, Bool.not_eq_true, Bool.not_eq_false] at h) <;> (try rw [h]) <;> (try (simp only [decide_eq_true_eq, decide_eq_false_iff_not, bne_iff_ne, beq_iff_eq, bne_eq_false_iff_eq, beq_eq_false_iff_ne, Bool.not_eq_true, Bool.not_eq_true', Bool.not_eq_false, Bool.not_eq_false', ne_eq, Bool.and_eq_true, Bool.or_eq_true, true_eq_decide_iff, false_eq_decide_iff] at h)) <;> (try omega))
    | (refine Sm_split (fun h => ?_) (fun h => ?_) <;> (try (simp only [decide_eq_true_eq, decide_eq_false_iff_not, bne_iff_ne, beq_iff_eq, bne_eq_false_iff_eq, beq_eq_false_iff_ne, Bool.not_eq_true, Bool.not_eq_true', Bool.not_eq_false, Bool.not_eq_false', ne_eq, Bool.and_eq_true, Bool.or_eq_true, true_eq_decide_iff, false_eq_decide_iff] at h)) <;> (try omega))
    | (exact ret_p rfl ⟨rfl, rfl⟩)
    | (refine ret_okv (by first | trivial | simp only [go_sem, detD, detDs, detP, and_self, and_true]) ?_)
    | (exact ret_gen _ _ _ rfl rfl rfl ⟨rfl, rfl⟩)
    | (simp only [Option.some.injEq, DV.tup.injEq, DV.p.injEq, List.cons.injEq, PV.int.injEq, PV.bool.injEq, PV.str.injEq, and_true, true_and])
    | rfl
    | (refine Bool.eq_iff_iff.2 ?_; simp only [decide_eq_true_eq, Bool.and_eq_true, Bool.or_eq_true, Bool.not_eq_true', decide_eq_false_iff_not, Bool.false_eq_true, beq_iff_eq, bne_iff_ne, ne_eq, false_iff, iff_false, true_iff, iff_true]; omega)
    | omega)
set_option maxRecDepth 100000 in
set_option maxHeartbeats 16000000 in
/-- laws.heldStringS -/
theorem k_heldStringS (n : Nat) (k : Int) (hb : n ≤ 1048576) (hk : 0 < k ∧ k ≤ 1099511627776) : Okv Try.prog 31 [slS (mts k n), .int .i64 k] (.p (.int .i64 (k + n))) := by
  refine ok_D hmix c_laws_heldStringS (by simp) ?_
  have hl : (mts k n).length = n := mts_len
  simp only [envOf, envFrom, go_sem]
  refine Dm_loop [0, 1, 5] (fun m ds H' => ∃ i : Nat, i ≤ n ∧ m = n - i ∧ ds = [.p (slS (mts k n)), .p (.int .i64 (k + i)), .p (.int .i64 i)] ∧ H' = []) n ⟨0, by simp, by simp, by simp; rfl, rfl⟩ ?_
  rintro m ds H' ⟨i, hi, rfl, rfl, rfl⟩ -
  have hd : (default : Txt) = [] := rfl
  have hg := fun h : i < n => mts_get (k := k) h
  generalize mts k n = L at *
  repeat' (first
    | (simp only [go_sem, reduceIte, Nat.reduceEqDiff])
    | (simp (disch := omega) only [w64, nadd1])
    | (refine Rm_need (by first | exact True.intro | omega | (simp; omega)) ?_)
    | (rw [hd])
    | (rw [hg (by omega)])
    | (refine Rm_w rfl (k_markText _ (by omega)) (by trivial) ?_)
    | (refine Rm_w ?_ (k_markText _ (by omega)) (by trivial) ?_; · (simp [viewOfs, viewOf, List.take_of_length_le, cutL]; done))
    | (refine Rm_gi (by first | omega | (simp; omega)) ?_)
    | (refine Rm_gb (by first | omega | (simp; omega)) ?_)
    | (refine Rm_ga (by first | omega | (simp; omega)) _ rfl (Nat.le_of_ble_eq_true rfl) ?_)
    | (refine Rm_gm (by first | omega | (simp; omega)) _ rfl ?_)
    | (refine Rm_part _ _ rfl rfl ?_)
    | (refine Rm_puti (by first | omega | (simp; omega)) rfl ?_)
    | (refine Dm_draw [] (by simp) ?_)
    | (refine Tm_both ?_ ?_)
    | (refine Tm_fin (by simp only [hideOK, newsE]; simp []) ?_)
    | (refine Cm_split (fun h => ?_) (fun h => ?_) <;> (try (simp only [decide_eq_true_eq, decide_eq_false_iff_not] at h)) <;> (try omega))
    | (refine Gm_split (fun h => ?_) (fun h => ?_) <;> (try simp only [ne_eq, Bool.not_eq_true, Bool.not_eq_false] at h) <;> (try rw [h]) <;> (try (simp only [decide_eq_true_eq, decide_eq_false_iff_not, bne_iff_ne, beq_iff_eq, bne_eq_false_iff_eq, beq_eq_false_iff_ne, Bool.not_eq_true, Bool.not_eq_true', Bool.not_eq_false, Bool.not_eq_false', ne_eq, Bool.and_eq_true, Bool.or_eq_true, true_eq_decide_iff, false_eq_decide_iff] at h)) <;> (try omega))
    | (refine Sm_split (fun h => ?_) (fun h => ?_) <;> (try (simp only [decide_eq_true_eq, decide_eq_false_iff_not, bne_iff_ne, beq_iff_eq, bne_eq_false_iff_eq, beq_eq_false_iff_ne, Bool.not_eq_true, Bool.not_eq_true', Bool.not_eq_false, Bool.not_eq_false', ne_eq, Bool.and_eq_true, Bool.or_eq_true, true_eq_decide_iff, false_eq_decide_iff] at h)) <;> (try omega))
    | (exact ret_p rfl ⟨rfl, rfl⟩)
    | (refine ret_okv (by first | trivial | simp only [go_sem, detD, detDs, detP, and_self, and_true]) ?_)
    | (exact ret_gen _ _ _ rfl rfl rfl ⟨rfl, rfl⟩)
    | (simp only [Option.some.injEq, DV.p.injEq, PV.int.injEq, true_and])
    | rfl
    | (refine Bool.eq_iff_iff.2 ?_; simp only [decide_eq_true_eq, Bool.and_eq_true, Bool.or_eq_true, Bool.not_eq_true', decide_eq_false_iff_not, Bool.false_eq_true, beq_iff_eq, bne_iff_ne, ne_eq, false_iff, iff_false, true_iff, iff_true]; omega)
    | omega)
  · refine Xm_inv_n (n - (i + 1)) (by omega) ⟨i + 1, by omega, rfl, ?_, rfl⟩
    rw [show k + ((i + 1 : Nat) : Int) = k + i + 1 from by omega]
    rfl
set_option maxRecDepth 100000 in
set_option maxHeartbeats 16000000 in
/-- laws.heldStringS, of no row -/
theorem k_heldStringN (j : Nat) (k : Int) : Okv Try.prog 31 [.sl j [], .int .i64 k] (.p (.int .i64 k)) := by
  refine ok_D hmix c_laws_heldStringS (by simp) ?_
  simp only [envOf, envFrom, go_sem]
  refine Dm_loop [0, 1, 5] (fun m ds H' => ds = [.p (.sl j []), .p (.int .i64 k), .p (.int .i64 0)] ∧ H' = []) 0 ⟨rfl, rfl⟩ ?_
  rintro m ds H' ⟨rfl, rfl⟩ -
  repeat' (first
    | (simp only [go_sem, reduceIte, Nat.reduceEqDiff])
    | (simp (disch := omega) only [w64, w8, bytesOf_cons, tmod10, tdiv10, tn48, nsub1, nadd1, nsub, nadd, nmul, List.take_length, Int.toNat_zero, Int.reduceAdd, Int.reduceSub, Int.reduceToNat, Int.reduceMul, Nat.sub_zero, Nat.min_self])
    | (refine Rm_need (by first | exact True.intro | omega | (simp; omega)) ?_)
    | (refine Rm_gi (by first | omega | (simp; omega)) ?_)
    | (refine Rm_gb (by first | omega | (simp; omega)) ?_)
    | (refine Rm_ga (by first | omega | (simp; omega)) _ rfl (Nat.le_of_ble_eq_true rfl) ?_)
    | (refine Rm_gm (by first | omega | (simp; omega)) _ rfl ?_)
    | (refine Rm_part _ _ rfl rfl ?_)
    | (refine Rm_puti (by first | omega | (simp; omega)) rfl ?_)
    | (refine Dm_draw [] (by simp) ?_)
    | (refine Tm_both ?_ ?_)
    | (refine Tm_fin (by simp only [hideOK, newsE]; simp []) ?_)
    | (refine Cm_split (fun h => ?_) (fun h => ?_) <;> (try (simp only [decide_eq_true_eq, decide_eq_false_iff_not] at h)) <;> (try omega))
    | (refine Gm_split (fun h => ?_) (fun h => ?_) <;> (try simp only [ne_eq, Bool.not_eq_true, Bool.not_eq_false] at h) <;> (try rw [h]) <;> (try (simp only [decide_eq_true_eq, decide_eq_false_iff_not, bne_iff_ne, beq_iff_eq, bne_eq_false_iff_eq, beq_eq_false_iff_ne, Bool.not_eq_true, Bool.not_eq_true', Bool.not_eq_false, Bool.not_eq_false', ne_eq, Bool.and_eq_true, Bool.or_eq_true, true_eq_decide_iff, false_eq_decide_iff] at h)) <;> (try omega))
    | (refine Sm_split (fun h => ?_) (fun h => ?_) <;> (try (simp only [decide_eq_true_eq, decide_eq_false_iff_not, bne_iff_ne, beq_iff_eq, bne_eq_false_iff_eq, beq_eq_false_iff_ne, Bool.not_eq_true, Bool.not_eq_true', Bool.not_eq_false, Bool.not_eq_false', ne_eq, Bool.and_eq_true, Bool.or_eq_true, true_eq_decide_iff, false_eq_decide_iff] at h)) <;> (try omega))
    | (exact ret_p rfl ⟨rfl, rfl⟩)
    | (refine ret_okv (by first | trivial | simp only [go_sem, detD, detDs, detP, and_self, and_true]) ?_)
    | (exact ret_gen _ _ _ rfl rfl rfl ⟨rfl, rfl⟩)
    | (simp only [Option.some.injEq, DV.tup.injEq, DV.p.injEq, List.cons.injEq, PV.int.injEq, PV.bool.injEq, PV.str.injEq, and_true, true_and])
    | rfl
    | (refine Bool.eq_iff_iff.2 ?_; simp only [decide_eq_true_eq, Bool.and_eq_true, Bool.or_eq_true, Bool.not_eq_true', decide_eq_false_iff_not, Bool.false_eq_true, beq_iff_eq, bne_iff_ne, ne_eq, false_iff, iff_false, true_iff, iff_true]; omega)
    | omega)
end Go.Proofs.Ytchekagoaidlpaa

import Derived.Test.YtgpalnoopmjlpaaRec5
namespace Go.Proofs.Ytgpalnoopmjlpaa
open Go.Dv Go.Dv.EvL
attribute [local irreducible] Ok Rm Dm Om Sm Xm Cm Gm Hm Tm

theorem rcd_row {a : Int} {b : List UInt8} : [PV.agg [.int .i64 a, .str b]] = ([(⟨a, b⟩ : Rcd)]).map Rcd.pv := rfl
set_option maxRecDepth 100000 in
set_option maxHeartbeats 16000000 in
/-- impl.IsValidRecording, of no row -/
theorem k_iRecs0 (j : Nat) : Okv Try.prog 17 [.sl j []] (.p (.bool true)) := by
  refine ok_D hmix c_impl_IsValidRecording (by simp) ?_
  simp only [envOf, envFrom, go_sem, reduceIte, Nat.reduceEqDiff]
  repeat' (first
    | (simp only [go_sem, reduceIte, Nat.reduceEqDiff])
    | (simp (disch := omega) only [w64, w8, bytesOf_cons, tmod10, tdiv10, tn48, nsub1, nadd1, nsub, nadd, nmul, List.take_length, Int.toNat_zero, Int.reduceAdd, Int.reduceSub, Int.reduceToNat, Int.reduceMul, Nat.sub_zero, Nat.min_self])
    | (refine Rm_need (by first | exact True.intro | omega | (simp; omega)) ?_)
    | (refine Rm_gi (by first | omega | (simp; omega)) ?_)
    | (refine Rm_gb (by first | omega | (simp; omega)) ?_)
    | (refine Rm_ga (by first | omega | (simp; omega)) _ rfl (Nat.le_of_ble_eq_true rfl) ?_)
    | (refine Rm_gm (by first | omega | (simp; omega)) _ rfl ?_)
    | (refine Rm_part _ _ rfl rfl ?_)
    | (refine Rm_puti (by first | omega | (simp; omega)) rfl ?_)
    | (refine Dm_draw [] (by simp) ?_)
    | (refine Tm_both ?_ ?_)
    | (refine Tm_fin (by simp only [hideOK, newsE]; simp []) ?_)
    | (refine Cm_split (fun h => ?_) (fun h => ?_) <;> (try (simp only [decide_eq_true_eq, decide_eq_false_iff_not] at h)) <;> (try omega))
    | (refine Gm_split (fun h => ?_) (fun h => ?_) <;> (try simp only [ne_eq, Bool.not_eq_true, Bool.not_eq_false] at h) <;> (try rw [h]) <;> (try (simp only [decide_eq_true_eq, decide_eq_false_iff_not, bne_iff_ne, beq_iff_eq, bne_eq_false_iff_eq, beq_eq_false_iff_ne, Bool.not_eq_true, Bool.not_eq_true', Bool.not_eq_false, Bool.not_eq_false', ne_eq, Bool.and_eq_true, Bool.or_eq_true, true_eq_decide_iff, false_eq_decide_iff] at h)) <;> (try omega))
    | (refine Sm_split (fun h => ?_) (fun h => ?_) <;> (try (simp only [decide_eq_true_eq, decide_eq_false_iff_not, bne_iff_ne, beq_iff_eq, bne_eq_false_iff_eq, beq_eq_false_iff_ne, Bool.not_eq_true, Bool.not_eq_true', Bool.not_eq_false, Bool.not_eq_false', ne_eq, Bool.and_eq_true, Bool.or_eq_true, true_eq_decide_iff, false_eq_decide_iff] at h)) <;> (try omega))
    | (exact ret_p rfl ⟨rfl, rfl⟩)
    | (refine ret_okv (by first | trivial | simp only [go_sem, detD, detDs, detP, and_self, and_true]) ?_)
    | (exact ret_gen _ _ _ rfl rfl rfl ⟨rfl, rfl⟩)
    | (simp only [Option.some.injEq, DV.tup.injEq, DV.p.injEq, List.cons.injEq, PV.int.injEq, PV.bool.injEq, PV.str.injEq, and_true, true_and])
    | rfl
    | (refine Bool.eq_iff_iff.2 ?_; simp only [decide_eq_true_eq, Bool.and_eq_true, Bool.or_eq_true, Bool.not_eq_true', decide_eq_false_iff_not, Bool.false_eq_true, beq_iff_eq, bne_iff_ne, ne_eq, false_iff, iff_false, true_iff, iff_true]; omega)
    | omega)
  refine Dm_loop [0, 8, 9, 10] (fun m ds H' => ds = [.p (.sl j []), .p (.sl j []), .p (.int .i64 0), .p (.int .i64 0)] ∧ H' = []) 0 ⟨rfl, rfl⟩ ?_
  rintro m ds H' ⟨rfl, rfl⟩ -
  repeat' (first
    | (simp only [go_sem, reduceIte, Nat.reduceEqDiff])
    | (simp (disch := omega) only [w64, w8, bytesOf_cons, tmod10, tdiv10, tn48, nsub1, nadd1, nsub, nadd, nmul, List.take_length, Int.toNat_zero, Int.reduceAdd, Int.reduceSub, Int.reduceToNat, Int.reduceMul, Nat.sub_zero, Nat.min_self])
    | (refine Rm_need (by first | exact True.intro | omega | (simp; omega)) ?_)
    | (refine Rm_gi (by first | omega | (simp; omega)) ?_)
    | (refine Rm_gb (by first | omega | (simp; omega)) ?_)
    | (refine Rm_ga (by first | omega | (simp; omega)) _ rfl (Nat.le_of_ble_eq_true rfl) ?_)
    | (refine Rm_gm (by first | omega | (simp; omega)) _ rfl ?_)
    | (refine Rm_part _ _ rfl rfl ?_)
    | (refine Rm_puti (by first | omega | (simp; omega)) rfl ?_)
    | (refine Dm_draw [] (by simp) ?_)
    | (refine Tm_both ?_ ?_)
    | (refine Tm_fin (by simp only [hideOK, newsE]; simp []) ?_)
    | (refine Cm_split (fun h => ?_) (fun h => ?_) <;> (try (simp only [decide_eq_true_eq, decide_eq_false_iff_not] at h)) <;> (try omega))
    | (refine Gm_split (fun h => ?_) (fun h => ?_) <;> (try simp only [ne_eq, Bool.not_eq_true, Bool.not_eq_false] at h) <;> (try rw [h]) <;> (try (simp only [decide_eq_true_eq, decide_eq_false_iff_not, bne_iff_ne, beq_iff_eq, bne_eq_false_iff_eq, beq_eq_false_iff_ne, Bool.not_eq_true, Bool.not_eq_true', Bool.not_eq_false, Bool.not_eq_false', ne_eq, Bool.and_eq_true, Bool.or_eq_true, true_eq_decide_iff, false_eq_decide_iff] at h)) <;> (try omega))
    | (refine Sm_split (fun h => ?_) (fun h => ?_) <;> (try (simp only [decide_eq_true_eq, decide_eq_false_iff_not, bne_iff_ne, beq_iff_eq, bne_eq_false_iff_eq, beq_eq_false_iff_ne, Bool.not_eq_true, Bool.not_eq_true', Bool.not_eq_false, Bool.not_eq_false', ne_eq, Bool.and_eq_true, Bool.or_eq_true, true_eq_decide_iff, false_eq_decide_iff] at h)) <;> (try omega))
    | (exact ret_p rfl ⟨rfl, rfl⟩)
    | (refine ret_okv (by first | trivial | simp only [go_sem, detD, detDs, detP, and_self, and_true]) ?_)
    | (exact ret_gen _ _ _ rfl rfl rfl ⟨rfl, rfl⟩)
    | (simp only [Option.some.injEq, DV.tup.injEq, DV.p.injEq, List.cons.injEq, PV.int.injEq, PV.bool.injEq, PV.str.injEq, and_true, true_and])
    | rfl
    | (refine Bool.eq_iff_iff.2 ?_; simp only [decide_eq_true_eq, Bool.and_eq_true, Bool.or_eq_true, Bool.not_eq_true', decide_eq_false_iff_not, Bool.false_eq_true, beq_iff_eq, bne_iff_ne, ne_eq, false_iff, iff_false, true_iff, iff_true]; omega)
    | omega)
set_option maxRecDepth 100000 in
set_option maxHeartbeats 16000000 in
/-- impl.ParseRecording, of the text of a recording -/
theorem k_iParse1 (xs : List Rcd) (h : recsB xs = true) : Okw Try.prog 34 [.str (textO xs)] (OutN (xs, true)) := by
  refine ok_D hmix c_impl_ParseRecording (by simp) ?_
  unfold OutN OutO
  have hx := recs_mem h
  have hl := (recs_at h).1
  have ht := text_len20 hx
  have hs := k_split (textO xs) 10 (by omega)
  rw [split_text hx] at hs
  have hLl : (xs.map bodyO ++ [[]]).length = xs.length + 1 := by simp
  have hLe : (xs.map bodyO ++ [[]]).getD xs.length default = [] := by
    rw [List.getD_eq_getElem?_getD, List.getElem?_append_right (by simp), List.length_map, Nat.sub_self]
    rfl
  have hLi : ∀ i, i < xs.length → (xs.map bodyO ++ [[]]).getD i default = bodyO (xs.getD i default) := fun i hi => by
    rw [List.getD_eq_getElem?_getD, List.getElem?_append_left (by simpa using hi), List.getElem?_map, List.getElem?_eq_getElem hi, List.getD_eq_getElem?_getD, List.getElem?_eq_getElem hi]
    rfl
  generalize hL : xs.map bodyO ++ [[]] = L at *
  have hn1 : L.length - 1 = xs.length := by omega
  have hv := k_iRecs xs (by omega) (fun r hr => by have := rcd_in (hx r hr); omega)
  rw [h] at hv
  simp only [envOf, envFrom, go_sem, reduceIte, Nat.reduceEqDiff]
  repeat' (first
    | (simp only [go_sem, reduceIte, Nat.reduceEqDiff, Nat.reduceBEq])
    | (simp (disch := omega) only [w64, nsub1, Nat.sub_zero])
    | (refine Rm_need (by first | exact True.intro | omega | (simp; omega)) ?_)
    | (refine Rm_o hs rfl (fun r H2 hh => ?_); obtain ⟨rfl, rfl⟩ := hh)
    | (rw [hn1])
    | (rw [hLe])
    | (refine Rm_gi (by first | omega | (simp; omega)) ?_)
    | (refine Rm_gb (by first | omega | (simp; omega)) ?_)
    | (refine Rm_ga (by first | omega | (simp; omega)) _ rfl (Nat.le_of_ble_eq_true rfl) ?_)
    | (refine Rm_gm (by first | omega | (simp; omega)) _ rfl ?_)
    | (refine Rm_part _ _ rfl rfl ?_)
    | (refine Rm_puti (by first | omega | (simp; omega)) rfl ?_)
    | (refine Dm_draw [] (by simp) ?_)
    | (refine Tm_both ?_ ?_)
    | (refine Tm_fin (by simp only [hideOK, newsE]; simp []) ?_)
    | (refine Cm_split (fun h => ?_) (fun h => ?_) <;> (try (simp only [decide_eq_true_eq, decide_eq_false_iff_not] at h)) <;> (try omega))
    | (refine Gm_split (fun h => ?_) (fun h => ?_) <;> (try simp only [ne_eq, Bool.not_eq_true, Bool.not_eq_false] at h) <;> (try rw [h]) <;> (try (simp only [decide_eq_true_eq, decide_eq_false_iff_not, bne_iff_ne, beq_iff_eq, bne_eq_false_iff_eq, beq_eq_false_iff_ne, Bool.not_eq_true, Bool.not_eq_true', Bool.not_eq_false, Bool.not_eq_false', ne_eq, Bool.and_eq_true, Bool.or_eq_true, true_eq_decide_iff, false_eq_decide_iff] at h)) <;> (try omega))
    | (refine Sm_split (fun h => ?_) (fun h => ?_) <;> (try (simp only [decide_eq_true_eq, decide_eq_false_iff_not, bne_iff_ne, beq_iff_eq, bne_eq_false_iff_eq, beq_eq_false_iff_ne, Bool.not_eq_true, Bool.not_eq_true', Bool.not_eq_false, Bool.not_eq_false', ne_eq, Bool.and_eq_true, Bool.or_eq_true, true_eq_decide_iff, false_eq_decide_iff] at h)) <;> (try omega))
    | (exact ret_p rfl ⟨rfl, rfl⟩)
    | (refine ret_okv (by first | trivial | simp only [go_sem, detD, detDs, detP, and_self, and_true]) ?_)
    | (exact ret_gen _ _ _ rfl rfl rfl ⟨rfl, rfl⟩)
    | (simp only [Option.some.injEq, DV.tup.injEq, DV.p.injEq, List.cons.injEq, PV.int.injEq, PV.bool.injEq, PV.str.injEq, and_true, true_and])
    | rfl
    | (refine Bool.eq_iff_iff.2 ?_; simp only [decide_eq_true_eq, Bool.and_eq_true, Bool.or_eq_true, Bool.not_eq_true', decide_eq_false_iff_not, Bool.false_eq_true, beq_iff_eq, bne_iff_ne, ne_eq, false_iff, iff_false, true_iff, iff_true]; omega)
    | omega)
  refine Dm_loop [5, 30, 31, 32] (fun m ds H' => ∃ i : Nat, i ≤ xs.length ∧ m = xs.length - i ∧
    ((i = 0 ∧ ds = [.nil, .own 0 0 xs.length, .p (.int .i64 xs.length), .p (.int .i64 i)] ∧ H' = [.arr 9 1 (L.map .str)]) ∨
     (ds = [.own 0 0 (xs.take i).length, .own 1 0 xs.length, .p (.int .i64 xs.length), .p (.int .i64 i)] ∧ H' = [.arr 58 2 ((xs.take i).map Rcd.pv), .arr 9 1 (L.map .str)]))) xs.length ⟨0, by omega, by omega, .inl ⟨rfl, rfl, rfl⟩⟩ ?_
  rintro m ds H' ⟨i, hi, rfl, hh⟩ -
  have hstep := fun h : i < xs.length => take_snoc (d := (default : Rcd)) h
  rcases Nat.lt_or_ge i xs.length with hlt | hge
  · have hLi := hLi i hlt
    have hr := hx _ (getD_mem (d := default) hlt)
    have hstep := hstep hlt
    have hsb := k_split (bodyO (xs.getD i default)) 32 (by have := (body_parts hr).2.2.2.2.2; omega)
    rw [split_body hr] at hsb
    have hnum := k_number (num (xs.getD i default).sec) (by rw [(body_parts hr).2.2.2.1]; have := (body_parts hr).2.2.2.2.1; omega)
    rw [(body_parts hr).2.2.2.1] at hnum hsb
    rw [numO_dec (by have := rcd_in hr; omega), show (((xs.getD i default).sec.toNat : Nat) : Int) = (xs.getD i default).sec from by have := rcd_in hr; omega] at hnum
    have htl : (xs.take i).length = i := by rw [List.length_take]; omega
    have hq : ((⟨(xs.getD i default).sec, (xs.getD i default).hex⟩ : Rcd)) = xs.getD i default := rfl
    generalize dec (xs.getD i default).sec.toNat = w at *
    rcases hh with ⟨rfl, rfl, rfl⟩ | ⟨rfl, rfl⟩
    · repeat' (first
        | (simp only [go_sem, Nat.lt_add_one, reduceIte, Nat.reduceEqDiff, Nat.reduceAdd, Nat.reduceMul, Nat.reduceLeDiff])
        | (simp (disch := omega) only [w64, nadd1, Int.toNat_zero, Int.reduceToNat, Nat.sub_zero])
        | (refine Rm_need (by first | exact True.intro | omega | (simp; omega)) ?_)
        | (rw [hLi])
        | (refine Rm_o hsb rfl (fun r H2 hh => ?_); obtain ⟨rfl, rfl⟩ := hh)
        | (refine Rm_w rfl (hnum) (by trivial) ?_)
        | (refine Rm_w ?_ (hnum) (by trivial) ?_; · (simp [viewOfs, viewOf, List.take_of_length_le, cutL]; done))
        | (rw [rcd_row])
        | (refine Rm_gi (by first | omega | (simp; omega)) ?_)
        | (refine Rm_gb (by first | omega | (simp; omega)) ?_)
        | (refine Rm_ga (by first | omega | (simp; omega)) _ rfl (Nat.le_of_ble_eq_true rfl) ?_)
        | (refine Rm_gm (by first | omega | (simp; omega)) _ rfl ?_)
        | (refine Rm_part _ _ rfl rfl ?_)
        | (refine Rm_puti (by first | omega | (simp; omega)) rfl ?_)
        | (refine Dm_draw [] (by simp) ?_)
        | (refine Tm_both ?_ ?_)
        | (refine Tm_fin (by simp only [hideOK, newsE]; simp []) ?_)
        | (refine Cm_split (fun h => ?_) (fun h => ?_) <;> (try (simp only [decide_eq_true_eq, decide_eq_false_iff_not, bne_iff_ne, bne_eq_false_iff_eq, ne_eq] at h)) <;> (try omega))
        | (refine Gm_split (fun h => ?_) (fun h => ?_) <;> (try simp only [ne_eq, Bool.not_eq_true, Bool.not_eq_false] at h) <;> (try rw [h]) <;> (try (simp only [decide_eq_true_eq, decide_eq_false_iff_not, bne_iff_ne, beq_iff_eq, bne_eq_false_iff_eq, beq_eq_false_iff_ne, Bool.not_eq_true, Bool.not_eq_true', Bool.not_eq_false, Bool.not_eq_false', ne_eq, Bool.and_eq_true, Bool.or_eq_true, true_eq_decide_iff, false_eq_decide_iff] at h)) <;> (try omega))
        | (refine Sm_split (fun h => ?_) (fun h => ?_) <;> (try (simp only [decide_eq_true_eq, decide_eq_false_iff_not, bne_iff_ne, beq_iff_eq, bne_eq_false_iff_eq, beq_eq_false_iff_ne, Bool.not_eq_true, Bool.not_eq_true', Bool.not_eq_false, Bool.not_eq_false', ne_eq, Bool.and_eq_true, Bool.or_eq_true, true_eq_decide_iff, false_eq_decide_iff] at h)) <;> (try omega))
        | (exact ret_p rfl ⟨rfl, rfl⟩)
        | (refine ret_okv (by first | trivial | simp only [go_sem, detD, detDs, detP, and_self, and_true]) ?_)
        | (exact ret_gen _ _ _ rfl rfl rfl ⟨rfl, rfl⟩)
        | (simp only [Option.some.injEq, DV.tup.injEq, DV.p.injEq, List.cons.injEq, PV.int.injEq, PV.bool.injEq, PV.str.injEq, and_true, true_and])
        | rfl
        | (refine Bool.eq_iff_iff.2 ?_; simp only [decide_eq_true_eq, Bool.and_eq_true, Bool.or_eq_true, Bool.not_eq_true', decide_eq_false_iff_not, Bool.false_eq_true, beq_iff_eq, bne_iff_ne, ne_eq, false_iff, iff_false, true_iff, iff_true]; omega)
        | omega)
      all_goals first
        | (refine Xm_inv_n (xs.length - (0 + 1)) (by omega) ⟨0 + 1, by omega, rfl, .inr ⟨?_, ?_⟩⟩
           · rw [hstep]; rfl
           · rw [hstep]; rfl)
        | skip
    · generalize xs.take i = Z at *
      repeat' (first
        | (simp only [go_sem, Nat.lt_add_one, reduceIte, Nat.reduceEqDiff, Nat.reduceAdd, Nat.reduceMul, Nat.reduceLeDiff])
        | (simp (disch := omega) only [w64, nadd1, List.take_length, Int.toNat_zero, Int.reduceToNat])
        | (refine Rm_need (by first | exact True.intro | omega | (simp; omega)) ?_)
        | (rw [hLi])
        | (refine Rm_o hsb rfl (fun r H2 hh => ?_); obtain ⟨rfl, rfl⟩ := hh)
        | (refine Rm_w rfl (hnum) (by trivial) ?_)
        | (refine Rm_w ?_ (hnum) (by trivial) ?_; · (simp [viewOfs, viewOf, List.take_of_length_le, cutL]; done))
        | (rw [rcd_app])
        | (refine Rm_gi (by first | omega | (simp; omega)) ?_)
        | (refine Rm_gb (by first | omega | (simp; omega)) ?_)
        | (refine Rm_ga (by first | omega | (simp; omega)) _ rfl (Nat.le_of_ble_eq_true rfl) ?_)
        | (refine Rm_gm (by first | omega | (simp; omega)) _ rfl ?_)
        | (refine Rm_part _ _ rfl rfl ?_)
        | (refine Rm_puti (by first | omega | (simp; omega)) rfl ?_)
        | (refine Dm_draw [] (by simp) ?_)
        | (refine Tm_both ?_ ?_)
        | (refine Tm_fin (by simp only [hideOK, newsE]; simp []) ?_)
        | (refine Cm_split (fun h => ?_) (fun h => ?_) <;> (try (simp only [decide_eq_true_eq, decide_eq_false_iff_not, bne_iff_ne, bne_eq_false_iff_eq, ne_eq] at h)) <;> (try omega))
        | (refine Gm_split (fun h => ?_) (fun h => ?_) <;> (try simp only [ne_eq, Bool.not_eq_true, Bool.not_eq_false] at h) <;> (try rw [h]) <;> (try (simp only [decide_eq_true_eq, decide_eq_false_iff_not, bne_iff_ne, beq_iff_eq, bne_eq_false_iff_eq, beq_eq_false_iff_ne, Bool.not_eq_true, Bool.not_eq_true', Bool.not_eq_false, Bool.not_eq_false', ne_eq, Bool.and_eq_true, Bool.or_eq_true, true_eq_decide_iff, false_eq_decide_iff] at h)) <;> (try omega))
        | (refine Sm_split (fun h => ?_) (fun h => ?_) <;> (try (simp only [decide_eq_true_eq, decide_eq_false_iff_not, bne_iff_ne, beq_iff_eq, bne_eq_false_iff_eq, beq_eq_false_iff_ne, Bool.not_eq_true, Bool.not_eq_true', Bool.not_eq_false, Bool.not_eq_false', ne_eq, Bool.and_eq_true, Bool.or_eq_true, true_eq_decide_iff, false_eq_decide_iff] at h)) <;> (try omega))
        | (exact ret_p rfl ⟨rfl, rfl⟩)
        | (refine ret_okv (by first | trivial | simp only [go_sem, detD, detDs, detP, and_self, and_true]) ?_)
        | (exact ret_gen _ _ _ rfl rfl rfl ⟨rfl, rfl⟩)
        | (simp only [Option.some.injEq, DV.tup.injEq, DV.p.injEq, List.cons.injEq, PV.int.injEq, PV.bool.injEq, PV.str.injEq, and_true, true_and])
        | rfl
        | (refine Bool.eq_iff_iff.2 ?_; simp only [decide_eq_true_eq, Bool.and_eq_true, Bool.or_eq_true, Bool.not_eq_true', decide_eq_false_iff_not, Bool.false_eq_true, beq_iff_eq, bne_iff_ne, ne_eq, false_iff, iff_false, true_iff, iff_true]; omega)
        | omega)
      all_goals first
        | (refine Xm_inv_n (xs.length - (i + 1)) (by omega) ⟨i + 1, by omega, rfl, .inr ⟨?_, ?_⟩⟩
           · rw [hstep, List.length_append]; rfl
           · rw [hstep]; rfl)
        | skip
  · obtain rfl : i = xs.length := by omega
    rw [List.take_length] at hh
    rcases hh with ⟨h0, rfl, rfl⟩ | ⟨rfl, rfl⟩
    · have : xs = [] := List.eq_nil_of_length_eq_zero h0
      subst this
      repeat' (first
        | (simp only [go_sem, reduceIte, Nat.reduceEqDiff, Nat.reduceSub])
        | (simp (disch := omega) only [w64, w8, bytesOf_cons, tmod10, tdiv10, tn48, nsub1, nadd1, nsub, nadd, nmul, List.take_length, Int.toNat_zero, Int.reduceAdd, Int.reduceSub, Int.reduceToNat, Int.reduceMul, Nat.sub_zero, Nat.min_self])
        | (refine Rm_need (by first | exact True.intro | omega | (simp; omega)) ?_)
        | (refine Rm_w rfl (k_iRecs0 _) (by trivial) ?_)
        | (refine Rm_w ?_ (k_iRecs0 _) (by trivial) ?_; · (simp [viewOfs, viewOf, List.take_of_length_le, cutL]; done))
        | (refine Rm_gi (by first | omega | (simp; omega)) ?_)
        | (refine Rm_gb (by first | omega | (simp; omega)) ?_)
        | (refine Rm_ga (by first | omega | (simp; omega)) _ rfl (Nat.le_of_ble_eq_true rfl) ?_)
        | (refine Rm_gm (by first | omega | (simp; omega)) _ rfl ?_)
        | (refine Rm_part _ _ rfl rfl ?_)
        | (refine Rm_puti (by first | omega | (simp; omega)) rfl ?_)
        | (refine Dm_draw [] (by simp) ?_)
        | (refine Tm_both ?_ ?_)
        | (refine Tm_fin (by simp only [hideOK, newsE]; simp []) ?_)
        | (refine Cm_split (fun h => ?_) (fun h => ?_) <;> (try (simp only [decide_eq_true_eq, decide_eq_false_iff_not] at h)) <;> (try omega))
        | (refine Gm_split (fun h => ?_) (fun h => ?_) <;> (try simp only [ne_eq, Bool.not_eq_true, Bool.not_eq_false] at h) <;> (try rw [h]) <;> (try (simp only [decide_eq_true_eq, decide_eq_false_iff_not, bne_iff_ne, beq_iff_eq, bne_eq_false_iff_eq, beq_eq_false_iff_ne, Bool.not_eq_true, Bool.not_eq_true', Bool.not_eq_false, Bool.not_eq_false', ne_eq, Bool.and_eq_true, Bool.or_eq_true, true_eq_decide_iff, false_eq_decide_iff] at h)) <;> (try omega))
        | (refine Sm_split (fun h => ?_) (fun h => ?_) <;> (try (simp only [decide_eq_true_eq, decide_eq_false_iff_not, bne_iff_ne, beq_iff_eq, bne_eq_false_iff_eq, beq_eq_false_iff_ne, Bool.not_eq_true, Bool.not_eq_true', Bool.not_eq_false, Bool.not_eq_false', ne_eq, Bool.and_eq_true, Bool.or_eq_true, true_eq_decide_iff, false_eq_decide_iff] at h)) <;> (try omega))
        | (exact ret_p rfl ⟨rfl, rfl⟩)
        | (refine ret_okv (by first | trivial | simp only [go_sem, detD, detDs, detP, and_self, and_true]) ?_)
        | (exact ret_gen _ _ _ rfl rfl rfl ⟨rfl, rfl⟩)
        | (simp only [Option.some.injEq, DV.tup.injEq, DV.p.injEq, List.cons.injEq, PV.int.injEq, PV.bool.injEq, PV.str.injEq, and_true, true_and])
        | rfl
        | (refine Bool.eq_iff_iff.2 ?_; simp only [decide_eq_true_eq, Bool.and_eq_true, Bool.or_eq_true, Bool.not_eq_true', decide_eq_false_iff_not, Bool.false_eq_true, beq_iff_eq, bne_iff_ne, ne_eq, false_iff, iff_false, true_iff, iff_true]; omega)
        | omega)
      all_goals first
        | exact ret_gen _ _ _ rfl rfl rfl (.inr ⟨rfl, rfl, rfl⟩)
        | exact ret_gen _ _ _ rfl rfl rfl (.inr ⟨rfl, rfl⟩)
        | skip
    · repeat' (first
        | (simp only [go_sem, reduceIte, Nat.reduceEqDiff])
        | (simp (disch := omega) only [w64, w8, bytesOf_cons, tmod10, tdiv10, tn48, nsub1, nadd1, nsub, nadd, nmul, List.take_length, Int.toNat_zero, Int.reduceAdd, Int.reduceSub, Int.reduceToNat, Int.reduceMul, Nat.sub_zero, Nat.min_self])
        | (refine Rm_need (by first | exact True.intro | omega | (simp; omega)) ?_)
        | (refine Rm_w rfl (hv) (by trivial) ?_)
        | (refine Rm_w ?_ (hv) (by trivial) ?_; · (simp [viewOfs, viewOf, List.take_of_length_le]; done))
        | (refine Rm_gi (by first | omega | (simp; omega)) ?_)
        | (refine Rm_gb (by first | omega | (simp; omega)) ?_)
        | (refine Rm_ga (by first | omega | (simp; omega)) _ rfl (Nat.le_of_ble_eq_true rfl) ?_)
        | (refine Rm_gm (by first | omega | (simp; omega)) _ rfl ?_)
        | (refine Rm_part _ _ rfl rfl ?_)
        | (refine Rm_puti (by first | omega | (simp; omega)) rfl ?_)
        | (refine Dm_draw [] (by simp) ?_)
        | (refine Tm_both ?_ ?_)
        | (refine Tm_fin (by simp only [hideOK, newsE]; simp []) ?_)
        | (refine Cm_split (fun h => ?_) (fun h => ?_) <;> (try (simp only [decide_eq_true_eq, decide_eq_false_iff_not] at h)) <;> (try omega))
        | (refine Gm_split (fun h => ?_) (fun h => ?_) <;> (try simp only [ne_eq, Bool.not_eq_true, Bool.not_eq_false] at h) <;> (try rw [h]) <;> (try (simp only [decide_eq_true_eq, decide_eq_false_iff_not, bne_iff_ne, beq_iff_eq, bne_eq_false_iff_eq, beq_eq_false_iff_ne, Bool.not_eq_true, Bool.not_eq_true', Bool.not_eq_false, Bool.not_eq_false', ne_eq, Bool.and_eq_true, Bool.or_eq_true, true_eq_decide_iff, false_eq_decide_iff] at h)) <;> (try omega))
        | (refine Sm_split (fun h => ?_) (fun h => ?_) <;> (try (simp only [decide_eq_true_eq, decide_eq_false_iff_not, bne_iff_ne, beq_iff_eq, bne_eq_false_iff_eq, beq_eq_false_iff_ne, Bool.not_eq_true, Bool.not_eq_true', Bool.not_eq_false, Bool.not_eq_false', ne_eq, Bool.and_eq_true, Bool.or_eq_true, true_eq_decide_iff, false_eq_decide_iff] at h)) <;> (try omega))
        | (exact ret_p rfl ⟨rfl, rfl⟩)
        | (refine ret_okv (by first | trivial | simp only [go_sem, detD, detDs, detP, and_self, and_true]) ?_)
        | (exact ret_gen _ _ _ rfl rfl rfl ⟨rfl, rfl⟩)
        | (simp only [Option.some.injEq, DV.tup.injEq, DV.p.injEq, List.cons.injEq, PV.int.injEq, PV.bool.injEq, PV.str.injEq, and_true, true_and])
        | rfl
        | (refine Bool.eq_iff_iff.2 ?_; simp only [decide_eq_true_eq, Bool.and_eq_true, Bool.or_eq_true, Bool.not_eq_true', decide_eq_false_iff_not, Bool.false_eq_true, beq_iff_eq, bne_iff_ne, ne_eq, false_iff, iff_false, true_iff, iff_true]; omega)
        | omega)
      all_goals first
        | exact ret_gen _ _ _ rfl rfl rfl (.inl ⟨rfl, rfl⟩)
        | skip

theorem find_one {c : UInt8} : ∀ (p t : List UInt8) (q : List UInt8) (f : Nat), c ∉ p → p.length < f → findI (q ++ (p ++ c :: t)) [c] f q.length = some (q.length + p.length)
  | p, t, q, 0, _, h => by omega
  | [], t, q, f + 1, _, _ => by
    have e : cutL (q ++ c :: t) q.length (q.length + 1) = [c] := by
      unfold cutL
      rw [List.drop_left, Nat.add_sub_cancel_left]
      rfl
    simp only [findI, List.nil_append, List.length_append, List.length_cons, List.length_nil, Nat.zero_add, Nat.add_zero]
    rw [if_pos (by omega), if_pos e]
  | x :: p, t, q, f + 1, h, hf => by
    simp only [List.mem_cons, not_or] at h
    have e : cutL (q ++ (x :: p ++ c :: t)) q.length (q.length + 1) = [x] := by
      unfold cutL
      rw [List.drop_left, Nat.add_sub_cancel_left]
      rfl
    have ih := find_one p t (q ++ [x]) f h.2 (by simp only [List.length_cons] at hf; omega)
    rw [List.append_assoc, List.length_append, List.length_cons, List.length_nil] at ih
    rw [findI, if_pos (by simp)]
    simp only [List.length_cons, List.length_nil, Nat.zero_add]
    rw [if_neg (by rw [e]; intro h2; exact h.1 (List.cons.inj h2).1.symm)]
    rw [show q ++ (x :: p ++ c :: t) = q ++ ([x] ++ (p ++ c :: t)) from rfl, ih]
    congr 1
    omega
theorem cut2_at {c : UInt8} {p t : List UInt8} (h : c ∉ p) : cut2 (p ++ c :: t) [c] = (p, t, true) := by
  have h1 := find_one p t [] ((p ++ c :: t).length + 1) h (by simp; omega)
  simp only [List.nil_append, List.length_nil, Nat.zero_add] at h1
  unfold cut2
  rw [h1]
  simp
theorem mag_len (s : List UInt8) : (magO s).length ≤ s.length ∧ (magO s).length + 1 ≥ s.length := by
  unfold magO
  split
  · rw [List.length_drop]; omega
  · omega
theorem read_dec {n : Nat} (h : n ≤ 99999) : readO (dec n) = ((n : Int), true) := by
  obtain ⟨h1, h2⟩ := dec_ok n
  have h3 := dec_len n 4 (by omega)
  have h4 := dec_pos n
  have hm : magO (dec n) = dec n := by
    unfold magO
    rw [if_neg]
    rintro ⟨_, e⟩
    have := List.all_eq_true.1 h1 _ (getD_mem (d := 0) h4)
    rw [e] at this
    revert this
    decide
  have hi : rdI (dec n) = n := by
    unfold rdI
    rw [hm, if_neg (by omega), h2]
  have hb : rdB (dec n) = true := by
    unfold rdB
    rw [hm, h1, hi, num_dec (by omega), Int.toNat_natCast]
    simp
    omega
  unfold readO
  rw [if_pos hb, hi]
set_option maxRecDepth 100000 in
set_option maxHeartbeats 16000000 in
/-- spec.l1Read -/
theorem k_l1Read (s : List UInt8) (hl : s.length ≤ 1099511627776) : Okv Try.prog 67 [.str s] (.tup [.p (.int .i64 (readO s).1), .p (.bool (readO s).2)]) := by
  refine ok_D hmix c_spec_l1Read (by simp) ?_
  have h45 : ∀ c : UInt8, (c.toNat : Int) = 45 ↔ c = 45 := fun c => u8_lit (n := 45) (by omega)
  have hd : rdB s = (decide (1 ≤ (magO s).length ∧ (magO s).length ≤ 6) && (magO s).all digP && decide (num (rdI s) = s)) := rfl
  have hml := mag_len s
  have hi0 : rdI s = if (magO s).length < s.length then -(valN (magO s) : Int) else valN (magO s) := rfl
  have hmag : magO s = if 1 < s.length ∧ s.getD 0 default = 45 then s.drop 1 else s := rfl
  have hc1 : cutL s 1 s.length = s.drop 1 := List.take_of_length_le (by simp)
  have hro : readO s = if rdB s = true then (rdI s, true) else (0, false) := rfl
  by_cases hc : 1 < s.length ∧ s.getD 0 default = 45
  · rw [if_pos hc] at hmag
    have h12 : ((s.getD 0 default).toNat : Int) = 45 := by rw [hc.2]; rfl
    have h13 : ((s.getD 0 0).toNat : Int) = 45 := h12
    generalize magO s = t at *
    subst hmag
    have hTl : (s.drop 1).length < s.length := by rw [List.length_drop]; omega
    generalize hT : s.drop 1 = T at *
    simp only [envOf, envFrom, go_sem, reduceIte, Nat.reduceEqDiff, Nat.reduceBEq]
    repeat' (first
      | (simp only [go_sem, reduceIte, Nat.reduceEqDiff, Nat.reduceBEq])
      | (simp (disch := omega) only [Int.toNat_zero, Int.reduceToNat])
      | (refine Rm_need (by first | exact True.intro | omega | (simp; omega)) ?_)
      | (rw [h13])
      | (rw [h12])
      | (rw [hc1])
      | (rw [hT])
      | (refine Rm_w rfl (k_l1In _ _ _) (by trivial) ?_)
      | (refine Rm_w ?_ (k_l1In _ _ _) (by trivial) ?_; · (simp [viewOfs, viewOf, List.take_of_length_le, cutL]; done))
      | (refine Rm_gi (by first | omega | (simp; omega)) ?_)
      | (refine Rm_gb (by first | omega | (simp; omega)) ?_)
      | (refine Rm_ga (by first | omega | (simp; omega)) _ rfl (Nat.le_of_ble_eq_true rfl) ?_)
      | (refine Rm_gm (by first | omega | (simp; omega)) _ rfl ?_)
      | (refine Rm_part _ _ rfl rfl ?_)
      | (refine Rm_puti (by first | omega | (simp; omega)) rfl ?_)
      | (refine Dm_draw [] (by simp) ?_)
      | (refine Tm_both ?_ ?_)
      | (refine Tm_fin (by simp only [hideOK, newsE]; simp []) ?_)
      | (refine Cm_split (fun h => ?_) (fun h => ?_) <;> (try (simp only [decide_eq_true_eq, decide_eq_false_iff_not, Bool.not_eq_true', Bool.not_eq_false'] at h)) <;> (try omega))
      | (refine Gm_split (fun h => ?_) (fun h => ?_) <;> (try simp only [ne_eq, Bool.not_eq_true, Bool.not_eq_false] at h) <;> (try rw [h]) <;> (try (simp only [decide_eq_true_eq, decide_eq_false_iff_not, bne_iff_ne, beq_iff_eq, bne_eq_false_iff_eq, beq_eq_false_iff_ne, Bool.not_eq_true, Bool.not_eq_true', Bool.not_eq_false, Bool.not_eq_false', ne_eq, Bool.and_eq_true, Bool.or_eq_true, true_eq_decide_iff, false_eq_decide_iff] at h)) <;> (try omega))
      | (refine Sm_split (fun h => ?_) (fun h => ?_) <;> (try (simp only [decide_eq_true_eq, decide_eq_false_iff_not] at h)) <;> (try omega))
      | (exact ret_p rfl ⟨rfl, rfl⟩)
      | (refine ret_okv (by first | trivial | simp only [go_sem, detD, detDs, detP, and_self, and_true]) ?_)
      | (exact ret_gen _ _ _ rfl rfl rfl ⟨rfl, rfl⟩)
      | (simp only [Option.some.injEq, DV.tup.injEq, DV.p.injEq, List.cons.injEq, PV.int.injEq, PV.bool.injEq, and_true, true_and])
      | rfl
      | (refine Bool.eq_iff_iff.2 ?_; simp only [decide_eq_true_eq, Bool.and_eq_true, Bool.or_eq_true, Bool.not_eq_true', decide_eq_false_iff_not, Bool.false_eq_true, beq_iff_eq, bne_iff_ne, ne_eq, false_iff, iff_false, true_iff, iff_true]; omega)
      | omega)
    all_goals first
      | (rw [hro, if_neg (by rw [hd]; grind)]; exact ⟨rfl, rfl⟩)
      | skip
    refine Dm_loop [0, 4, 5, 6] (fun m ds H' => ∃ i : Nat, i ≤ T.length ∧ m = T.length - i ∧ (T.take i).all digP = true ∧ ds = [.p (.str s), .p (.str T), .p (.int .i64 (valN (T.take i))), .p (.int .i64 i)] ∧ H' = []) T.length ⟨0, by omega, by omega, rfl, rfl, rfl⟩ ?_
    rintro m ds H' ⟨i, hi, rfl, hp, rfl, rfl⟩ -
    have h1 := fun h : i < T.length => dig_step h hp
    have h2 := fun h : i < T.length => dig_no h
    have h3 := fun h : i < T.length => val_step h
    have h4 : valN (T.take i) < 1000000 := by
      have := val_lt _ (T.take i) rfl hp
      have h5 : (T.take i).length ≤ 6 := by rw [List.length_take]; omega
      exact Nat.lt_of_lt_of_le this (Nat.le_trans (Nat.pow_le_pow_right (by omega) h5) (by decide))
    have h6 := u8_lt (T.getD i default)
    have h7 : digP (T.getD i default) = decide (48 ≤ (T.getD i default).toNat ∧ (T.getD i default).toNat ≤ 57) := rfl
    have h8 : T.length ≤ i → T.all digP = true := fun h => by rwa [List.take_of_length_le h] at hp
    have h9 : T.length ≤ i → T.take i = T := fun h => List.take_of_length_le h
    have e0 : (T.getD i 0).toNat = (T.getD i default).toNat := rfl
    rcases Nat.lt_or_ge i T.length with hlt | hge
    · repeat' (first
        | (simp only [go_sem, reduceIte, Nat.reduceEqDiff, Nat.reduceBEq])
        | (simp (disch := omega) only [w64, w8, nadd1])
        | (refine Rm_need (by first | exact True.intro | omega | (simp; omega)) ?_)
        | (refine Rm_gi (by first | omega | (simp; omega)) ?_)
        | (refine Rm_gb (by first | omega | (simp; omega)) ?_)
        | (refine Rm_ga (by first | omega | (simp; omega)) _ rfl (Nat.le_of_ble_eq_true rfl) ?_)
        | (refine Rm_gm (by first | omega | (simp; omega)) _ rfl ?_)
        | (refine Rm_part _ _ rfl rfl ?_)
        | (refine Rm_puti (by first | omega | (simp; omega)) rfl ?_)
        | (refine Dm_draw [] (by simp) ?_)
        | (refine Tm_both ?_ ?_)
        | (refine Tm_fin (by simp only [hideOK, newsE]; simp []) ?_)
        | (refine Cm_split (fun h => ?_) (fun h => ?_) <;> (try (simp only [decide_eq_true_eq, decide_eq_false_iff_not] at h)) <;> (try omega))
        | (refine Gm_split (fun h => ?_) (fun h => ?_) <;> (try simp only [ne_eq, Bool.not_eq_true, Bool.not_eq_false] at h) <;> (try rw [h]) <;> (try (simp only [decide_eq_true_eq, decide_eq_false_iff_not, bne_iff_ne, beq_iff_eq, bne_eq_false_iff_eq, beq_eq_false_iff_ne, Bool.not_eq_true, Bool.not_eq_true', Bool.not_eq_false, Bool.not_eq_false', ne_eq, Bool.and_eq_true, Bool.or_eq_true, true_eq_decide_iff, false_eq_decide_iff] at h)) <;> (try omega))
        | (refine Sm_split (fun h => ?_) (fun h => ?_) <;> (try (simp only [decide_eq_true_eq, decide_eq_false_iff_not] at h)) <;> (try omega))
        | (exact ret_p rfl ⟨rfl, rfl⟩)
        | (refine ret_okv (by first | trivial | simp only [go_sem, detD, detDs, detP, and_self, and_true]) ?_)
        | (exact ret_gen _ _ _ rfl rfl rfl ⟨rfl, rfl⟩)
        | (simp only [Option.some.injEq, DV.tup.injEq, DV.p.injEq, List.cons.injEq, PV.int.injEq, PV.bool.injEq, and_true, true_and])
        | rfl
        | (refine Bool.eq_iff_iff.2 ?_; simp only [decide_eq_true_eq, Bool.and_eq_true, Bool.or_eq_true, Bool.not_eq_true', decide_eq_false_iff_not, Bool.false_eq_true, beq_iff_eq, bne_iff_ne, ne_eq, false_iff, iff_false, true_iff, iff_true]; omega)
        | omega)
      all_goals first
        | (refine Xm_inv_n (T.length - (i + 1)) (by omega) ⟨i + 1, by omega, rfl, ?_, ?_, rfl⟩
           · rw [h1 (by omega), h7]; simp only [decide_eq_true_eq]; omega
           · rw [h3 (by omega), show ((10 * valN (T.take i) + ((T.getD i default).toNat - 48) : Nat) : Int) = 10 * (valN (T.take i) : Int) + (((T.getD i 0).toNat : Int) - 48) from by omega]; rfl)
        | (rw [hro, if_neg (by rw [hd, h2 (by omega) (by rw [h7]; simp only [decide_eq_false_iff_not]; omega)]; simp)]; exact ⟨rfl, rfl⟩)
        | skip
    · rw [h9 hge]
      have h8 := h8 hge
      have hv : valN T < 1000000 := by rw [← h9 hge]; exact h4
      have hnum := k_l1Num (rdI s) (by rw [hi0]; split <;> omega)
      rw [hi0] at hnum hro hd
      rw [if_pos hTl] at hnum hro hd
      by_cases hq : num (-(valN T : Int)) = s
      · rw [hro, if_pos (by rw [hd, h8]; grind)]
        rw [hq] at hnum
        repeat' (first
          | (simp only [go_sem, reduceIte, Nat.reduceEqDiff])
          | (simp (disch := omega) only [w64])
          | (refine Rm_need (by first | exact True.intro | omega | (simp; omega)) ?_)
          | (refine Rm_w rfl (hnum) (by trivial) ?_)
          | (refine Rm_w ?_ (hnum) (by trivial) ?_; · (simp [viewOfs, viewOf]; done))
          | (rw [show (0 : Int) - (valN T : Int) = -(valN T : Int) from by omega])
          | (refine Rm_gi (by first | omega | (simp; omega)) ?_)
          | (refine Rm_gb (by first | omega | (simp; omega)) ?_)
          | (refine Rm_ga (by first | omega | (simp; omega)) _ rfl (Nat.le_of_ble_eq_true rfl) ?_)
          | (refine Rm_gm (by first | omega | (simp; omega)) _ rfl ?_)
          | (refine Rm_part _ _ rfl rfl ?_)
          | (refine Rm_puti (by first | omega | (simp; omega)) rfl ?_)
          | (refine Dm_draw [] (by simp) ?_)
          | (refine Tm_both ?_ ?_)
          | (refine Tm_fin (by simp only [hideOK, newsE]; simp []) ?_)
          | (refine Cm_split (fun h => ?_) (fun h => ?_) <;> (try (simp only [decide_eq_true_eq, decide_eq_false_iff_not] at h)) <;> (try omega))
          | (refine Gm_split (fun h => ?_) (fun h => ?_) <;> (try simp only [ne_eq, Bool.not_eq_true, Bool.not_eq_false] at h) <;> (try rw [h]) <;> (try (simp only [decide_eq_true_eq, decide_eq_false_iff_not, bne_iff_ne, beq_iff_eq, bne_eq_false_iff_eq, beq_eq_false_iff_ne, Bool.not_eq_true, Bool.not_eq_true', Bool.not_eq_false, Bool.not_eq_false', ne_eq, Bool.and_eq_true, Bool.or_eq_true, true_eq_decide_iff, false_eq_decide_iff] at h)) <;> (try omega))
          | (refine Sm_split (fun h => ?_) (fun h => ?_) <;> (try (simp only [decide_eq_true_eq, decide_eq_false_iff_not, bne_iff_ne, beq_iff_eq, bne_eq_false_iff_eq, beq_eq_false_iff_ne, Bool.not_eq_true, Bool.not_eq_true', Bool.not_eq_false, Bool.not_eq_false', ne_eq, Bool.and_eq_true, Bool.or_eq_true, true_eq_decide_iff, false_eq_decide_iff] at h)) <;> (try omega))
          | (exact ret_p rfl ⟨rfl, rfl⟩)
          | (refine ret_okv (by first | trivial | simp only [go_sem, detD, detDs, detP, and_self, and_true]) ?_)
          | (exact ret_gen _ _ _ rfl rfl rfl ⟨rfl, rfl⟩)
          | (simp only [Option.some.injEq, DV.tup.injEq, DV.p.injEq, List.cons.injEq, PV.int.injEq, PV.bool.injEq, PV.str.injEq, and_true, true_and])
          | rfl
          | (refine Bool.eq_iff_iff.2 ?_; simp only [decide_eq_true_eq, Bool.and_eq_true, Bool.or_eq_true, Bool.not_eq_true', decide_eq_false_iff_not, Bool.false_eq_true, beq_iff_eq, bne_iff_ne, ne_eq, false_iff, iff_false, true_iff, iff_true]; omega)
          | omega)
        all_goals skip
      · rw [hro, if_neg (by rw [hd]; grind)]
        repeat' (first
          | (simp only [go_sem, reduceIte, Nat.reduceEqDiff])
          | (simp (disch := omega) only [w64])
          | (refine Rm_need (by first | exact True.intro | omega | (simp; omega)) ?_)
          | (refine Rm_w rfl (hnum) (by trivial) ?_)
          | (refine Rm_w ?_ (hnum) (by trivial) ?_; · (simp [viewOfs, viewOf]; done))
          | (rw [show (0 : Int) - (valN T : Int) = -(valN T : Int) from by omega])
          | (refine Rm_gi (by first | omega | (simp; omega)) ?_)
          | (refine Rm_gb (by first | omega | (simp; omega)) ?_)
          | (refine Rm_ga (by first | omega | (simp; omega)) _ rfl (Nat.le_of_ble_eq_true rfl) ?_)
          | (refine Rm_gm (by first | omega | (simp; omega)) _ rfl ?_)
          | (refine Rm_part _ _ rfl rfl ?_)
          | (refine Rm_puti (by first | omega | (simp; omega)) rfl ?_)
          | (refine Dm_draw [] (by simp) ?_)
          | (refine Tm_both ?_ ?_)
          | (refine Tm_fin (by simp only [hideOK, newsE]; simp []) ?_)
          | (refine Cm_split (fun h => ?_) (fun h => ?_) <;> (try (simp only [decide_eq_true_eq, decide_eq_false_iff_not, beq_iff_eq, beq_eq_false_iff_ne, Bool.not_eq_true', Bool.not_eq_false', ne_eq] at h)) <;> (try omega))
          | (refine Gm_split (fun h => ?_) (fun h => ?_) <;> (try simp only [ne_eq, Bool.not_eq_true, Bool.not_eq_false] at h) <;> (try rw [h]) <;> (try (simp only [decide_eq_true_eq, decide_eq_false_iff_not, bne_iff_ne, beq_iff_eq, bne_eq_false_iff_eq, beq_eq_false_iff_ne, Bool.not_eq_true, Bool.not_eq_true', Bool.not_eq_false, Bool.not_eq_false', ne_eq, Bool.and_eq_true, Bool.or_eq_true, true_eq_decide_iff, false_eq_decide_iff] at h)) <;> (try omega))
          | (refine Sm_split (fun h => ?_) (fun h => ?_) <;> (try (simp only [decide_eq_true_eq, decide_eq_false_iff_not, bne_iff_ne, beq_iff_eq, bne_eq_false_iff_eq, beq_eq_false_iff_ne, Bool.not_eq_true, Bool.not_eq_true', Bool.not_eq_false, Bool.not_eq_false', ne_eq, Bool.and_eq_true, Bool.or_eq_true, true_eq_decide_iff, false_eq_decide_iff] at h)) <;> (try omega))
          | (exact ret_p rfl ⟨rfl, rfl⟩)
          | (refine ret_okv (by first | trivial | simp only [go_sem, detD, detDs, detP, and_self, and_true]) ?_)
          | (exact ret_gen _ _ _ rfl rfl rfl ⟨rfl, rfl⟩)
          | (simp only [Option.some.injEq, DV.tup.injEq, DV.p.injEq, List.cons.injEq, PV.int.injEq, PV.bool.injEq, and_true, true_and])
          | rfl
          | (refine Bool.eq_iff_iff.2 ?_; simp only [decide_eq_true_eq, Bool.and_eq_true, Bool.or_eq_true, Bool.not_eq_true', decide_eq_false_iff_not, Bool.false_eq_true, beq_iff_eq, bne_iff_ne, ne_eq, false_iff, iff_false, true_iff, iff_true]; omega)
          | omega)
        all_goals first
          | exact ⟨rfl, rfl⟩
          | (exfalso; exact hq (by assumption))
          | skip
  · rw [if_neg hc] at hmag
    generalize magO s = T at *
    have hsl : ¬ T.length < s.length := by rw [hmag]; omega
    have hsT : s = T := hmag.symm
    subst hsT
    have h14 : 1 < s.length → ¬ ((s.getD 0 default).toNat : Int) = 45 := fun h1 h2 => hc ⟨h1, (h45 _).1 h2⟩
    have h15 : (s.getD 0 0).toNat = (s.getD 0 default).toNat := rfl
    simp only [envOf, envFrom, go_sem, reduceIte, Nat.reduceEqDiff, Nat.reduceBEq]
    repeat' (first
      | (simp only [go_sem, reduceIte, Nat.reduceEqDiff, Nat.reduceBEq])
      | (simp (disch := omega) only [Int.toNat_zero])
      | (refine Rm_need (by first | exact True.intro | omega | (simp; omega)) ?_)
      | (refine Rm_w rfl (k_l1In _ _ _) (by trivial) ?_)
      | (refine Rm_w ?_ (k_l1In _ _ _) (by trivial) ?_; · (simp [viewOfs, viewOf, List.take_of_length_le, cutL]; done))
      | (refine Rm_gi (by first | omega | (simp; omega)) ?_)
      | (refine Rm_gb (by first | omega | (simp; omega)) ?_)
      | (refine Rm_ga (by first | omega | (simp; omega)) _ rfl (Nat.le_of_ble_eq_true rfl) ?_)
      | (refine Rm_gm (by first | omega | (simp; omega)) _ rfl ?_)
      | (refine Rm_part _ _ rfl rfl ?_)
      | (refine Rm_puti (by first | omega | (simp; omega)) rfl ?_)
      | (refine Dm_draw [] (by simp) ?_)
      | (refine Tm_both ?_ ?_)
      | (refine Tm_fin (by simp only [hideOK, newsE]; simp []) ?_)
      | (refine Cm_split (fun h => ?_) (fun h => ?_) <;> (try (simp only [decide_eq_true_eq, decide_eq_false_iff_not, beq_iff_eq, beq_eq_false_iff_ne, Bool.not_eq_true', Bool.not_eq_false', ne_eq] at h)) <;> (try omega))
      | (refine Gm_split (fun h => ?_) (fun h => ?_) <;> (try simp only [ne_eq, Bool.not_eq_true, Bool.not_eq_false] at h) <;> (try rw [h]) <;> (try (simp only [decide_eq_true_eq, decide_eq_false_iff_not, bne_iff_ne, beq_iff_eq, bne_eq_false_iff_eq, beq_eq_false_iff_ne, Bool.not_eq_true, Bool.not_eq_true', Bool.not_eq_false, Bool.not_eq_false', ne_eq, Bool.and_eq_true, Bool.or_eq_true, true_eq_decide_iff, false_eq_decide_iff] at h)) <;> (try omega))
      | (refine Sm_split (fun h => ?_) (fun h => ?_) <;> (try (simp only [decide_eq_true_eq, decide_eq_false_iff_not] at h)) <;> (try omega))
      | (exact ret_p rfl ⟨rfl, rfl⟩)
      | (refine ret_okv (by first | trivial | simp only [go_sem, detD, detDs, detP, and_self, and_true]) ?_)
      | (exact ret_gen _ _ _ rfl rfl rfl ⟨rfl, rfl⟩)
      | (simp only [Option.some.injEq, DV.tup.injEq, DV.p.injEq, List.cons.injEq, PV.int.injEq, PV.bool.injEq, and_true, true_and])
      | rfl
      | (refine Bool.eq_iff_iff.2 ?_; simp only [decide_eq_true_eq, Bool.and_eq_true, Bool.or_eq_true, Bool.not_eq_true', decide_eq_false_iff_not, Bool.false_eq_true, beq_iff_eq, bne_iff_ne, ne_eq, false_iff, iff_false, true_iff, iff_true]; omega)
      | omega)
    all_goals try (exfalso; exact h14 (by omega) (by omega))
    all_goals try (rw [hro, if_neg (by rw [hd]; grind)]; exact ⟨rfl, rfl⟩)
    all_goals (
        refine Dm_loop [0, 4, 5, 6] (fun m ds H' => ∃ i : Nat, i ≤ s.length ∧ m = s.length - i ∧ (s.take i).all digP = true ∧ ds = [.p (.str s), .p (.str s), .p (.int .i64 (valN (s.take i))), .p (.int .i64 i)] ∧ H' = []) s.length ⟨0, by omega, by omega, rfl, rfl, rfl⟩ ?_
        rintro m ds H' ⟨i, hi, rfl, hp, rfl, rfl⟩ -
        have h1 := fun h : i < s.length => dig_step h hp
        have h2 := fun h : i < s.length => dig_no h
        have h3 := fun h : i < s.length => val_step h
        have h4 : valN (s.take i) < 1000000 := by
          have := val_lt _ (s.take i) rfl hp
          have h5 : (s.take i).length ≤ 6 := by rw [List.length_take]; omega
          exact Nat.lt_of_lt_of_le this (Nat.le_trans (Nat.pow_le_pow_right (by omega) h5) (by decide))
        have h6 := u8_lt (s.getD i default)
        have h7 : digP (s.getD i default) = decide (48 ≤ (s.getD i default).toNat ∧ (s.getD i default).toNat ≤ 57) := rfl
        have h8 : s.length ≤ i → s.all digP = true := fun h => by rwa [List.take_of_length_le h] at hp
        have h9 : s.length ≤ i → s.take i = s := fun h => List.take_of_length_le h
        have e0 : (s.getD i 0).toNat = (s.getD i default).toNat := rfl
        rcases Nat.lt_or_ge i s.length with hlt | hge
        · repeat' (first
            | (simp only [go_sem, reduceIte, Nat.reduceEqDiff, Nat.reduceBEq])
            | (simp (disch := omega) only [w64, w8, nadd1])
            | (refine Rm_need (by first | exact True.intro | omega | (simp; omega)) ?_)
            | (refine Rm_gi (by first | omega | (simp; omega)) ?_)
            | (refine Rm_gb (by first | omega | (simp; omega)) ?_)
            | (refine Rm_ga (by first | omega | (simp; omega)) _ rfl (Nat.le_of_ble_eq_true rfl) ?_)
            | (refine Rm_gm (by first | omega | (simp; omega)) _ rfl ?_)
            | (refine Rm_part _ _ rfl rfl ?_)
            | (refine Rm_puti (by first | omega | (simp; omega)) rfl ?_)
            | (refine Dm_draw [] (by simp) ?_)
            | (refine Tm_both ?_ ?_)
            | (refine Tm_fin (by simp only [hideOK, newsE]; simp []) ?_)
            | (refine Cm_split (fun h => ?_) (fun h => ?_) <;> (try (simp only [decide_eq_true_eq, decide_eq_false_iff_not] at h)) <;> (try omega))
            | (refine Gm_split (fun h => ?_) (fun h => ?_) <;> (try simp only [ne_eq, Bool.not_eq_true, Bool.not_eq_false] at h) <;> (try rw [h]) <;> (try (simp only [decide_eq_true_eq, decide_eq_false_iff_not, bne_iff_ne, beq_iff_eq, bne_eq_false_iff_eq, beq_eq_false_iff_ne, Bool.not_eq_true, Bool.not_eq_true', Bool.not_eq_false, Bool.not_eq_false', ne_eq, Bool.and_eq_true, Bool.or_eq_true, true_eq_decide_iff, false_eq_decide_iff] at h)) <;> (try omega))
            | (refine Sm_split (fun h => ?_) (fun h => ?_) <;> (try (simp only [decide_eq_true_eq, decide_eq_false_iff_not] at h)) <;> (try omega))
            | (exact ret_p rfl ⟨rfl, rfl⟩)
            | (refine ret_okv (by first | trivial | simp only [go_sem, detD, detDs, detP, and_self, and_true]) ?_)
            | (exact ret_gen _ _ _ rfl rfl rfl ⟨rfl, rfl⟩)
            | (simp only [Option.some.injEq, DV.tup.injEq, DV.p.injEq, List.cons.injEq, PV.int.injEq, PV.bool.injEq, and_true, true_and])
            | rfl
            | (refine Bool.eq_iff_iff.2 ?_; simp only [decide_eq_true_eq, Bool.and_eq_true, Bool.or_eq_true, Bool.not_eq_true', decide_eq_false_iff_not, Bool.false_eq_true, beq_iff_eq, bne_iff_ne, ne_eq, false_iff, iff_false, true_iff, iff_true]; omega)
            | omega)
          all_goals first
            | (refine Xm_inv_n (s.length - (i + 1)) (by omega) ⟨i + 1, by omega, rfl, ?_, ?_, rfl⟩
               · rw [h1 (by omega), h7]; simp only [decide_eq_true_eq]; omega
               · rw [h3 (by omega), show ((10 * valN (s.take i) + ((s.getD i default).toNat - 48) : Nat) : Int) = 10 * (valN (s.take i) : Int) + (((s.getD i 0).toNat : Int) - 48) from by omega]; rfl)
            | (rw [hro, if_neg (by rw [hd, h2 (by omega) (by rw [h7]; simp only [decide_eq_false_iff_not]; omega)]; simp)]; exact ⟨rfl, rfl⟩)
            | skip
        · rw [h9 hge]
          have h8 := h8 hge
          have hv : valN s < 1000000 := by rw [← h9 hge]; exact h4
          have hnum := k_l1Num (rdI s) (by rw [hi0]; split <;> omega)
          rw [hi0] at hnum hro hd
          rw [if_neg hsl] at hnum hro hd
          by_cases hq : num ((valN s : Int)) = s
          · rw [hro, if_pos (by rw [hd, h8]; grind)]
            rw [hq] at hnum
            repeat' (first
              | (simp only [go_sem, reduceIte, Nat.reduceEqDiff])
              | (simp (disch := omega) only [w64, w8, bytesOf_cons, tmod10, tdiv10, tn48, nsub1, nadd1, nsub, nadd, nmul, List.take_length, Int.toNat_zero, Int.reduceAdd, Int.reduceSub, Int.reduceToNat, Int.reduceMul, Nat.sub_zero, Nat.min_self])
              | (refine Rm_need (by first | exact True.intro | omega | (simp; omega)) ?_)
              | (refine Rm_w rfl (hnum) (by trivial) ?_)
              | (refine Rm_w ?_ (hnum) (by trivial) ?_; · (simp [viewOfs, viewOf, List.take_of_length_le, cutL]; done))
              | (refine Rm_gi (by first | omega | (simp; omega)) ?_)
              | (refine Rm_gb (by first | omega | (simp; omega)) ?_)
              | (refine Rm_ga (by first | omega | (simp; omega)) _ rfl (Nat.le_of_ble_eq_true rfl) ?_)
              | (refine Rm_gm (by first | omega | (simp; omega)) _ rfl ?_)
              | (refine Rm_part _ _ rfl rfl ?_)
              | (refine Rm_puti (by first | omega | (simp; omega)) rfl ?_)
              | (refine Dm_draw [] (by simp) ?_)
              | (refine Tm_both ?_ ?_)
              | (refine Tm_fin (by simp only [hideOK, newsE]; simp []) ?_)
              | (refine Cm_split (fun h => ?_) (fun h => ?_) <;> (try (simp only [decide_eq_true_eq, decide_eq_false_iff_not] at h)) <;> (try omega))
              | (refine Gm_split (fun h => ?_) (fun h => ?_) <;> (try simp only [ne_eq, Bool.not_eq_true, Bool.not_eq_false] at h) <;> (try rw [h]) <;> (try (simp only [decide_eq_true_eq, decide_eq_false_iff_not, bne_iff_ne, beq_iff_eq, bne_eq_false_iff_eq, beq_eq_false_iff_ne, Bool.not_eq_true, Bool.not_eq_true', Bool.not_eq_false, Bool.not_eq_false', ne_eq, Bool.and_eq_true, Bool.or_eq_true, true_eq_decide_iff, false_eq_decide_iff] at h)) <;> (try omega))
              | (refine Sm_split (fun h => ?_) (fun h => ?_) <;> (try (simp only [decide_eq_true_eq, decide_eq_false_iff_not, bne_iff_ne, beq_iff_eq, bne_eq_false_iff_eq, beq_eq_false_iff_ne, Bool.not_eq_true, Bool.not_eq_true', Bool.not_eq_false, Bool.not_eq_false', ne_eq, Bool.and_eq_true, Bool.or_eq_true, true_eq_decide_iff, false_eq_decide_iff] at h)) <;> (try omega))
              | (exact ret_p rfl ⟨rfl, rfl⟩)
              | (refine ret_okv (by first | trivial | simp only [go_sem, detD, detDs, detP, and_self, and_true]) ?_)
              | (exact ret_gen _ _ _ rfl rfl rfl ⟨rfl, rfl⟩)
              | (simp only [Option.some.injEq, DV.tup.injEq, DV.p.injEq, List.cons.injEq, PV.int.injEq, PV.bool.injEq, PV.str.injEq, and_true, true_and])
              | rfl
              | (refine Bool.eq_iff_iff.2 ?_; simp only [decide_eq_true_eq, Bool.and_eq_true, Bool.or_eq_true, Bool.not_eq_true', decide_eq_false_iff_not, Bool.false_eq_true, beq_iff_eq, bne_iff_ne, ne_eq, false_iff, iff_false, true_iff, iff_true]; omega)
              | omega)
            all_goals skip
          · rw [hro, if_neg (by rw [hd]; grind)]
            repeat' (first
              | (simp only [go_sem, reduceIte, Nat.reduceEqDiff])
              | (simp (disch := omega) only [w64, w8, bytesOf_cons, tmod10, tdiv10, tn48, nsub1, nadd1, nsub, nadd, nmul, List.take_length, Int.toNat_zero, Int.reduceAdd, Int.reduceSub, Int.reduceToNat, Int.reduceMul, Nat.sub_zero, Nat.min_self])
              | (refine Rm_need (by first | exact True.intro | omega | (simp; omega)) ?_)
              | (refine Rm_w rfl (hnum) (by trivial) ?_)
              | (refine Rm_w ?_ (hnum) (by trivial) ?_; · (simp [viewOfs, viewOf, List.take_of_length_le, cutL]; done))
              | (refine Rm_gi (by first | omega | (simp; omega)) ?_)
              | (refine Rm_gb (by first | omega | (simp; omega)) ?_)
              | (refine Rm_ga (by first | omega | (simp; omega)) _ rfl (Nat.le_of_ble_eq_true rfl) ?_)
              | (refine Rm_gm (by first | omega | (simp; omega)) _ rfl ?_)
              | (refine Rm_part _ _ rfl rfl ?_)
              | (refine Rm_puti (by first | omega | (simp; omega)) rfl ?_)
              | (refine Dm_draw [] (by simp) ?_)
              | (refine Tm_both ?_ ?_)
              | (refine Tm_fin (by simp only [hideOK, newsE]; simp []) ?_)
              | (refine Cm_split (fun h => ?_) (fun h => ?_) <;> (try (simp only [decide_eq_true_eq, decide_eq_false_iff_not, beq_iff_eq, beq_eq_false_iff_ne, Bool.not_eq_true', Bool.not_eq_false', ne_eq] at h)) <;> (try omega))
              | (refine Gm_split (fun h => ?_) (fun h => ?_) <;> (try simp only [ne_eq, Bool.not_eq_true, Bool.not_eq_false] at h) <;> (try rw [h]) <;> (try (simp only [decide_eq_true_eq, decide_eq_false_iff_not, bne_iff_ne, beq_iff_eq, bne_eq_false_iff_eq, beq_eq_false_iff_ne, Bool.not_eq_true, Bool.not_eq_true', Bool.not_eq_false, Bool.not_eq_false', ne_eq, Bool.and_eq_true, Bool.or_eq_true, true_eq_decide_iff, false_eq_decide_iff] at h)) <;> (try omega))
              | (refine Sm_split (fun h => ?_) (fun h => ?_) <;> (try (simp only [decide_eq_true_eq, decide_eq_false_iff_not, bne_iff_ne, beq_iff_eq, bne_eq_false_iff_eq, beq_eq_false_iff_ne, Bool.not_eq_true, Bool.not_eq_true', Bool.not_eq_false, Bool.not_eq_false', ne_eq, Bool.and_eq_true, Bool.or_eq_true, true_eq_decide_iff, false_eq_decide_iff] at h)) <;> (try omega))
              | (exact ret_p rfl ⟨rfl, rfl⟩)
              | (refine ret_okv (by first | trivial | simp only [go_sem, detD, detDs, detP, and_self, and_true]) ?_)
              | (exact ret_gen _ _ _ rfl rfl rfl ⟨rfl, rfl⟩)
              | (simp only [Option.some.injEq, DV.tup.injEq, DV.p.injEq, List.cons.injEq, PV.int.injEq, PV.bool.injEq, and_true, true_and])
              | rfl
              | (refine Bool.eq_iff_iff.2 ?_; simp only [decide_eq_true_eq, Bool.and_eq_true, Bool.or_eq_true, Bool.not_eq_true', decide_eq_false_iff_not, Bool.false_eq_true, beq_iff_eq, bne_iff_ne, ne_eq, false_iff, iff_false, true_iff, iff_true]; omega)
              | omega)
            all_goals first
              | exact ⟨rfl, rfl⟩
              | (exfalso; exact hq (by assumption))
              | skip)
end Go.Proofs.Ytgpalnoopmjlpaa

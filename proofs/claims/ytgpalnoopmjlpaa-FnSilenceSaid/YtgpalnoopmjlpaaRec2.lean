import Derived.Test.YtgpalnoopmjlpaaRec1
namespace Go.Proofs.Ytgpalnoopmjlpaa
open Go.Dv Go.Dv.EvL
attribute [local irreducible] Ok Rm Dm Om Sm Xm Cm Gm Hm Tm

/-- a recording and whether it is one -/
def OutO (o : List Rcd × Bool) (d : DV) (H : Heap) : Prop := d = .tup [.own 0 0 o.1.length, .p (.bool o.2)] ∧ H = [.arr 58 2 (o.1.map Rcd.pv)]
def OutN (o : List Rcd × Bool) (d : DV) (H : Heap) : Prop := OutO o d H ∨ (d = .tup [.nil, .p (.bool o.2)] ∧ H = [] ∧ o.1 = [])
theorem rcd_app {zs : List Rcd} {a : Int} {b : List UInt8} : zs.map Rcd.pv ++ [.agg [.int .i64 a, .str b]] = (zs ++ [(⟨a, b⟩ : Rcd)]).map Rcd.pv := by simp [Rcd.pv]
theorem fits_len {xs : List Rcd} (hf : Fits xs) : ∀ r ∈ xs, r.hex.length ≤ 1099511627776 := fun r hr => by have := hf.2 r hr; omega

/-! ### a cut -/
def inP (f t : Int) (r : Rcd) : Bool := decide (f ≤ r.sec ∧ r.sec ≤ t)
def cutB (xs : List Rcd) (f t : Int) : Bool := recsB xs && decide (0 ≤ f ∧ f ≤ 86400) && decide (0 ≤ t ∧ t ≤ 86400) && decide (f ≤ t)
def cutO (xs : List Rcd) (f t : Int) : List Rcd × Bool := if cutB xs f t = true then (xs.filter (inP f t), true) else ([], false)
theorem filter_step {p : Rcd → Bool} {xs : List Rcd} {i : Nat} (h : i < xs.length) : (xs.take (i + 1)).filter p = (xs.take i).filter p ++ (if p (xs.getD i default) = true then [xs.getD i default] else []) := by
  rw [take_snoc (d := default) h, List.filter_append]
  simp only [List.filter_cons, List.filter_nil]
theorem filter_len {p : Rcd → Bool} {xs : List Rcd} {i : Nat} : ((xs.take i).filter p).length ≤ xs.length := by
  have := List.length_filter_le p (xs.take i)
  rw [List.length_take] at this
  omega
set_option maxRecDepth 100000 in
set_option maxHeartbeats 16000000 in
/-- impl.CutRecording -/
theorem k_iCut (xs : List Rcd) (f t : Int) (hf : Fits xs) : Okw Try.prog 26 [rcdS xs, .int .i64 f, .int .i64 t] (OutN (cutO xs f t)) := by
  refine ok_D hmix c_impl_CutRecording (by simp) ?_
  have hg := k_iRecs xs hf.1 (fits_len hf)
  have hd : cutB xs f t = (recsB xs && decide (0 ≤ f ∧ f ≤ 86400) && decide (0 ≤ t ∧ t ≤ 86400) && decide (f ≤ t)) := rfl
  unfold OutN OutO cutO
  cases hc : cutB xs f t
  · rw [if_neg (by simp)]
    generalize recsB xs = b at *
    simp only [envOf, envFrom, go_sem, reduceIte, Nat.reduceEqDiff, Nat.reduceBEq, Nat.reduceAdd]
    repeat' (first
      | (simp only [go_sem, reduceIte, Nat.reduceEqDiff, Nat.reduceBEq])
      | (simp (disch := omega) only [w64, w8, bytesOf_cons, tmod10, tdiv10, tn48, nsub1, nadd1, nsub, nadd, nmul, List.take_length, Int.toNat_zero, Int.reduceAdd, Int.reduceSub, Int.reduceToNat, Int.reduceMul, Nat.sub_zero, Nat.min_self])
      | (refine Rm_need (by first | exact True.intro | omega | (simp; omega)) ?_)
      | (refine Rm_w rfl (hg) (by trivial) ?_)
      | (refine Rm_w ?_ (hg) (by trivial) ?_; · (simp [viewOfs, viewOf, List.take_of_length_le, cutL]; done))
      | (refine Rm_w rfl (k_isSecond _) (by trivial) ?_)
      | (refine Rm_w ?_ (k_isSecond _) (by trivial) ?_; · (simp [viewOfs, viewOf, List.take_of_length_le, cutL]; done))
      | (refine Rm_gi (by first | omega | (simp; omega)) ?_)
      | (refine Rm_gb (by first | omega | (simp; omega)) ?_)
      | (refine Rm_ga (by first | omega | (simp; omega)) _ rfl (Nat.le_of_ble_eq_true rfl) ?_)
      | (refine Rm_gm (by first | omega | (simp; omega)) _ rfl ?_)
      | (refine Rm_part _ _ rfl rfl ?_)
      | (refine Rm_puti (by first | omega | (simp; omega)) rfl ?_)
      | (refine Dm_draw [] (by simp) ?_)
      | (refine Tm_both ?_ ?_)
      | (refine Tm_fin (by simp only [hideOK, newsE]; simp []) ?_)
      | (refine Cm_split (fun h => ?_) (fun h => ?_) <;> (try (simp only [decide_eq_true_eq, decide_eq_false_iff_not] at h)) <;> (try omega))
      | (refine Gm_split (fun h => ?_) (fun h => ?_) <;> (try simp only [ne_eq, Bool.not_eq_true, Bool.not_eq_false] at h) <;> (try rw [h]) <;> (try (simp only [decide_eq_true_eq, decide_eq_false_iff_not, bne_iff_ne, beq_iff_eq, bne_eq_false_iff_eq, beq_eq_false_iff_ne, Bool.not_eq_true, Bool.not_eq_true', Bool.not_eq_false, Bool.not_eq_false', ne_eq, Bool.and_eq_true, Bool.or_eq_true, true_eq_decide_iff, false_eq_decide_iff] at h)) <;> (try omega))
      | (refine Sm_split (fun h => ?_) (fun h => ?_) <;> (try (simp only [decide_eq_true_eq, decide_eq_false_iff_not, Bool.not_eq_true', Bool.not_eq_false'] at h)) <;> (try omega))
      | (exact ret_p rfl ⟨rfl, rfl⟩)
      | (refine ret_okv (by first | trivial | simp only [go_sem, detD, detDs, detP, and_self, and_true]) ?_)
      | (exact ret_gen _ _ _ rfl rfl rfl ⟨rfl, rfl⟩)
      | (simp only [Option.some.injEq, DV.tup.injEq, DV.p.injEq, List.cons.injEq, PV.int.injEq, PV.bool.injEq, PV.str.injEq, and_true, true_and])
      | rfl
      | (refine Bool.eq_iff_iff.2 ?_; simp only [decide_eq_true_eq, Bool.and_eq_true, Bool.or_eq_true, Bool.not_eq_true', decide_eq_false_iff_not, Bool.false_eq_true, beq_iff_eq, bne_iff_ne, ne_eq, false_iff, iff_false, true_iff, iff_true]; omega)
      | omega)
    all_goals first
      | exact ret_gen _ _ _ rfl rfl rfl (.inr ⟨rfl, rfl⟩)
      | exact ret_gen _ _ _ rfl rfl rfl (.inr ⟨rfl, rfl, rfl⟩)
      | grind
  · rw [if_pos rfl]
    rw [hc] at hd
    have hv : recsB xs = true ∧ (0 ≤ f ∧ f ≤ 86400) ∧ (0 ≤ t ∧ t ≤ 86400) ∧ f ≤ t := by
      simp only [Bool.true_eq, Bool.and_eq_true, decide_eq_true_eq] at hd
      exact ⟨hd.1.1.1, hd.1.1.2, hd.1.2, hd.2⟩
    rw [hv.1] at hg
    have hl := (recs_at hv.1).1
    simp only [envOf, envFrom, go_sem, reduceIte, Nat.reduceEqDiff, Nat.reduceBEq, Nat.reduceAdd]
    repeat' (first
      | (simp only [go_sem, reduceIte, Nat.reduceEqDiff, Nat.reduceBEq])
      | (simp (disch := omega) only [w64, w8, bytesOf_cons, tmod10, tdiv10, tn48, nsub1, nadd1, nsub, nadd, nmul, List.take_length, Int.toNat_zero, Int.reduceAdd, Int.reduceSub, Int.reduceToNat, Int.reduceMul, Nat.sub_zero, Nat.min_self])
      | (refine Rm_need (by first | exact True.intro | omega | (simp; omega)) ?_)
      | (refine Rm_w rfl (hg) (by trivial) ?_)
      | (refine Rm_w ?_ (hg) (by trivial) ?_; · (simp [viewOfs, viewOf, List.take_of_length_le, cutL]; done))
      | (refine Rm_w rfl (k_isSecond _) (by trivial) ?_)
      | (refine Rm_w ?_ (k_isSecond _) (by trivial) ?_; · (simp [viewOfs, viewOf, List.take_of_length_le, cutL]; done))
      | (refine Rm_gi (by first | omega | (simp; omega)) ?_)
      | (refine Rm_gb (by first | omega | (simp; omega)) ?_)
      | (refine Rm_ga (by first | omega | (simp; omega)) _ rfl (Nat.le_of_ble_eq_true rfl) ?_)
      | (refine Rm_gm (by first | omega | (simp; omega)) _ rfl ?_)
      | (refine Rm_part _ _ rfl rfl ?_)
      | (refine Rm_puti (by first | omega | (simp; omega)) rfl ?_)
      | (refine Dm_draw [] (by simp) ?_)
      | (refine Tm_both ?_ ?_)
      | (refine Tm_fin (by simp only [hideOK, newsE]; simp []) ?_)
      | (refine Cm_split (fun h => ?_) (fun h => ?_) <;> (try (simp only [decide_eq_true_eq, decide_eq_false_iff_not] at h)) <;> (try omega))
      | (refine Gm_split (fun h => ?_) (fun h => ?_) <;> (try simp only [ne_eq, Bool.not_eq_true, Bool.not_eq_false] at h) <;> (try rw [h]) <;> (try (simp only [decide_eq_true_eq, decide_eq_false_iff_not, bne_iff_ne, beq_iff_eq, bne_eq_false_iff_eq, beq_eq_false_iff_ne, Bool.not_eq_true, Bool.not_eq_true', Bool.not_eq_false, Bool.not_eq_false', ne_eq, Bool.and_eq_true, Bool.or_eq_true, true_eq_decide_iff, false_eq_decide_iff] at h)) <;> (try omega))
      | (refine Sm_split (fun h => ?_) (fun h => ?_) <;> (try (simp only [decide_eq_true_eq, decide_eq_false_iff_not, Bool.not_eq_true', Bool.not_eq_false'] at h)) <;> (try omega))
      | (exact ret_p rfl ⟨rfl, rfl⟩)
      | (refine ret_okv (by first | trivial | simp only [go_sem, detD, detDs, detP, and_self, and_true]) ?_)
      | (exact ret_gen _ _ _ rfl rfl rfl ⟨rfl, rfl⟩)
      | (simp only [Option.some.injEq, DV.tup.injEq, DV.p.injEq, List.cons.injEq, PV.int.injEq, PV.bool.injEq, PV.str.injEq, and_true, true_and])
      | rfl
      | (refine Bool.eq_iff_iff.2 ?_; simp only [decide_eq_true_eq, Bool.and_eq_true, Bool.or_eq_true, Bool.not_eq_true', decide_eq_false_iff_not, Bool.false_eq_true, beq_iff_eq, bne_iff_ne, ne_eq, false_iff, iff_false, true_iff, iff_true]; omega)
      | omega)
    refine Dm_loop [1, 2, 8, 29, 30, 31] (fun m ds H' => ∃ i : Nat, i ≤ xs.length ∧ m = xs.length - i ∧
      ((ds = [.p (.int .i64 f), .p (.int .i64 t), .own 0 0 ((xs.take i).filter (inP f t)).length, .p (rcdS xs), .p (.int .i64 xs.length), .p (.int .i64 i)] ∧ H' = [.arr 58 2 (((xs.take i).filter (inP f t)).map Rcd.pv)]) ∨
       (ds = [.p (.int .i64 f), .p (.int .i64 t), .nil, .p (rcdS xs), .p (.int .i64 xs.length), .p (.int .i64 i)] ∧ H' = [] ∧ (xs.take i).filter (inP f t) = []))) xs.length ⟨0, by omega, by omega, .inr ⟨rfl, rfl, rfl⟩⟩ ?_
    rintro m ds H' ⟨i, hi, rfl, hh⟩ -
    have h1 := fun h : i < xs.length => filter_step (p := inP f t) h
    have h2 := filter_len (p := inP f t) (xs := xs) (i := i)
    have h3 : inP f t (xs.getD i default) = decide (f ≤ (xs.getD i default).sec ∧ (xs.getD i default).sec ≤ t) := rfl
    generalize hZ : (xs.take i).filter (inP f t) = Z at *
    rcases hh with ⟨rfl, rfl⟩ | ⟨rfl, rfl, rfl⟩
    · repeat' (first
        | (simp only [go_sem, Nat.lt_add_one, reduceIte, Nat.reduceEqDiff, Nat.reduceAdd, Nat.reduceMul, Nat.reduceLeDiff, Bool.false_eq_true])
        | (simp (disch := omega) only [w64, nadd1, List.take_length])
        | (refine Rm_need (by first | exact True.intro | omega | (simp; omega)) ?_)
        | (refine Rm_w rfl (k_within _ _ _) (by trivial) ?_)
        | (refine Rm_w ?_ (k_within _ _ _) (by trivial) ?_; · (simp [viewOfs, viewOf, List.take_of_length_le, cutL]; done))
        | (rw [rcd_app])
        | (refine Rm_gi (by first | omega | (simp; omega)) ?_)
        | (refine Rm_gb (by first | omega | (simp; omega)) ?_)
        | (refine Rm_ga (by first | omega | (simp; omega)) _ rfl (Nat.le_of_ble_eq_true rfl) ?_)
        | (refine Rm_gm (by first | omega | (simp; omega)) _ rfl ?_)
        | (refine Rm_part _ _ rfl rfl ?_)
        | (refine Rm_puti (by first | omega | (simp; omega)) rfl ?_)
        | (refine Dm_draw [] (by simp) ?_)
        | (refine Tm_both ?_ ?_)
        | (refine Tm_fin (by simp only [hideOK, newsE]; simp []) ?_)
        | (refine Cm_split (fun h => ?_) (fun h => ?_) <;> (try (simp only [decide_eq_true_eq, decide_eq_false_iff_not] at h)) <;> (try omega))
        | (refine Gm_split (fun h => ?_) (fun h => ?_) <;> (try simp only [ne_eq, Bool.not_eq_true, Bool.not_eq_false] at h) <;> (try rw [h]) <;> (try (simp only [decide_eq_true_eq, decide_eq_false_iff_not, bne_iff_ne, beq_iff_eq, bne_eq_false_iff_eq, beq_eq_false_iff_ne, Bool.not_eq_true, Bool.not_eq_true', Bool.not_eq_false, Bool.not_eq_false', ne_eq, Bool.and_eq_true, Bool.or_eq_true, true_eq_decide_iff, false_eq_decide_iff] at h)) <;> (try omega))
        | (refine Sm_split (fun h => ?_) (fun h => ?_) <;> (try (simp only [decide_eq_true_eq, decide_eq_false_iff_not, bne_iff_ne, beq_iff_eq, bne_eq_false_iff_eq, beq_eq_false_iff_ne, Bool.not_eq_true, Bool.not_eq_true', Bool.not_eq_false, Bool.not_eq_false', ne_eq, Bool.and_eq_true, Bool.or_eq_true, true_eq_decide_iff, false_eq_decide_iff] at h)) <;> (try omega))
        | (exact ret_p rfl ⟨rfl, rfl⟩)
        | (refine ret_okv (by first | trivial | simp only [go_sem, detD, detDs, detP, and_self, and_true]) ?_)
        | (exact ret_gen _ _ _ rfl rfl rfl ⟨rfl, rfl⟩)
        | (simp only [Option.some.injEq, DV.tup.injEq, DV.p.injEq, List.cons.injEq, PV.int.injEq, PV.bool.injEq, PV.str.injEq, and_true, true_and])
        | rfl
        | (refine Bool.eq_iff_iff.2 ?_; simp only [decide_eq_true_eq, Bool.and_eq_true, Bool.or_eq_true, Bool.not_eq_true', decide_eq_false_iff_not, Bool.false_eq_true, beq_iff_eq, bne_iff_ne, ne_eq, false_iff, iff_false, true_iff, iff_true]; omega)
        | omega)
      all_goals first
        | (refine Xm_inv_n (xs.length - (i + 1)) (by omega) ⟨i + 1, by omega, rfl, .inl ⟨?_, ?_⟩⟩
           · rw [h1 (by omega), h3, if_pos (decide_eq_true (by assumption)), List.length_append]; rfl
           · rw [h1 (by omega), h3, if_pos (decide_eq_true (by assumption))]; rfl)
        | (refine Xm_inv_n (xs.length - (i + 1)) (by omega) ⟨i + 1, by omega, rfl, .inl ⟨?_, ?_⟩⟩
           · rw [h1 (by omega), h3, if_neg (fun hh => absurd (of_decide_eq_true hh) (by assumption)), List.append_nil]; rfl
           · rw [h1 (by omega), h3, if_neg (fun hh => absurd (of_decide_eq_true hh) (by assumption)), List.append_nil]; rfl)
        | (rw [List.take_of_length_le (by omega)] at hZ
           rw [hZ]
           exact ret_gen _ _ _ rfl rfl rfl (.inl ⟨rfl, rfl⟩))
        | skip
    · repeat' (first
        | (simp only [go_sem, Nat.lt_add_one, reduceIte, Nat.reduceEqDiff, Nat.reduceAdd, Nat.reduceMul, Nat.reduceLeDiff, Bool.false_eq_true])
        | (simp (disch := omega) only [w64, nadd1])
        | (refine Rm_need (by first | exact True.intro | omega | (simp; omega)) ?_)
        | (refine Rm_w rfl (k_within _ _ _) (by trivial) ?_)
        | (refine Rm_w ?_ (k_within _ _ _) (by trivial) ?_; · (simp [viewOfs, viewOf, List.take_of_length_le, cutL]; done))
        | (refine Rm_gi (by first | omega | (simp; omega)) ?_)
        | (refine Rm_gb (by first | omega | (simp; omega)) ?_)
        | (refine Rm_ga (by first | omega | (simp; omega)) _ rfl (Nat.le_of_ble_eq_true rfl) ?_)
        | (refine Rm_gm (by first | omega | (simp; omega)) _ rfl ?_)
        | (refine Rm_part _ _ rfl rfl ?_)
        | (refine Rm_puti (by first | omega | (simp; omega)) rfl ?_)
        | (refine Dm_draw [] (by simp) ?_)
        | (refine Tm_both ?_ ?_)
        | (refine Tm_fin (by simp only [hideOK, newsE]; simp []) ?_)
        | (refine Cm_split (fun h => ?_) (fun h => ?_) <;> (try (simp only [decide_eq_true_eq, decide_eq_false_iff_not] at h)) <;> (try omega))
        | (refine Gm_split (fun h => ?_) (fun h => ?_) <;> (try simp only [ne_eq, Bool.not_eq_true, Bool.not_eq_false] at h) <;> (try rw [h]) <;> (try (simp only [decide_eq_true_eq, decide_eq_false_iff_not, bne_iff_ne, beq_iff_eq, bne_eq_false_iff_eq, beq_eq_false_iff_ne, Bool.not_eq_true, Bool.not_eq_true', Bool.not_eq_false, Bool.not_eq_false', ne_eq, Bool.and_eq_true, Bool.or_eq_true, true_eq_decide_iff, false_eq_decide_iff] at h)) <;> (try omega))
        | (refine Sm_split (fun h => ?_) (fun h => ?_) <;> (try (simp only [decide_eq_true_eq, decide_eq_false_iff_not, bne_iff_ne, beq_iff_eq, bne_eq_false_iff_eq, beq_eq_false_iff_ne, Bool.not_eq_true, Bool.not_eq_true', Bool.not_eq_false, Bool.not_eq_false', ne_eq, Bool.and_eq_true, Bool.or_eq_true, true_eq_decide_iff, false_eq_decide_iff] at h)) <;> (try omega))
        | (exact ret_p rfl ⟨rfl, rfl⟩)
        | (refine ret_okv (by first | trivial | simp only [go_sem, detD, detDs, detP, and_self, and_true]) ?_)
        | (exact ret_gen _ _ _ rfl rfl rfl ⟨rfl, rfl⟩)
        | (simp only [Option.some.injEq, DV.tup.injEq, DV.p.injEq, List.cons.injEq, PV.int.injEq, PV.bool.injEq, PV.str.injEq, and_true, true_and])
        | rfl
        | (refine Bool.eq_iff_iff.2 ?_; simp only [decide_eq_true_eq, Bool.and_eq_true, Bool.or_eq_true, Bool.not_eq_true', decide_eq_false_iff_not, Bool.false_eq_true, beq_iff_eq, bne_iff_ne, ne_eq, false_iff, iff_false, true_iff, iff_true]; omega)
        | omega)
      all_goals first
        | (refine Xm_inv_n (xs.length - (i + 1)) (by omega) ⟨i + 1, by omega, rfl, .inl ⟨?_, ?_⟩⟩
           · rw [h1 (by omega), h3, if_pos (decide_eq_true (by assumption))]; rfl
           · rw [h1 (by omega), h3, if_pos (decide_eq_true (by assumption))]; rfl)
        | (refine Xm_inv_n (xs.length - (i + 1)) (by omega) ⟨i + 1, by omega, rfl, .inr ⟨rfl, rfl, ?_⟩⟩
           rw [h1 (by omega), h3, if_neg (fun hh => absurd (of_decide_eq_true hh) (by assumption))]; rfl)
        | (rw [List.take_of_length_le (by omega)] at hZ
           rw [hZ]
           exact ret_gen _ _ _ rfl rfl rfl (.inr ⟨rfl, rfl, rfl⟩))
        | skip

/-! ### a shift -/
def moveR (n : Int) (r : Rcd) : Rcd := ⟨r.sec + n, r.hex⟩
def shiftB (xs : List Rcd) (n : Int) : Bool := recsB xs && decide (-86400 ≤ n ∧ n ≤ 86400)
def shiftO (xs : List Rcd) (n : Int) : List Rcd × Bool := if shiftB xs n = true ∧ recsB (xs.map (moveR n)) = true then (xs.map (moveR n), true) else ([], false)
theorem move_at {xs : List Rcd} {n : Int} {i : Nat} (h : i < xs.length) : (xs.take (i + 1)).map (moveR n) = (xs.take i).map (moveR n) ++ [⟨(xs.getD i default).sec + n, (xs.getD i default).hex⟩] := by
  rw [take_snoc (d := default) h, List.map_append]
  rfl
theorem move_fits {xs : List Rcd} {n : Int} (hf : Fits xs) : Fits (xs.map (moveR n)) := by
  refine ⟨by simp; exact hf.1, fun r hr => ?_⟩
  simp only [List.mem_map] at hr
  obtain ⟨q, hq, rfl⟩ := hr
  exact hf.2 q hq
set_option maxRecDepth 100000 in
set_option maxHeartbeats 16000000 in
/-- spec.ShiftRecording -/
theorem k_sShift (xs : List Rcd) (n : Int) (hf : Fits xs) : Okw Try.prog 29 [rcdS xs, .int .i64 n] (OutO (shiftO xs n)) := by
  refine ok_D hmix c_spec_ShiftRecording (by simp) ?_
  have hg := k_l25Good xs hf.1 (fits_len hf)
  have hg2 := k_l25Good (xs.map (moveR n)) (move_fits hf).1 (fits_len (move_fits hf))
  have hd : shiftB xs n = (recsB xs && decide (-86400 ≤ n ∧ n ≤ 86400)) := rfl
  unfold OutO shiftO
  cases hc : shiftB xs n
  · rw [if_neg (by simp)]
    generalize recsB xs = b at *
    simp only [envOf, envFrom, go_sem, Nat.lt_add_one, reduceIte, Nat.reduceEqDiff, Nat.reduceBEq, Nat.reduceAdd, Nat.reduceMul, Nat.reduceLeDiff]
    repeat' (first
      | (simp only [go_sem, reduceIte, Nat.reduceEqDiff, Nat.reduceBEq])
      | (simp (disch := omega) only [w64, w8, bytesOf_cons, tmod10, tdiv10, tn48, nsub1, nadd1, nsub, nadd, nmul, List.take_length, Int.toNat_zero, Int.reduceAdd, Int.reduceSub, Int.reduceToNat, Int.reduceMul, Nat.sub_zero, Nat.min_self])
      | (refine Rm_need (by first | exact True.intro | omega | (simp; omega)) ?_)
      | (refine Rm_w rfl (hg) (by trivial) ?_)
      | (refine Rm_w ?_ (hg) (by trivial) ?_; · (simp [viewOfs, viewOf, List.take_of_length_le, cutL]; done))
      | (refine Rm_w rfl (k_l1In _ _ _) (by trivial) ?_)
      | (refine Rm_w ?_ (k_l1In _ _ _) (by trivial) ?_; · (simp [viewOfs, viewOf, List.take_of_length_le, cutL]; done))
      | (refine Rm_gi (by first | omega | (simp; omega)) ?_)
      | (refine Rm_gb (by first | omega | (simp; omega)) ?_)
      | (refine Rm_ga (by first | omega | (simp; omega)) _ rfl (Nat.le_of_ble_eq_true rfl) ?_)
      | (refine Rm_gm (by first | omega | (simp; omega)) _ rfl ?_)
      | (refine Rm_part _ _ rfl rfl ?_)
      | (refine Rm_puti (by first | omega | (simp; omega)) rfl ?_)
      | (refine Dm_draw [] (by simp) ?_)
      | (refine Tm_both ?_ ?_)
      | (refine Tm_fin (by simp only [hideOK, newsE]; simp []) ?_)
      | (refine Cm_split (fun h => ?_) (fun h => ?_) <;> (try (simp only [decide_eq_true_eq, decide_eq_false_iff_not, Bool.not_eq_true', Bool.not_eq_false'] at h)) <;> (try omega))
      | (refine Gm_split (fun h => ?_) (fun h => ?_) <;> (try simp only [ne_eq, Bool.not_eq_true, Bool.not_eq_false] at h) <;> (try rw [h]) <;> (try (simp only [decide_eq_true_eq, decide_eq_false_iff_not, bne_iff_ne, beq_iff_eq, bne_eq_false_iff_eq, beq_eq_false_iff_ne, Bool.not_eq_true, Bool.not_eq_true', Bool.not_eq_false, Bool.not_eq_false', ne_eq, Bool.and_eq_true, Bool.or_eq_true, true_eq_decide_iff, false_eq_decide_iff] at h)) <;> (try omega))
      | (refine Sm_split (fun h => ?_) (fun h => ?_) <;> (try (simp only [Bool.not_eq_true', Bool.not_eq_false'] at h)) <;> (try omega))
      | (exact ret_p rfl ⟨rfl, rfl⟩)
      | (refine ret_okv (by first | trivial | simp only [go_sem, detD, detDs, detP, and_self, and_true]) ?_)
      | (exact ret_gen _ _ _ rfl rfl rfl ⟨rfl, rfl⟩)
      | (simp only [Option.some.injEq, DV.tup.injEq, DV.p.injEq, List.cons.injEq, PV.int.injEq, PV.bool.injEq, PV.str.injEq, and_true, true_and])
      | rfl
      | (refine Bool.eq_iff_iff.2 ?_; simp only [decide_eq_true_eq, Bool.and_eq_true, Bool.or_eq_true, Bool.not_eq_true', decide_eq_false_iff_not, Bool.false_eq_true, beq_iff_eq, bne_iff_ne, ne_eq, false_iff, iff_false, true_iff, iff_true]; omega)
      | omega)
    all_goals first
      | exact ret_gen _ _ _ rfl rfl rfl ⟨rfl, rfl⟩
      | grind
  · rw [hc] at hd
    have hv : recsB xs = true ∧ (-86400 ≤ n ∧ n ≤ 86400) := by
      simp only [Bool.true_eq, Bool.and_eq_true, decide_eq_true_eq] at hd
      exact hd
    rw [hv.1] at hg
    have hl := (recs_at hv.1).1
    have hm := recs_mem hv.1
    simp only [envOf, envFrom, go_sem, Nat.lt_add_one, reduceIte, Nat.reduceEqDiff, Nat.reduceBEq, Nat.reduceAdd, Nat.reduceMul, Nat.reduceLeDiff]
    repeat' (first
      | (simp only [go_sem, reduceIte, Nat.reduceEqDiff, Nat.reduceBEq])
      | (simp (disch := omega) only [w64, w8, bytesOf_cons, tmod10, tdiv10, tn48, nsub1, nadd1, nsub, nadd, nmul, List.take_length, Int.toNat_zero, Int.reduceAdd, Int.reduceSub, Int.reduceToNat, Int.reduceMul, Nat.sub_zero, Nat.min_self])
      | (refine Rm_need (by first | exact True.intro | omega | (simp; omega)) ?_)
      | (refine Rm_w rfl (hg) (by trivial) ?_)
      | (refine Rm_w ?_ (hg) (by trivial) ?_; · (simp [viewOfs, viewOf, List.take_of_length_le, cutL]; done))
      | (refine Rm_w rfl (k_l1In _ _ _) (by trivial) ?_)
      | (refine Rm_w ?_ (k_l1In _ _ _) (by trivial) ?_; · (simp [viewOfs, viewOf, List.take_of_length_le, cutL]; done))
      | (refine Rm_gi (by first | omega | (simp; omega)) ?_)
      | (refine Rm_gb (by first | omega | (simp; omega)) ?_)
      | (refine Rm_ga (by first | omega | (simp; omega)) _ rfl (Nat.le_of_ble_eq_true rfl) ?_)
      | (refine Rm_gm (by first | omega | (simp; omega)) _ rfl ?_)
      | (refine Rm_part _ _ rfl rfl ?_)
      | (refine Rm_puti (by first | omega | (simp; omega)) rfl ?_)
      | (refine Dm_draw [] (by simp) ?_)
      | (refine Tm_both ?_ ?_)
      | (refine Tm_fin (by simp only [hideOK, newsE]; simp []) ?_)
      | (refine Cm_split (fun h => ?_) (fun h => ?_) <;> (try (simp only [decide_eq_true_eq, decide_eq_false_iff_not, Bool.not_eq_true', Bool.not_eq_false'] at h)) <;> (try omega))
      | (refine Gm_split (fun h => ?_) (fun h => ?_) <;> (try simp only [ne_eq, Bool.not_eq_true, Bool.not_eq_false] at h) <;> (try rw [h]) <;> (try (simp only [decide_eq_true_eq, decide_eq_false_iff_not, bne_iff_ne, beq_iff_eq, bne_eq_false_iff_eq, beq_eq_false_iff_ne, Bool.not_eq_true, Bool.not_eq_true', Bool.not_eq_false, Bool.not_eq_false', ne_eq, Bool.and_eq_true, Bool.or_eq_true, true_eq_decide_iff, false_eq_decide_iff] at h)) <;> (try omega))
      | (refine Sm_split (fun h => ?_) (fun h => ?_) <;> (try (simp only [decide_eq_true_eq, decide_eq_false_iff_not, bne_iff_ne, beq_iff_eq, bne_eq_false_iff_eq, beq_eq_false_iff_ne, Bool.not_eq_true, Bool.not_eq_true', Bool.not_eq_false, Bool.not_eq_false', ne_eq, Bool.and_eq_true, Bool.or_eq_true, true_eq_decide_iff, false_eq_decide_iff] at h)) <;> (try omega))
      | (exact ret_p rfl ⟨rfl, rfl⟩)
      | (refine ret_okv (by first | trivial | simp only [go_sem, detD, detDs, detP, and_self, and_true]) ?_)
      | (exact ret_gen _ _ _ rfl rfl rfl ⟨rfl, rfl⟩)
      | (simp only [Option.some.injEq, DV.tup.injEq, DV.p.injEq, List.cons.injEq, PV.int.injEq, PV.bool.injEq, PV.str.injEq, and_true, true_and])
      | rfl
      | (refine Bool.eq_iff_iff.2 ?_; simp only [decide_eq_true_eq, Bool.and_eq_true, Bool.or_eq_true, Bool.not_eq_true', decide_eq_false_iff_not, Bool.false_eq_true, beq_iff_eq, bne_iff_ne, ne_eq, false_iff, iff_false, true_iff, iff_true]; omega)
      | omega)
    refine Dm_loop [0, 1, 6, 7] (fun m ds H' => ∃ i : Nat, i ≤ xs.length ∧ m = xs.length - i ∧ ds = [.p (rcdS xs), .p (.int .i64 n), .own 0 0 (xs.take i).length, .p (.int .i64 i)] ∧
      H' = [.arr 58 2 (((xs.take i).map (moveR n)).map Rcd.pv)]) xs.length ⟨0, by omega, by omega, rfl, rfl⟩ ?_
    rintro m ds H' ⟨i, hi, rfl, rfl, rfl⟩ -
    have h1 := fun h : i < xs.length => move_at (n := n) h
    have h3 := fun h : i < xs.length => rcd_in (hm _ (getD_mem (d := default) h))
    have h2 : ((xs.take i).map (moveR n)).length ≤ 20 := by simp; omega
    have hZl : xs.length ≤ i → (xs.take i).map (moveR n) = xs.map (moveR n) := fun h => by rw [List.take_of_length_le h]
    have hzl : ((xs.take i).map (moveR n)).length = (xs.take i).length := by simp
    have hzi : (xs.take i).length = i := by simp; omega
    rw [← hzl]
    rcases Nat.lt_or_ge i xs.length with hlt | hge
    · generalize hZ : (xs.take i).map (moveR n) = Z at *
      repeat' (first
        | (simp only [go_sem, Nat.lt_add_one, reduceIte, Nat.reduceEqDiff, Nat.reduceAdd, Nat.reduceSub, Nat.reduceMul, Nat.reduceLeDiff])
        | (simp (disch := omega) only [w64, nadd1, List.take_length])
        | (refine Rm_need (by first | exact True.intro | omega | (simp; omega)) ?_)
        | (rw [rcd_app])
        | (refine Rm_gi (by first | omega | (simp; omega)) ?_)
        | (refine Rm_gb (by first | omega | (simp; omega)) ?_)
        | (refine Rm_ga (by first | omega | (simp; omega)) _ rfl (Nat.le_of_ble_eq_true rfl) ?_)
        | (refine Rm_gm (by first | omega | (simp; omega)) _ rfl ?_)
        | (refine Rm_part _ _ rfl rfl ?_)
        | (refine Rm_puti (by first | omega | (simp; omega)) rfl ?_)
        | (refine Dm_draw [] (by simp) ?_)
        | (refine Tm_both ?_ ?_)
        | (refine Tm_fin (by simp only [hideOK, newsE]; simp []) ?_)
        | (refine Cm_split (fun h => ?_) (fun h => ?_) <;> (try (simp only [decide_eq_true_eq, decide_eq_false_iff_not] at h)) <;> (try omega))
        | (refine Gm_split (fun h => ?_) (fun h => ?_) <;> (try simp only [ne_eq, Bool.not_eq_true, Bool.not_eq_false] at h) <;> (try rw [h]) <;> (try (simp only [decide_eq_true_eq, decide_eq_false_iff_not, bne_iff_ne, beq_iff_eq, bne_eq_false_iff_eq, beq_eq_false_iff_ne, Bool.not_eq_true, Bool.not_eq_true', Bool.not_eq_false, Bool.not_eq_false', ne_eq, Bool.and_eq_true, Bool.or_eq_true, true_eq_decide_iff, false_eq_decide_iff] at h)) <;> (try omega))
        | (refine Sm_split (fun h => ?_) (fun h => ?_) <;> (try (simp only [decide_eq_true_eq, decide_eq_false_iff_not, bne_iff_ne, beq_iff_eq, bne_eq_false_iff_eq, beq_eq_false_iff_ne, Bool.not_eq_true, Bool.not_eq_true', Bool.not_eq_false, Bool.not_eq_false', ne_eq, Bool.and_eq_true, Bool.or_eq_true, true_eq_decide_iff, false_eq_decide_iff] at h)) <;> (try omega))
        | (exact ret_p rfl ⟨rfl, rfl⟩)
        | (refine ret_okv (by first | trivial | simp only [go_sem, detD, detDs, detP, and_self, and_true]) ?_)
        | (exact ret_gen _ _ _ rfl rfl rfl ⟨rfl, rfl⟩)
        | (simp only [Option.some.injEq, DV.tup.injEq, DV.p.injEq, List.cons.injEq, PV.int.injEq, PV.bool.injEq, PV.str.injEq, and_true, true_and])
        | rfl
        | (refine Bool.eq_iff_iff.2 ?_; simp only [decide_eq_true_eq, Bool.and_eq_true, Bool.or_eq_true, Bool.not_eq_true', decide_eq_false_iff_not, Bool.false_eq_true, beq_iff_eq, bne_iff_ne, ne_eq, false_iff, iff_false, true_iff, iff_true]; omega)
        | omega)
      all_goals first
        | (refine Xm_inv_n (xs.length - (i + 1)) (by omega) ⟨i + 1, by omega, rfl, ?_, ?_⟩
           · rw [show (xs.take (i + 1)).length = Z.length + 1 from by rw [List.length_take]; omega]; rfl
           · rw [h1 (by omega)]; rfl)
        | skip
    · rw [hZl hge]
      cases hr : recsB (xs.map (moveR n))
      · rw [hr] at hg2
        generalize hZ : xs.map (moveR n) = Z at *
        simp only [Bool.false_eq_true, if_false]
        repeat' (first
          | (simp only [go_sem, Nat.lt_add_one, reduceIte, Nat.reduceEqDiff, Nat.reduceAdd, Nat.reduceMul, Nat.reduceLeDiff])
          | (simp (disch := omega) only [w64, w8, bytesOf_cons, tmod10, tdiv10, tn48, nsub1, nadd1, nsub, nadd, nmul, List.take_length, Int.toNat_zero, Int.reduceAdd, Int.reduceSub, Int.reduceToNat, Int.reduceMul, Nat.sub_zero, Nat.min_self])
          | (refine Rm_need (by first | exact True.intro | omega | (simp; omega)) ?_)
          | (refine Rm_w rfl (hg2) (by trivial) ?_)
          | (refine Rm_w ?_ (hg2) (by trivial) ?_; · (simp [viewOfs, viewOf, List.take_of_length_le]; done))
          | (refine Rm_gi (by first | omega | (simp; omega)) ?_)
          | (refine Rm_gb (by first | omega | (simp; omega)) ?_)
          | (refine Rm_ga (by first | omega | (simp; omega)) _ rfl (Nat.le_of_ble_eq_true rfl) ?_)
          | (refine Rm_gm (by first | omega | (simp; omega)) _ rfl ?_)
          | (refine Rm_part _ _ rfl rfl ?_)
          | (refine Rm_puti (by first | omega | (simp; omega)) rfl ?_)
          | (refine Dm_draw [] (by simp) ?_)
          | (refine Tm_both ?_ ?_)
          | (refine Tm_fin (by simp only [hideOK, newsE]; simp []) ?_)
          | (refine Cm_split (fun h => ?_) (fun h => ?_) <;> (try (simp only [decide_eq_true_eq, decide_eq_false_iff_not] at h)) <;> (try omega))
          | (refine Gm_split (fun h => ?_) (fun h => ?_) <;> (try simp only [ne_eq, Bool.not_eq_true, Bool.not_eq_false] at h) <;> (try rw [h]) <;> (try (simp only [decide_eq_true_eq, decide_eq_false_iff_not, bne_iff_ne, beq_iff_eq, bne_eq_false_iff_eq, beq_eq_false_iff_ne, Bool.not_eq_true, Bool.not_eq_true', Bool.not_eq_false, Bool.not_eq_false', ne_eq, Bool.and_eq_true, Bool.or_eq_true, true_eq_decide_iff, false_eq_decide_iff] at h)) <;> (try omega))
          | (refine Sm_split (fun h => ?_) (fun h => ?_) <;> (try (simp only [decide_eq_true_eq, decide_eq_false_iff_not, bne_iff_ne, beq_iff_eq, bne_eq_false_iff_eq, beq_eq_false_iff_ne, Bool.not_eq_true, Bool.not_eq_true', Bool.not_eq_false, Bool.not_eq_false', ne_eq, Bool.and_eq_true, Bool.or_eq_true, true_eq_decide_iff, false_eq_decide_iff] at h)) <;> (try omega))
          | (exact ret_p rfl ⟨rfl, rfl⟩)
          | (refine ret_okv (by first | trivial | simp only [go_sem, detD, detDs, detP, and_self, and_true]) ?_)
          | (exact ret_gen _ _ _ rfl rfl rfl ⟨rfl, rfl⟩)
          | (simp only [Option.some.injEq, DV.tup.injEq, DV.p.injEq, List.cons.injEq, PV.int.injEq, PV.bool.injEq, PV.str.injEq, and_true, true_and])
          | rfl
          | (refine Bool.eq_iff_iff.2 ?_; simp only [decide_eq_true_eq, Bool.and_eq_true, Bool.or_eq_true, Bool.not_eq_true', decide_eq_false_iff_not, Bool.false_eq_true, beq_iff_eq, bne_iff_ne, ne_eq, false_iff, iff_false, true_iff, iff_true]; omega)
          | omega)
        all_goals first
          | exact ret_gen _ _ _ rfl rfl rfl ⟨rfl, rfl⟩
          | skip
      · rw [hr] at hg2
        generalize hZ : xs.map (moveR n) = Z at *
        simp only [if_true]
        repeat' (first
          | (simp only [go_sem, reduceIte, Nat.reduceEqDiff])
          | (simp (disch := omega) only [w64, w8, bytesOf_cons, tmod10, tdiv10, tn48, nsub1, nadd1, nsub, nadd, nmul, List.take_length, Int.toNat_zero, Int.reduceAdd, Int.reduceSub, Int.reduceToNat, Int.reduceMul, Nat.sub_zero, Nat.min_self])
          | (refine Rm_need (by first | exact True.intro | omega | (simp; omega)) ?_)
          | (refine Rm_w rfl (hg2) (by trivial) ?_)
          | (refine Rm_w ?_ (hg2) (by trivial) ?_; · (simp [viewOfs, viewOf, List.take_of_length_le]; done))
          | (refine Rm_gi (by first | omega | (simp; omega)) ?_)
          | (refine Rm_gb (by first | omega | (simp; omega)) ?_)
          | (refine Rm_ga (by first | omega | (simp; omega)) _ rfl (Nat.le_of_ble_eq_true rfl) ?_)
          | (refine Rm_gm (by first | omega | (simp; omega)) _ rfl ?_)
          | (refine Rm_part _ _ rfl rfl ?_)
          | (refine Rm_puti (by first | omega | (simp; omega)) rfl ?_)
          | (refine Dm_draw [] (by simp) ?_)
          | (refine Tm_both ?_ ?_)
          | (refine Tm_fin (by simp only [hideOK, newsE]; simp []) ?_)
          | (refine Cm_split (fun h => ?_) (fun h => ?_) <;> (try (simp only [decide_eq_true_eq, decide_eq_false_iff_not] at h)) <;> (try omega))
          | (refine Gm_split (fun h => ?_) (fun h => ?_) <;> (try simp only [ne_eq, Bool.not_eq_true, Bool.not_eq_false] at h) <;> (try rw [h]) <;> (try (simp only [decide_eq_true_eq, decide_eq_false_iff_not, bne_iff_ne, beq_iff_eq, bne_eq_false_iff_eq, beq_eq_false_iff_ne, Bool.not_eq_true, Bool.not_eq_true', Bool.not_eq_false, Bool.not_eq_false', ne_eq, Bool.and_eq_true, Bool.or_eq_true, true_eq_decide_iff, false_eq_decide_iff] at h)) <;> (try omega))
          | (refine Sm_split (fun h => ?_) (fun h => ?_) <;> (try (simp only [decide_eq_true_eq, decide_eq_false_iff_not, bne_iff_ne, beq_iff_eq, bne_eq_false_iff_eq, beq_eq_false_iff_ne, Bool.not_eq_true, Bool.not_eq_true', Bool.not_eq_false, Bool.not_eq_false', ne_eq, Bool.and_eq_true, Bool.or_eq_true, true_eq_decide_iff, false_eq_decide_iff] at h)) <;> (try omega))
          | (exact ret_p rfl ⟨rfl, rfl⟩)
          | (refine ret_okv (by first | trivial | simp only [go_sem, detD, detDs, detP, and_self, and_true]) ?_)
          | (exact ret_gen _ _ _ rfl rfl rfl ⟨rfl, rfl⟩)
          | (simp only [Option.some.injEq, DV.tup.injEq, DV.p.injEq, List.cons.injEq, PV.int.injEq, PV.bool.injEq, PV.str.injEq, and_true, true_and])
          | rfl
          | (refine Bool.eq_iff_iff.2 ?_; simp only [decide_eq_true_eq, Bool.and_eq_true, Bool.or_eq_true, Bool.not_eq_true', decide_eq_false_iff_not, Bool.false_eq_true, beq_iff_eq, bne_iff_ne, ne_eq, false_iff, iff_false, true_iff, iff_true]; omega)
          | omega)
        all_goals first
          | exact ret_gen _ _ _ rfl rfl rfl ⟨rfl, rfl⟩
          | skip
theorem shift_step {xs : List Rcd} {n : Int} {i : Nat} (h : i < xs.length) : ((xs.take i).map (moveR n) ++ xs.drop i).set i ⟨(xs.getD i default).sec + n, (xs.getD i default).hex⟩ = (xs.take (i + 1)).map (moveR n) ++ xs.drop (i + 1) := by
  have hl : ((xs.take i).map (moveR n)).length = i := by simp; omega
  rw [List.set_append_right _ _ (by omega), hl, Nat.sub_self, move_at h, drop_cons (d := default) h, List.append_assoc]
  rfl
theorem shift_get {xs : List Rcd} {n : Int} {i : Nat} (h : i < xs.length) : ((xs.take i).map (moveR n) ++ xs.drop i).getD i default = xs.getD i default := by
  have hl : ((xs.take i).map (moveR n)).length = i := by simp; omega
  rw [List.getD_eq_getElem?_getD, List.getElem?_append_right (by omega), hl, Nat.sub_self, List.getElem?_drop, Nat.add_zero, List.getD_eq_getElem?_getD]
set_option maxRecDepth 100000 in
set_option maxHeartbeats 16000000 in
/-- impl.ShiftRecording -/
theorem k_iShift (xs : List Rcd) (n : Int) (hf : Fits xs) : Okw Try.prog 30 [rcdS xs, .int .i64 n] (OutN (shiftO xs n)) := by
  refine ok_D hmix c_impl_ShiftRecording (by simp) ?_
  have hg := k_iRecs xs hf.1 (fits_len hf)
  have hg2 := k_iRecs (xs.map (moveR n)) (move_fits hf).1 (fits_len (move_fits hf))
  have hd : shiftB xs n = (recsB xs && decide (-86400 ≤ n ∧ n ≤ 86400)) := rfl
  unfold OutN OutO shiftO
  cases hc : shiftB xs n
  · rw [if_neg (by simp)]
    generalize recsB xs = b at *
    simp only [envOf, envFrom, go_sem, reduceIte, Nat.reduceEqDiff, Nat.reduceBEq]
    repeat' (first
      | (simp only [go_sem, Nat.lt_add_one, reduceIte, Nat.reduceEqDiff, Nat.reduceBEq, Nat.reduceAdd, Nat.reduceMul, Nat.reduceLeDiff])
      | (simp (disch := omega) only [w64, w8, bytesOf_cons, tmod10, tdiv10, tn48, nsub1, nadd1, nsub, nadd, nmul, List.take_length, Int.toNat_zero, Int.reduceAdd, Int.reduceSub, Int.reduceToNat, Int.reduceMul, Nat.sub_zero, Nat.min_self])
      | (refine Rm_need (by first | exact True.intro | omega | (simp; omega)) ?_)
      | (refine Rm_w rfl (hg) (by trivial) ?_)
      | (refine Rm_w ?_ (hg) (by trivial) ?_; · (simp [viewOfs, viewOf, List.take_of_length_le, cutL]; done))
      | (refine Rm_w rfl (k_within _ _ _) (by trivial) ?_)
      | (refine Rm_w ?_ (k_within _ _ _) (by trivial) ?_; · (simp [viewOfs, viewOf, List.take_of_length_le, cutL]; done))
      | (refine Rm_gi (by first | omega | (simp; omega)) ?_)
      | (refine Rm_gb (by first | omega | (simp; omega)) ?_)
      | (refine Rm_ga (by first | omega | (simp; omega)) _ rfl (Nat.le_of_ble_eq_true rfl) ?_)
      | (refine Rm_gm (by first | omega | (simp; omega)) _ rfl ?_)
      | (refine Rm_part _ _ rfl rfl ?_)
      | (refine Rm_puti (by first | omega | (simp; omega)) rfl ?_)
      | (refine Dm_draw [] (by simp) ?_)
      | (refine Tm_both ?_ ?_)
      | (refine Tm_fin (by simp only [hideOK, newsE]; simp []) ?_)
      | (refine Cm_split (fun h => ?_) (fun h => ?_) <;> (try (simp only [decide_eq_true_eq, decide_eq_false_iff_not, Bool.not_eq_true', Bool.not_eq_false'] at h)) <;> (try omega))
      | (refine Gm_split (fun h => ?_) (fun h => ?_) <;> (try simp only [ne_eq, Bool.not_eq_true, Bool.not_eq_false] at h) <;> (try rw [h]) <;> (try (simp only [decide_eq_true_eq, decide_eq_false_iff_not, bne_iff_ne, beq_iff_eq, bne_eq_false_iff_eq, beq_eq_false_iff_ne, Bool.not_eq_true, Bool.not_eq_true', Bool.not_eq_false, Bool.not_eq_false', ne_eq, Bool.and_eq_true, Bool.or_eq_true, true_eq_decide_iff, false_eq_decide_iff] at h)) <;> (try omega))
      | (refine Sm_split (fun h => ?_) (fun h => ?_) <;> (try (simp only [Bool.not_eq_true', Bool.not_eq_false'] at h)) <;> (try omega))
      | (exact ret_p rfl ⟨rfl, rfl⟩)
      | (refine ret_okv (by first | trivial | simp only [go_sem, detD, detDs, detP, and_self, and_true]) ?_)
      | (exact ret_gen _ _ _ rfl rfl rfl ⟨rfl, rfl⟩)
      | (simp only [Option.some.injEq, DV.tup.injEq, DV.p.injEq, List.cons.injEq, PV.int.injEq, PV.bool.injEq, PV.str.injEq, and_true, true_and])
      | rfl
      | (refine Bool.eq_iff_iff.2 ?_; simp only [decide_eq_true_eq, Bool.and_eq_true, Bool.or_eq_true, Bool.not_eq_true', decide_eq_false_iff_not, Bool.false_eq_true, beq_iff_eq, bne_iff_ne, ne_eq, false_iff, iff_false, true_iff, iff_true]; omega)
      | omega)
    all_goals first
      | exact ret_gen _ _ _ rfl rfl rfl (.inr ⟨rfl, rfl⟩)
      | exact ret_gen _ _ _ rfl rfl rfl (.inr ⟨rfl, rfl, rfl⟩)
      | grind
  · rw [hc] at hd
    have hv : recsB xs = true ∧ (-86400 ≤ n ∧ n ≤ 86400) := by
      simp only [Bool.true_eq, Bool.and_eq_true, decide_eq_true_eq] at hd
      exact hd
    rw [hv.1] at hg
    have hl := (recs_at hv.1).1
    have hm := recs_mem hv.1
    simp only [envOf, envFrom, go_sem, reduceIte, Nat.reduceEqDiff, Nat.reduceBEq]
    repeat' (first
      | (simp only [go_sem, Nat.lt_add_one, reduceIte, Nat.reduceEqDiff, Nat.reduceBEq, Nat.reduceAdd, Nat.reduceMul, Nat.reduceLeDiff])
      | (simp (disch := omega) only [w64, w8, bytesOf_cons, tmod10, tdiv10, tn48, nsub1, nadd1, nsub, nadd, nmul, List.take_length, Int.toNat_zero, Int.reduceAdd, Int.reduceSub, Int.reduceToNat, Int.reduceMul, Nat.sub_zero, Nat.min_self])
      | (refine Rm_need (by first | exact True.intro | omega | (simp; omega)) ?_)
      | (refine Rm_w rfl (hg) (by trivial) ?_)
      | (refine Rm_w ?_ (hg) (by trivial) ?_; · (simp [viewOfs, viewOf, List.take_of_length_le, cutL]; done))
      | (refine Rm_w rfl (k_within _ _ _) (by trivial) ?_)
      | (refine Rm_w ?_ (k_within _ _ _) (by trivial) ?_; · (simp [viewOfs, viewOf, List.take_of_length_le, cutL]; done))
      | (refine Rm_gi (by first | omega | (simp; omega)) ?_)
      | (refine Rm_gb (by first | omega | (simp; omega)) ?_)
      | (refine Rm_ga (by first | omega | (simp; omega)) _ rfl (Nat.le_of_ble_eq_true rfl) ?_)
      | (refine Rm_gm (by first | omega | (simp; omega)) _ rfl ?_)
      | (refine Rm_part _ _ rfl rfl ?_)
      | (refine Rm_puti (by first | omega | (simp; omega)) rfl ?_)
      | (refine Dm_draw [] (by simp) ?_)
      | (refine Tm_both ?_ ?_)
      | (refine Tm_fin (by simp only [hideOK, newsE]; simp []) ?_)
      | (refine Cm_split (fun h => ?_) (fun h => ?_) <;> (try (simp only [decide_eq_true_eq, decide_eq_false_iff_not, Bool.not_eq_true', Bool.not_eq_false'] at h)) <;> (try omega))
      | (refine Gm_split (fun h => ?_) (fun h => ?_) <;> (try simp only [ne_eq, Bool.not_eq_true, Bool.not_eq_false] at h) <;> (try rw [h]) <;> (try (simp only [decide_eq_true_eq, decide_eq_false_iff_not, bne_iff_ne, beq_iff_eq, bne_eq_false_iff_eq, beq_eq_false_iff_ne, Bool.not_eq_true, Bool.not_eq_true', Bool.not_eq_false, Bool.not_eq_false', ne_eq, Bool.and_eq_true, Bool.or_eq_true, true_eq_decide_iff, false_eq_decide_iff] at h)) <;> (try omega))
      | (refine Sm_split (fun h => ?_) (fun h => ?_) <;> (try (simp only [decide_eq_true_eq, decide_eq_false_iff_not, bne_iff_ne, beq_iff_eq, bne_eq_false_iff_eq, beq_eq_false_iff_ne, Bool.not_eq_true, Bool.not_eq_true', Bool.not_eq_false, Bool.not_eq_false', ne_eq, Bool.and_eq_true, Bool.or_eq_true, true_eq_decide_iff, false_eq_decide_iff] at h)) <;> (try omega))
      | (exact ret_p rfl ⟨rfl, rfl⟩)
      | (refine ret_okv (by first | trivial | simp only [go_sem, detD, detDs, detP, and_self, and_true]) ?_)
      | (exact ret_gen _ _ _ rfl rfl rfl ⟨rfl, rfl⟩)
      | (simp only [Option.some.injEq, DV.tup.injEq, DV.p.injEq, List.cons.injEq, PV.int.injEq, PV.bool.injEq, PV.str.injEq, and_true, true_and])
      | rfl
      | (refine Bool.eq_iff_iff.2 ?_; simp only [decide_eq_true_eq, Bool.and_eq_true, Bool.or_eq_true, Bool.not_eq_true', decide_eq_false_iff_not, Bool.false_eq_true, beq_iff_eq, bne_iff_ne, ne_eq, false_iff, iff_false, true_iff, iff_true]; omega)
      | omega)
    refine Dm_loop [1, 6, 20, 21] (fun m ds H' => ∃ i : Nat, i ≤ xs.length ∧ m = xs.length - i ∧ ds = [.p (.int .i64 n), .own 0 0 xs.length, .p (.int .i64 xs.length), .p (.int .i64 i)] ∧
      H' = [.arr 58 2 (((xs.take i).map (moveR n) ++ xs.drop i).map Rcd.pv)]) xs.length ⟨0, by omega, by omega, by simp; rfl, by simp; rfl⟩ ?_
    rintro m ds H' ⟨i, hi, rfl, rfl, rfl⟩ -
    have h1 := fun h : i < xs.length => shift_step (n := n) h
    have h4 := fun h : i < xs.length => shift_get (n := n) h
    have h3 := fun h : i < xs.length => rcd_in (hm _ (getD_mem (d := default) h))
    have h2 : ((xs.take i).map (moveR n) ++ xs.drop i).length = xs.length := by simp; omega
    have hZl : xs.length ≤ i → (xs.take i).map (moveR n) ++ xs.drop i = xs.map (moveR n) := fun h => by rw [List.take_of_length_le h, List.drop_eq_nil_of_le h, List.append_nil]
    have hZm : (xs.map (moveR n)).length = xs.length := by simp
    rcases Nat.lt_or_ge i xs.length with hlt | hge
    · have h1 := h1 hlt
      have h3 := h3 hlt
      have h4 := h4 hlt
      generalize hZ : (xs.take i).map (moveR n) ++ xs.drop i = Z at *
      repeat' (first
        | (simp only [go_sem, reduceIte, Nat.reduceEqDiff])
        | (simp (disch := omega) only [w64, nadd1])
        | (refine Rm_need (by first | exact True.intro | omega | (simp; omega)) ?_)
        | (rw [h4])
        | (refine put_Rcd0 (by omega) rfl ?_)
        | (refine Rm_gi (by first | omega | (simp; omega)) ?_)
        | (refine Rm_gb (by first | omega | (simp; omega)) ?_)
        | (refine Rm_ga (by first | omega | (simp; omega)) _ rfl (Nat.le_of_ble_eq_true rfl) ?_)
        | (refine Rm_gm (by first | omega | (simp; omega)) _ rfl ?_)
        | (refine Rm_part _ _ rfl rfl ?_)
        | (refine Rm_puti (by first | omega | (simp; omega)) rfl ?_)
        | (refine Dm_draw [] (by simp) ?_)
        | (refine Tm_both ?_ ?_)
        | (refine Tm_fin (by simp only [hideOK, newsE]; simp []) ?_)
        | (refine Cm_split (fun h => ?_) (fun h => ?_) <;> (try (simp only [decide_eq_true_eq, decide_eq_false_iff_not] at h)) <;> (try omega))
        | (refine Gm_split (fun h => ?_) (fun h => ?_) <;> (try simp only [ne_eq, Bool.not_eq_true, Bool.not_eq_false] at h) <;> (try rw [h]) <;> (try (simp only [decide_eq_true_eq, decide_eq_false_iff_not, bne_iff_ne, beq_iff_eq, bne_eq_false_iff_eq, beq_eq_false_iff_ne, Bool.not_eq_true, Bool.not_eq_true', Bool.not_eq_false, Bool.not_eq_false', ne_eq, Bool.and_eq_true, Bool.or_eq_true, true_eq_decide_iff, false_eq_decide_iff] at h)) <;> (try omega))
        | (refine Sm_split (fun h => ?_) (fun h => ?_) <;> (try (simp only [decide_eq_true_eq, decide_eq_false_iff_not, bne_iff_ne, beq_iff_eq, bne_eq_false_iff_eq, beq_eq_false_iff_ne, Bool.not_eq_true, Bool.not_eq_true', Bool.not_eq_false, Bool.not_eq_false', ne_eq, Bool.and_eq_true, Bool.or_eq_true, true_eq_decide_iff, false_eq_decide_iff] at h)) <;> (try omega))
        | (exact ret_p rfl ⟨rfl, rfl⟩)
        | (refine ret_okv (by first | trivial | simp only [go_sem, detD, detDs, detP, and_self, and_true]) ?_)
        | (exact ret_gen _ _ _ rfl rfl rfl ⟨rfl, rfl⟩)
        | (simp only [Option.some.injEq, DV.tup.injEq, DV.p.injEq, List.cons.injEq, PV.int.injEq, PV.bool.injEq, PV.str.injEq, and_true, true_and])
        | rfl
        | (refine Bool.eq_iff_iff.2 ?_; simp only [decide_eq_true_eq, Bool.and_eq_true, Bool.or_eq_true, Bool.not_eq_true', decide_eq_false_iff_not, Bool.false_eq_true, beq_iff_eq, bne_iff_ne, ne_eq, false_iff, iff_false, true_iff, iff_true]; omega)
        | omega)
      all_goals first
        | (refine Xm_inv_n (xs.length - (i + 1)) (by omega) ⟨i + 1, by omega, rfl, rfl, ?_⟩
           rw [← h1]; rfl)
        | (refine Xm_inv_n (xs.length - (i + 1)) (by omega) ⟨i + 1, by omega, rfl, rfl, ?_⟩
           rw [← h1, ← h4])
        | skip
    · rw [hZl hge]
      cases hr : recsB (xs.map (moveR n))
      · rw [hr] at hg2
        generalize hZ : xs.map (moveR n) = Z at *
        simp only [Bool.false_eq_true, if_false]
        rw [← hZm]
        repeat' (first
          | (simp only [go_sem, reduceIte, Nat.reduceEqDiff])
          | (simp (disch := omega) only [w64, w8, bytesOf_cons, tmod10, tdiv10, tn48, nsub1, nadd1, nsub, nadd, nmul, List.take_length, Int.toNat_zero, Int.reduceAdd, Int.reduceSub, Int.reduceToNat, Int.reduceMul, Nat.sub_zero, Nat.min_self])
          | (refine Rm_need (by first | exact True.intro | omega | (simp; omega)) ?_)
          | (refine Rm_w rfl (hg2) (by trivial) ?_)
          | (refine Rm_w ?_ (hg2) (by trivial) ?_; · (simp [viewOfs, viewOf, List.take_of_length_le]; done))
          | (refine Rm_gi (by first | omega | (simp; omega)) ?_)
          | (refine Rm_gb (by first | omega | (simp; omega)) ?_)
          | (refine Rm_ga (by first | omega | (simp; omega)) _ rfl (Nat.le_of_ble_eq_true rfl) ?_)
          | (refine Rm_gm (by first | omega | (simp; omega)) _ rfl ?_)
          | (refine Rm_part _ _ rfl rfl ?_)
          | (refine Rm_puti (by first | omega | (simp; omega)) rfl ?_)
          | (refine Dm_draw [] (by simp) ?_)
          | (refine Tm_both ?_ ?_)
          | (refine Tm_fin (by simp only [hideOK, newsE]; simp []) ?_)
          | (refine Cm_split (fun h => ?_) (fun h => ?_) <;> (try (simp only [decide_eq_true_eq, decide_eq_false_iff_not] at h)) <;> (try omega))
          | (refine Gm_split (fun h => ?_) (fun h => ?_) <;> (try simp only [ne_eq, Bool.not_eq_true, Bool.not_eq_false] at h) <;> (try rw [h]) <;> (try (simp only [decide_eq_true_eq, decide_eq_false_iff_not, bne_iff_ne, beq_iff_eq, bne_eq_false_iff_eq, beq_eq_false_iff_ne, Bool.not_eq_true, Bool.not_eq_true', Bool.not_eq_false, Bool.not_eq_false', ne_eq, Bool.and_eq_true, Bool.or_eq_true, true_eq_decide_iff, false_eq_decide_iff] at h)) <;> (try omega))
          | (refine Sm_split (fun h => ?_) (fun h => ?_) <;> (try (simp only [decide_eq_true_eq, decide_eq_false_iff_not, bne_iff_ne, beq_iff_eq, bne_eq_false_iff_eq, beq_eq_false_iff_ne, Bool.not_eq_true, Bool.not_eq_true', Bool.not_eq_false, Bool.not_eq_false', ne_eq, Bool.and_eq_true, Bool.or_eq_true, true_eq_decide_iff, false_eq_decide_iff] at h)) <;> (try omega))
          | (exact ret_p rfl ⟨rfl, rfl⟩)
          | (refine ret_okv (by first | trivial | simp only [go_sem, detD, detDs, detP, and_self, and_true]) ?_)
          | (exact ret_gen _ _ _ rfl rfl rfl ⟨rfl, rfl⟩)
          | (simp only [Option.some.injEq, DV.tup.injEq, DV.p.injEq, List.cons.injEq, PV.int.injEq, PV.bool.injEq, PV.str.injEq, and_true, true_and])
          | rfl
          | (refine Bool.eq_iff_iff.2 ?_; simp only [decide_eq_true_eq, Bool.and_eq_true, Bool.or_eq_true, Bool.not_eq_true', decide_eq_false_iff_not, Bool.false_eq_true, beq_iff_eq, bne_iff_ne, ne_eq, false_iff, iff_false, true_iff, iff_true]; omega)
          | omega)
        all_goals first
          | exact ret_gen _ _ _ rfl rfl rfl (.inr ⟨rfl, rfl⟩)
          | exact ret_gen _ _ _ rfl rfl rfl (.inr ⟨rfl, rfl, rfl⟩)
          | skip
      · rw [hr] at hg2
        generalize hZ : xs.map (moveR n) = Z at *
        simp only [if_true]
        rw [← hZm]
        repeat' (first
          | (simp only [go_sem, reduceIte, Nat.reduceEqDiff])
          | (simp (disch := omega) only [w64, w8, bytesOf_cons, tmod10, tdiv10, tn48, nsub1, nadd1, nsub, nadd, nmul, List.take_length, Int.toNat_zero, Int.reduceAdd, Int.reduceSub, Int.reduceToNat, Int.reduceMul, Nat.sub_zero, Nat.min_self])
          | (refine Rm_need (by first | exact True.intro | omega | (simp; omega)) ?_)
          | (refine Rm_w rfl (hg2) (by trivial) ?_)
          | (refine Rm_w ?_ (hg2) (by trivial) ?_; · (simp [viewOfs, viewOf, List.take_of_length_le]; done))
          | (refine Rm_gi (by first | omega | (simp; omega)) ?_)
          | (refine Rm_gb (by first | omega | (simp; omega)) ?_)
          | (refine Rm_ga (by first | omega | (simp; omega)) _ rfl (Nat.le_of_ble_eq_true rfl) ?_)
          | (refine Rm_gm (by first | omega | (simp; omega)) _ rfl ?_)
          | (refine Rm_part _ _ rfl rfl ?_)
          | (refine Rm_puti (by first | omega | (simp; omega)) rfl ?_)
          | (refine Dm_draw [] (by simp) ?_)
          | (refine Tm_both ?_ ?_)
          | (refine Tm_fin (by simp only [hideOK, newsE]; simp []) ?_)
          | (refine Cm_split (fun h => ?_) (fun h => ?_) <;> (try (simp only [decide_eq_true_eq, decide_eq_false_iff_not] at h)) <;> (try omega))
          | (refine Gm_split (fun h => ?_) (fun h => ?_) <;> (try simp only [ne_eq, Bool.not_eq_true, Bool.not_eq_false] at h) <;> (try rw [h]) <;> (try (simp only [decide_eq_true_eq, decide_eq_false_iff_not, bne_iff_ne, beq_iff_eq, bne_eq_false_iff_eq, beq_eq_false_iff_ne, Bool.not_eq_true, Bool.not_eq_true', Bool.not_eq_false, Bool.not_eq_false', ne_eq, Bool.and_eq_true, Bool.or_eq_true, true_eq_decide_iff, false_eq_decide_iff] at h)) <;> (try omega))
          | (refine Sm_split (fun h => ?_) (fun h => ?_) <;> (try (simp only [decide_eq_true_eq, decide_eq_false_iff_not, bne_iff_ne, beq_iff_eq, bne_eq_false_iff_eq, beq_eq_false_iff_ne, Bool.not_eq_true, Bool.not_eq_true', Bool.not_eq_false, Bool.not_eq_false', ne_eq, Bool.and_eq_true, Bool.or_eq_true, true_eq_decide_iff, false_eq_decide_iff] at h)) <;> (try omega))
          | (exact ret_p rfl ⟨rfl, rfl⟩)
          | (refine ret_okv (by first | trivial | simp only [go_sem, detD, detDs, detP, and_self, and_true]) ?_)
          | (exact ret_gen _ _ _ rfl rfl rfl ⟨rfl, rfl⟩)
          | (simp only [Option.some.injEq, DV.tup.injEq, DV.p.injEq, List.cons.injEq, PV.int.injEq, PV.bool.injEq, PV.str.injEq, and_true, true_and])
          | rfl
          | (refine Bool.eq_iff_iff.2 ?_; simp only [decide_eq_true_eq, Bool.and_eq_true, Bool.or_eq_true, Bool.not_eq_true', decide_eq_false_iff_not, Bool.false_eq_true, beq_iff_eq, bne_iff_ne, ne_eq, false_iff, iff_false, true_iff, iff_true]; omega)
          | omega)
        all_goals first
          | exact ret_gen _ _ _ rfl rfl rfl (.inl ⟨rfl, rfl⟩)
          | skip
end Go.Proofs.Ytgpalnoopmjlpaa

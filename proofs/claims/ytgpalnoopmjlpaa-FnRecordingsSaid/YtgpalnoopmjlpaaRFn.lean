import Derived.Test.YtgpalnoopmjlpaaRDraw4
import Derived.Test.YtgpalnoopmjlpaaNilOwn
import Derived.Test.YtgpalnoopmjlpaaRec8
import Derived.Test.YtgpalnoopmjlpaaRec7
namespace Go.Proofs.Ytgpalnoopmjlpaa
open Go.Dv Go.Dv.EvL
attribute [local irreducible] Ok Rm Dm Om Sm Xm Cm Gm Hm Tm

theorem flat_rcd2 : ∀ {xs : List Rcd}, flatPs (xs.map Rcd.pv)
  | [] => trivial
  | _ :: xs => by
    simp only [List.map_cons]
    unfold flatPs
    exact ⟨by simp [Rcd.pv, flatP, flatPs], flat_rcd2⟩
/-! ### recordings and parts of them -/
theorem recs_of {xs : List Rcd} (h1 : ∀ r ∈ xs, rcdB r = true) (h2 : xs.Pairwise fun a b => a.sec ≤ b.sec) (h3 : xs.length ≤ 20) : recsB xs = true := by
  have key : ∀ i, i ≤ xs.length → recsTo xs i = true := fun i => by
    induction i with
    | zero => intro _; rfl
    | succ i ih =>
      intro hi
      rw [recsTo, ih (by omega), h1 _ (getD_mem (d := default) (show i < xs.length by omega))]
      cases i with
      | zero => rfl
      | succ i =>
        have := List.pairwise_iff_getElem.1 h2 i (i + 1) (by omega) (by omega) (by omega)
        simp only [Bool.true_and, Nat.add_sub_cancel, Bool.or_eq_true, decide_eq_true_eq]
        right
        simpa [List.getD_eq_getElem?_getD, List.getElem?_eq_getElem (show i < xs.length by omega), List.getElem?_eq_getElem (show i + 1 < xs.length by omega)] using this
  unfold recsB
  rw [key _ (Nat.le_refl _), decide_eq_true h3]
  rfl
theorem recs_pair {xs : List Rcd} (h : recsB xs = true) : xs.Pairwise fun a b => a.sec ≤ b.sec := by
  obtain ⟨_, _, h3⟩ := recs_at h
  have key : ∀ j, ∀ i, i < j → j < xs.length → (xs.getD i default).sec ≤ (xs.getD j default).sec := fun j => by
    induction j with
    | zero => intro i hi; omega
    | succ j ih =>
      intro i hi hj
      have := h3 (j + 1) (by omega) hj
      simp only [Nat.add_sub_cancel] at this
      by_cases he : i = j
      · subst he; exact this
      · exact Int.le_trans (ih i (by omega) (by omega)) this
  refine List.pairwise_iff_getElem.2 fun i j hi hj hij => ?_
  have := key j i hij hj
  simpa [List.getD_eq_getElem?_getD, List.getElem?_eq_getElem hi, List.getElem?_eq_getElem hj] using this
theorem recs_filter {xs : List Rcd} {p : Rcd → Bool} (h : recsB xs = true) : recsB (xs.filter p) = true :=
  recs_of (fun r hr => recs_mem h r (List.mem_filter.1 hr).1) ((recs_pair h).filter p) (by have := List.length_filter_le p xs; have := (recs_at h).1; omega)
theorem mrg_sub {a b : List Rcd} (h : ∀ r ∈ b, r ∈ a) : ∀ {i : Nat}, i ≤ b.length → mrgTo a b i = a
  | 0, _ => rfl
  | i + 1, hi => by
    rw [mrgTo, if_pos (h _ (getD_mem (by omega))), mrg_sub h (by omega)]
theorem mrg_cut {c : List Rcd} {f t : Int} (h : (cutO c f t).2 = true) : mrgO c (cutO c f t).1 = (c, true) := by
  unfold cutO at h ⊢
  by_cases hc : cutB c f t = true
  · rw [if_pos hc]
    have hr : recsB c = true := by
      unfold cutB at hc
      simp only [Bool.and_eq_true] at hc
      exact hc.1.1.1
    have hm : mrgTo c (c.filter (inP f t)) (c.filter (inP f t)).length = c := mrg_sub (fun r hr => (List.mem_filter.1 hr).1) (Nat.le_refl _)
    unfold mrgO
    simp only []
    rw [hm, if_pos ⟨hr, recs_filter hr, hr⟩]
  · rw [if_neg hc] at h
    cases h
theorem mrg_size {a b : List Rcd} : (mrgO a b).2 = true → a.length ≤ (mrgO a b).1.length ∧ (mrgO a b).1.length ≤ a.length + b.length := by
  unfold mrgO
  split
  · intro _
    exact mrg_len a b b.length
  · intro h; cases h
theorem mrg_out {a b : List Rcd} : (mrgO a b).1.length ≤ a.length + b.length := by
  unfold mrgO
  split
  · exact (mrg_len a b b.length).2
  · simp
theorem cut_out {a : List Rcd} {f t : Int} (h : RsIn a) : RsIn (cutO a f t).1 := by
  unfold cutO
  split
  · refine ⟨?_, fun r hr => h.2 r (List.mem_filter.1 hr).1⟩
    have := List.length_filter_le (inP f t) a
    have := h.1
    simp only []
    omega
  · exact ⟨by simp, by simp⟩
/-- nil seen as a row -/
theorem out_own {f : FuncId} {xs : List PV} {o : List Rcd × Bool} (h : Okw Try.prog f xs (OutN o)) : Okw Try.prog f xs (OutO o) := by
  refine nil_own 58 2 (by omega) h fun d H hh => ?_
  rcases hh with hh | ⟨rfl, rfl, ho⟩
  · exact .inl hh
  · refine .inr ⟨[.bool _], ⟨trivial, trivial⟩, rfl, rfl, ?_⟩
    unfold OutO
    rw [ho]
    exact ⟨rfl, rfl⟩
/-- a text read by both -/
theorem parse_both (s : List UInt8) (hl : s.length ≤ 1048576) : ∃ o : List Rcd × Bool, Okw Try.prog 34 [.str s] (OutO o) ∧ Okw Try.prog 33 [.str s] (OutO o) ∧ o.1.length ≤ 20 := by
  by_cases h : ∃ xs, recsB xs = true ∧ textO xs = s
  · obtain ⟨xs, h1, rfl⟩ := h
    exact ⟨(xs, true), out_own (k_iParse1 xs h1), k_sParse1 xs h1, (recs_at h1).1⟩
  · have hno : ∀ xs, recsB xs = true → textO xs ≠ s := fun xs h1 h2 => h ⟨xs, h1, h2⟩
    exact ⟨([], false), out_own (k_iParse0 s hl hno), k_sParse0 s hl hno, by simp⟩
set_option maxRecDepth 100000 in
set_option maxHeartbeats 16000000 in
/-- laws.rBig -/
theorem k_rBig (code : List UInt8) (hc : code.length ≤ 9223372036854775807) : Okv Try.prog 40 [codeP code] (.p (.bool (decide (65536 < code.length)))) := by
  refine ok_D hmix c_laws_rBig (by simp) ?_
  unfold codeP
  simp only [envOf, envFrom, go_sem, reduceIte, Nat.reduceEqDiff]
  repeat' (first
    | (simp only [go_sem, reduceIte, Nat.reduceEqDiff])
    | (simp (disch := omega) only [w64, w8, bytesOf_cons, tmod10, tdiv10, tn48, nsub1, nadd1, nsub, nadd, nmul, List.take_length, Int.toNat_zero, Int.reduceAdd, Int.reduceSub, Int.reduceToNat, Int.reduceMul, Nat.sub_zero, Nat.min_self])
    | (refine Rm_need (by first | exact True.intro | omega | (simp; omega)) ?_)
    | (refine Rm_gi (by first | omega | (simp; omega)) ?_)
    | (refine Rm_gb (by first | omega | (simp; omega)) ?_)
    | (refine Rm_ga (by first | omega | (simp; omega)) _ rfl (Nat.le_of_ble_eq_true rfl) ?_)
    | (refine Rm_gm (by first | omega | (simp; omega)) _ rfl ?_)
    | (refine Rm_part _ _ rfl rfl ?_)
    | (refine Rm_puti (by first | omega | (simp; omega)) rfl ?_)
    | (refine Dm_draw [] (by simp) ?_)
    | (refine Tm_both ?_ ?_)
    | (refine Tm_fin (by simp only [hideOK, newsE]; simp []) ?_)
    | (refine Cm_split (fun h => ?_) (fun h => ?_) <;> (try (simp only [decide_eq_true_eq, decide_eq_false_iff_not, bne_iff_ne, beq_iff_eq, bne_eq_false_iff_eq, beq_eq_false_iff_ne, Bool.not_eq_true, Bool.not_eq_true', Bool.not_eq_false, Bool.not_eq_false', ne_eq, Bool.and_eq_true, Bool.or_eq_true, true_eq_decide_iff, false_eq_decide_iff] at h)) <;> (try omega))
    | (refine Gm_split (fun h => ?_) (fun h => ?_) <;> (try simp only [ne_eq, Bool.not_eq_true, Bool.not_eq_false] at h) <;> (try rw [h]) <;> (try (simp only [decide_eq_true_eq, decide_eq_false_iff_not, bne_iff_ne, beq_iff_eq, bne_eq_false_iff_eq, beq_eq_false_iff_ne, Bool.not_eq_true, Bool.not_eq_true', Bool.not_eq_false, Bool.not_eq_false', ne_eq, Bool.and_eq_true, Bool.or_eq_true, true_eq_decide_iff, false_eq_decide_iff] at h)) <;> (try omega))
    | (refine Sm_split (fun h => ?_) (fun h => ?_) <;> (try (simp only [decide_eq_true_eq, decide_eq_false_iff_not, bne_iff_ne, beq_iff_eq, bne_eq_false_iff_eq, beq_eq_false_iff_ne, Bool.not_eq_true, Bool.not_eq_true', Bool.not_eq_false, Bool.not_eq_false', ne_eq, Bool.and_eq_true, Bool.or_eq_true, true_eq_decide_iff, false_eq_decide_iff] at h)) <;> (try omega))
    | (exact ret_p rfl ⟨rfl, rfl⟩)
    | (refine ret_okv (by first | trivial | simp only [go_sem, detD, detDs, detP, and_self, and_true]) ?_)
    | (exact ret_gen _ _ _ rfl rfl rfl ⟨rfl, rfl⟩)
    | (simp only [Option.some.injEq, DV.p.injEq, PV.bool.injEq])
    | rfl
    | (refine Bool.eq_iff_iff.2 ?_; simp only [decide_eq_true_eq]; omega)
    | omega)
set_option maxRecDepth 100000 in
set_option maxHeartbeats 16000000 in
/-- laws.rRecordings -/
theorem k_rRcds (xs : List Rcd) (hb : xs.length ≤ 1048576) : Okv Try.prog 42 [rcdS xs, rcdS xs] (.p (.bool true)) := by
  refine ok_D hmix c_laws_rRecordings (by simp) ?_
  simp only [envOf, envFrom, go_sem, reduceIte, Nat.reduceEqDiff]
  repeat' (first
    | (simp only [go_sem, Nat.lt_add_one, Nat.zero_lt_one, reduceIte, Nat.reduceEqDiff, Nat.reduceBEq, Nat.reduceAdd, Nat.reduceSub, Nat.reduceMul, Nat.reduceLeDiff, Nat.reduceLT, Bool.false_eq_true])
    | (simp (disch := omega) only [w64, w8, bytesOf_cons, tmod10, tdiv10, tn48, nsub1, nadd1, nsub, nadd, nmul, List.take_length, Int.toNat_zero, Int.reduceAdd, Int.reduceSub, Int.reduceToNat, Int.reduceMul, Nat.sub_zero, Nat.min_self])
    | (refine Rm_need (by first | exact True.intro | omega | (simp; omega)) ?_)
    | (refine Rm_gi (by first | omega | (simp; omega)) ?_)
    | (refine Rm_gb (by first | omega | (simp; omega)) ?_)
    | (refine Rm_ga (by first | omega | (simp; omega)) _ rfl (Nat.le_of_ble_eq_true rfl) ?_)
    | (refine Rm_gm (by first | omega | (simp; omega)) _ rfl ?_)
    | (refine Rm_part _ _ rfl rfl ?_)
    | (refine Rm_puti (by first | omega | (simp; omega)) rfl ?_)
    | (refine Dm_draw [] (by simp) ?_)
    | (refine Tm_both ?_ ?_)
    | (refine Tm_fin (by simp only [hideOK, newsE]; simp []) ?_)
    | (refine Cm_split (fun h => ?_) (fun h => ?_) <;> (try (simp only [decide_eq_true_eq, decide_eq_false_iff_not, bne_iff_ne, beq_iff_eq, bne_eq_false_iff_eq, beq_eq_false_iff_ne, Bool.not_eq_true, Bool.not_eq_true', Bool.not_eq_false, Bool.not_eq_false', ne_eq, Bool.and_eq_true, Bool.or_eq_true, true_eq_decide_iff, false_eq_decide_iff] at h)) <;> (try omega))
    | (refine Gm_split (fun h => ?_) (fun h => ?_) <;> (try simp only [ne_eq, Bool.not_eq_true, Bool.not_eq_false] at h) <;> (try rw [h]) <;> (try (simp only [decide_eq_true_eq, decide_eq_false_iff_not, bne_iff_ne, beq_iff_eq, bne_eq_false_iff_eq, beq_eq_false_iff_ne, Bool.not_eq_true, Bool.not_eq_true', Bool.not_eq_false, Bool.not_eq_false', ne_eq, Bool.and_eq_true, Bool.or_eq_true, true_eq_decide_iff, false_eq_decide_iff] at h)) <;> (try omega))
    | (refine Sm_split (fun h => ?_) (fun h => ?_) <;> (try (simp only [decide_eq_true_eq, decide_eq_false_iff_not, bne_iff_ne, beq_iff_eq, bne_eq_false_iff_eq, beq_eq_false_iff_ne, Bool.not_eq_true, Bool.not_eq_true', Bool.not_eq_false, Bool.not_eq_false', ne_eq, Bool.and_eq_true, Bool.or_eq_true, true_eq_decide_iff, false_eq_decide_iff] at h)) <;> (try omega))
    | (exact ret_p rfl ⟨rfl, rfl⟩)
    | (refine ret_okv (by first | trivial | simp only [go_sem, detD, detDs, detP, and_self, and_true]) ?_)
    | (exact ret_gen _ _ _ rfl rfl rfl ⟨rfl, rfl⟩)
    | (simp only [Option.some.injEq, DV.tup.injEq, DV.p.injEq, List.cons.injEq, PV.int.injEq, PV.bool.injEq, PV.str.injEq, and_true, true_and])
    | rfl
    | (refine Bool.eq_iff_iff.2 ?_; simp only [decide_eq_true_eq, Bool.and_eq_true, Bool.or_eq_true, Bool.not_eq_true', decide_eq_false_iff_not, Bool.false_eq_true, beq_iff_eq, bne_iff_ne, ne_eq, false_iff, iff_false, true_iff, iff_true]; omega)
    | omega)
  refine Dm_loop [0, 1, 5] (fun m ds H' => ∃ i : Nat, i ≤ xs.length ∧ m = xs.length - i ∧ ds = [.p (rcdS xs), .p (rcdS xs), .p (.int .i64 i)] ∧ H' = []) xs.length ⟨0, by omega, by omega, rfl, rfl⟩ ?_
  rintro m ds H' ⟨i, hi, rfl, rfl, rfl⟩ -
  repeat' (first
    | (simp only [go_sem, reduceIte, Nat.reduceEqDiff])
    | (simp (disch := omega) only [w64, nadd1])
    | (refine Rm_need (by first | exact True.intro | omega | (simp; omega)) ?_)
    | (refine Rm_gi (by first | omega | (simp; omega)) ?_)
    | (refine Rm_gb (by first | omega | (simp; omega)) ?_)
    | (refine Rm_ga (by first | omega | (simp; omega)) _ rfl (Nat.le_of_ble_eq_true rfl) ?_)
    | (refine Rm_gm (by first | omega | (simp; omega)) _ rfl ?_)
    | (refine Rm_part _ _ rfl rfl ?_)
    | (refine Rm_puti (by first | omega | (simp; omega)) rfl ?_)
    | (refine Dm_draw [] (by simp) ?_)
    | (refine Tm_both ?_ ?_)
    | (refine Tm_fin (by simp only [hideOK, newsE]; simp []) ?_)
    | (refine Cm_split (fun h => ?_) (fun h => ?_) <;> (try (simp only [decide_eq_true_eq, decide_eq_false_iff_not] at h)) <;> (try omega))
    | (refine Gm_split (fun h => ?_) (fun h => ?_) <;> (try simp only [ne_eq, Bool.not_eq_true, Bool.not_eq_false] at h) <;> (try rw [h]) <;> (try (simp only [decide_eq_true_eq, decide_eq_false_iff_not, bne_iff_ne, beq_iff_eq, bne_eq_false_iff_eq, beq_eq_false_iff_ne, Bool.not_eq_true, Bool.not_eq_true', Bool.not_eq_false, Bool.not_eq_false', ne_eq, Bool.and_eq_true, Bool.or_eq_true, true_eq_decide_iff, false_eq_decide_iff] at h)) <;> (try omega))
    | (refine Sm_split (fun h => ?_) (fun h => ?_) <;> (try (simp only [decide_eq_true_eq, decide_eq_false_iff_not, bne_iff_ne, beq_iff_eq, bne_eq_false_iff_eq, beq_eq_false_iff_ne, Bool.not_eq_true, Bool.not_eq_true', Bool.not_eq_false, Bool.not_eq_false', ne_eq, Bool.and_eq_true, Bool.or_eq_true, true_eq_decide_iff, false_eq_decide_iff] at h)) <;> (try omega))
    | (exact ret_p rfl ⟨rfl, rfl⟩)
    | (refine ret_okv (by first | trivial | simp only [go_sem, detD, detDs, detP, and_self, and_true]) ?_)
    | (exact ret_gen _ _ _ rfl rfl rfl ⟨rfl, rfl⟩)
    | (simp only [Option.some.injEq, DV.tup.injEq, DV.p.injEq, List.cons.injEq, PV.int.injEq, PV.bool.injEq, PV.str.injEq, and_true, true_and])
    | rfl
    | (refine Bool.eq_iff_iff.2 ?_; simp only [decide_eq_true_eq, Bool.and_eq_true, Bool.or_eq_true, Bool.not_eq_true', decide_eq_false_iff_not, Bool.false_eq_true, beq_iff_eq, bne_iff_ne, ne_eq, false_iff, iff_false, true_iff, iff_true]; omega)
    | omega)
  all_goals first
    | (refine Xm_inv_n (xs.length - (i + 1)) (by omega) ⟨i + 1, by omega, rfl, rfl, rfl⟩)
    | skip
end Go.Proofs.Ytgpalnoopmjlpaa

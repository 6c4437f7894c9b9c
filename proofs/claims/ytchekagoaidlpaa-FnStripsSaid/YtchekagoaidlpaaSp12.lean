import Derived.Test.YtchekagoaidlpaaSp11
import Derived.Test.YtchekagoaidlpaaNilOwn
namespace Go.Proofs.Ytchekagoaidlpaa
open Go.Dv Go.Dv.EvL
attribute [local irreducible] Ok Rm Dm Om Sm Xm Cm Gm Hm Tm

theorem up_step {s : Txt} {a i : Nat} (h : i < s.length) (ha : a ≤ i) (hw : (cutL s a i).all upB = true) : (cutL s a (i + 1)).all upB = upB (s.getD i 0) := by
  rw [cut_step h ha, List.all_append, hw]
  simp
theorem cut_drop {s : Txt} {a i : Nat} (ha : a ≤ i) (hi : i ≤ s.length) : s.drop a = cutL s a i ++ s.drop i := by
  unfold cutL
  have e : s.drop i = (s.drop a).drop (i - a) := by rw [List.drop_drop, show a + (i - a) = i from by omega]
  rw [e, List.take_append_drop]
theorem lp_step {s : Txt} {a i : Nat} (ha : a ≤ i) (hi : i ≤ s.length) (hw : (cutL s a i).all upB = true) (hn : i < s.length → upB (s.getD i 0) = false) : parts (s.drop a) = (if a < i then [cutL s a i] else []) ++ parts (s.drop (i + 1)) := by
  have hl : (cutL s a i).length = i - a := by unfold cutL; rw [List.length_take, List.length_drop]; omega
  have he : (cutL s a i = []) ↔ ¬ a < i := by rw [← List.length_eq_zero_iff, hl]; omega
  rw [cut_drop ha hi]
  by_cases h : i < s.length
  · rw [drop_cons (d := 0) h, parts_cut hw (hn h)]
    by_cases h2 : a < i
    · rw [if_pos h2, if_neg (fun h3 => (he.1 h3) h2)]
    · rw [if_neg h2, if_pos (he.2 h2)]
  · rw [List.drop_of_length_le (show s.length ≤ i by omega), List.drop_of_length_le (show s.length ≤ i + 1 by omega), List.append_nil, parts_end hw]
    have e0 : parts [] = [] := rfl
    rw [e0, List.append_nil]
    by_cases h2 : a < i
    · rw [if_pos h2, if_neg (fun h3 => (he.1 h3) h2)]
    · rw [if_neg h2, if_pos (he.2 h2)]
set_option maxRecDepth 100000 in
set_option maxHeartbeats 16000000 in
/-- impl.letterParts -/
theorem k_letterParts0 (s : Txt) (hl : s.length ≤ 1099511627776) : Okw Try.prog 83 [.str s] fun d H => (d = .own 0 0 (parts s).length ∧ H = [.arr 9 1 ((parts s).map .str)]) ∨ (d = .nil ∧ H = [] ∧ parts s = []) := by
  refine ok_D hmix c_impl_letterParts (by simp) ?_
  simp only [envOf, envFrom, go_sem]
  refine Dm_loop [0, 3, 4, 5] (fun m ds H' => ∃ (out : List Txt) (a i : Nat), i ≤ s.length + 1 ∧ m = s.length + 1 - i ∧ a ≤ i ∧ (i ≤ s.length → (cutL s a i).all upB = true) ∧ (s.length < i → s.drop a = []) ∧ parts s = out ++ parts (s.drop a) ∧ out.length ≤ i ∧
    ((ds = [.p (.str s), .nil, .p (.int .i64 a), .p (.int .i64 i)] ∧ H' = [] ∧ out = []) ∨ (ds = [.p (.str s), .own 0 0 out.length, .p (.int .i64 a), .p (.int .i64 i)] ∧ H' = [.arr 9 1 (out.map .str)]))) (s.length + 1)
    ⟨[], 0, 0, by omega, by omega, by omega, fun _ => by simp [cutL], fun h => by omega, by simp, by simp, .inl ⟨rfl, rfl, rfl⟩⟩ ?_
  rintro m ds H' ⟨out, a, i, hi, rfl, ha, hw, hend, hp, hol, hh⟩ -
  have h1 := fun h : i < s.length => up_step h ha (hw (by omega))
  have h2 := fun h : i ≤ s.length => lp_step ha h (hw h)
  have h3 : s.length < i → parts s = out := fun h => by rw [hp, hend h]; simp [parts, spl]
  have h4 : ∀ k : Nat, s.length < k → s.drop k = [] := fun k h => List.drop_of_length_le (by omega)
  have e0 : ∀ k, (cutL s k k).all upB = true := fun k => by simp [cutL]
  have hdf : (default : UInt8) = 0 := rfl
  rcases hh with ⟨rfl, rfl, rfl⟩ | ⟨rfl, rfl⟩
  · repeat' (first
      | (simp only [go_sem, Nat.lt_add_one, reduceIte, Nat.reduceEqDiff, Nat.reduceBEq, Nat.reduceMul, Nat.reduceLeDiff])
      | (simp (disch := omega) only [w64, nadd1])
      | (refine Rm_need (by first | exact True.intro | omega | (simp; omega)) ?_)
      | (rw [hdf])
      | (refine Rm_w rfl (k_isLetter _) (by trivial) ?_)
      | (refine Rm_w ?_ (k_isLetter _) (by trivial) ?_; · (simp [viewOfs, viewOf, List.take_of_length_le, cutL]; done))
      | (refine Rm_gi (by first | omega | (simp; omega)) ?_)
      | (refine Rm_gb (by first | omega | (simp; omega)) ?_)
      | (refine Rm_ga (by first | omega | (simp; omega)) _ rfl (Nat.le_of_ble_eq_true rfl) ?_)
      | (refine Rm_gm (by first | omega | (simp; omega)) _ rfl ?_)
      | (refine Rm_part _ _ rfl rfl ?_)
      | (refine Rm_puti (by first | omega | (simp; omega)) rfl ?_)
      | (refine Dm_draw [] (by simp) ?_)
      | (refine Tm_both ?_ ?_)
      | (refine Tm_fin (by simp only [hideOK, newsE]; simp []) ?_)
      | (refine Cm_split (fun h => ?_) (fun h => ?_) <;> (try (simp only [decide_eq_true_eq, decide_eq_false_iff_not] at h)) <;> (try omega))
      | (refine Gm_split (fun h => ?_) (fun h => ?_) <;> (try simp only [ne_eq, Bool.not_eq_true, Bool.not_eq_false] at h) <;> (try rw [h]) <;> (try (simp only [decide_eq_true_eq, decide_eq_false_iff_not, bne_iff_ne, beq_iff_eq, bne_eq_false_iff_eq, beq_eq_false_iff_ne, Bool.not_eq_true, Bool.not_eq_true', Bool.not_eq_false, Bool.not_eq_false', ne_eq, Bool.and_eq_true, Bool.or_eq_true, true_eq_decide_iff, false_eq_decide_iff] at h)) <;> (try omega))
      | (refine Sm_split (fun h => ?_) (fun h => ?_) <;> (try (simp only [decide_eq_true_eq, decide_eq_false_iff_not] at h)) <;> (try omega))
      | (exact ret_p rfl ⟨rfl, rfl⟩)
      | (refine ret_okv (by first | trivial | simp only [go_sem, detD, detDs, detP, and_self, and_true]) ?_)
      | (exact ret_gen _ _ _ rfl rfl rfl ⟨rfl, rfl⟩)
      | (simp only [Option.some.injEq, DV.tup.injEq, DV.p.injEq, List.cons.injEq, PV.int.injEq, PV.bool.injEq, PV.str.injEq, and_true, true_and])
      | rfl
      | (refine Bool.eq_iff_iff.2 ?_; simp only [decide_eq_true_eq, Bool.and_eq_true, Bool.or_eq_true, Bool.not_eq_true', decide_eq_false_iff_not, Bool.false_eq_true, beq_iff_eq, bne_iff_ne, ne_eq, false_iff, iff_false, true_iff, iff_true]; omega)
      | omega)
    all_goals first
      | (refine Xm_inv_n (s.length + 1 - (i + 1)) (by omega) ⟨[], a, i + 1, by omega, rfl, by omega, fun _ => ?_, fun h => by omega, hp, by simp, .inl ⟨rfl, rfl, rfl⟩⟩
         rw [h1 (by omega)]; assumption)
      | (have h5 := h2 (by omega) (fun h => by grind)
         rw [if_pos (by omega)] at h5
         refine Xm_inv_n (s.length + 1 - (i + 1)) (by omega) ⟨[cutL s a i], i + 1, i + 1, by omega, rfl, by omega, fun _ => e0 _, fun h => h4 _ h, by rw [hp, h5]; rfl, by simp, .inr ⟨rfl, rfl⟩⟩)
      | (have h5 := h2 (by omega) (fun h => by grind)
         rw [if_neg (by omega)] at h5
         refine Xm_inv_n (s.length + 1 - (i + 1)) (by omega) ⟨[], i + 1, i + 1, by omega, rfl, by omega, fun _ => e0 _, fun h => h4 _ h, by rw [hp, h5]; rfl, by simp, .inl ⟨rfl, rfl, rfl⟩⟩)
      | (exact ret_gen _ _ _ rfl rfl rfl (.inr ⟨rfl, rfl, h3 (by omega)⟩))
      | skip
  · repeat' (first
      | (simp only [go_sem, Nat.lt_add_one, reduceIte, Nat.reduceEqDiff, Nat.reduceBEq, Nat.reduceAdd, Nat.reduceMul, Nat.reduceLeDiff])
      | (simp (disch := omega) only [w64, nadd1, List.take_length])
      | (refine Rm_need (by first | exact True.intro | omega | (simp; omega)) ?_)
      | (rw [hdf])
      | (refine Rm_w rfl (k_isLetter _) (by trivial) ?_)
      | (refine Rm_w ?_ (k_isLetter _) (by trivial) ?_; · (simp [viewOfs, viewOf, List.take_of_length_le, cutL]; done))
      | (refine Rm_gi (by first | omega | (simp; omega)) ?_)
      | (refine Rm_gb (by first | omega | (simp; omega)) ?_)
      | (refine Rm_ga (by first | omega | (simp; omega)) _ rfl (Nat.le_of_ble_eq_true rfl) ?_)
      | (refine Rm_gm (by first | omega | (simp; omega)) _ rfl ?_)
      | (refine Rm_part _ _ rfl rfl ?_)
      | (refine Rm_puti (by first | omega | (simp; omega)) rfl ?_)
      | (refine Dm_draw [] (by simp) ?_)
      | (refine Tm_both ?_ ?_)
      | (refine Tm_fin (by simp only [hideOK, newsE]; simp []) ?_)
      | (refine Cm_split (fun h => ?_) (fun h => ?_) <;> (try (simp only [decide_eq_true_eq, decide_eq_false_iff_not] at h)) <;> (try omega))
      | (refine Gm_split (fun h => ?_) (fun h => ?_) <;> (try simp only [ne_eq, Bool.not_eq_true, Bool.not_eq_false] at h) <;> (try rw [h]) <;> (try (simp only [decide_eq_true_eq, decide_eq_false_iff_not, bne_iff_ne, beq_iff_eq, bne_eq_false_iff_eq, beq_eq_false_iff_ne, Bool.not_eq_true, Bool.not_eq_true', Bool.not_eq_false, Bool.not_eq_false', ne_eq, Bool.and_eq_true, Bool.or_eq_true, true_eq_decide_iff, false_eq_decide_iff] at h)) <;> (try omega))
      | (refine Sm_split (fun h => ?_) (fun h => ?_) <;> (try (simp only [decide_eq_true_eq, decide_eq_false_iff_not] at h)) <;> (try omega))
      | (exact ret_p rfl ⟨rfl, rfl⟩)
      | (refine ret_okv (by first | trivial | simp only [go_sem, detD, detDs, detP, and_self, and_true]) ?_)
      | (exact ret_gen _ _ _ rfl rfl rfl ⟨rfl, rfl⟩)
      | (simp only [Option.some.injEq, DV.tup.injEq, DV.p.injEq, List.cons.injEq, PV.int.injEq, PV.bool.injEq, PV.str.injEq, and_true, true_and])
      | rfl
      | (refine Bool.eq_iff_iff.2 ?_; simp only [decide_eq_true_eq, Bool.and_eq_true, Bool.or_eq_true, Bool.not_eq_true', decide_eq_false_iff_not, Bool.false_eq_true, beq_iff_eq, bne_iff_ne, ne_eq, false_iff, iff_false, true_iff, iff_true]; omega)
      | omega)
    all_goals first
      | (refine Xm_inv_n (s.length + 1 - (i + 1)) (by omega) ⟨out, a, i + 1, by omega, rfl, by omega, fun _ => ?_, fun h => by omega, hp, by omega, .inr ⟨rfl, rfl⟩⟩
         rw [h1 (by omega)]; assumption)
      | (have h5 := h2 (by omega) (fun h => by grind)
         rw [if_pos (by omega)] at h5
         refine Xm_inv_n (s.length + 1 - (i + 1)) (by omega) ⟨out ++ [cutL s a i], i + 1, i + 1, by omega, rfl, by omega, fun _ => e0 _, fun h => h4 _ h, by rw [hp, h5, List.append_assoc], by simp; omega, .inr ⟨?_, ?_⟩⟩
         · simp only [List.length_append]; rfl
         · rfl)
      | (have h5 := h2 (by omega) (fun h => by grind)
         rw [if_neg (by omega)] at h5
         refine Xm_inv_n (s.length + 1 - (i + 1)) (by omega) ⟨out, i + 1, i + 1, by omega, rfl, by omega, fun _ => e0 _, fun h => h4 _ h, by rw [hp, h5]; rfl, by omega, .inr ⟨rfl, rfl⟩⟩)
      | (rw [h3 (by omega)]
         exact ret_gen _ _ _ rfl rfl rfl (.inl ⟨rfl, rfl⟩))
      | skip
theorem k_letterParts (s : Txt) (hl : s.length ≤ 1099511627776) : Okw Try.prog 83 [.str s] fun d H => d = .own 0 0 (parts s).length ∧ H = [.arr 9 1 ((parts s).map .str)] := by
  refine nil_own1 9 1 (by decide) (k_letterParts0 s hl) fun d H h => ?_
  rcases h with h | ⟨rfl, rfl, e⟩
  · exact .inl h
  · refine .inr ⟨rfl, rfl, ?_⟩
    rw [e]
    exact ⟨rfl, rfl⟩
end Go.Proofs.Ytchekagoaidlpaa

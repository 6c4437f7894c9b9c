import Derived.Test.YtchekagoaidlpaaSp8
namespace Go.Proofs.Ytchekagoaidlpaa
open Go.Dv Go.Dv.EvL
attribute [local irreducible] Ok Rm Dm Om Sm Xm Cm Gm Hm Tm

/-! ### the parts of letters -/
def spl : List UInt8 → List Txt
  | [] => [[]]
  | c :: t => if upB c = true then glue [c] (spl t) else [] :: spl t
def parts (s : List UInt8) : List Txt := (spl s).filter fun w => !w.isEmpty
theorem spl_word {c : UInt8} (hc : upB c = false) : ∀ {w t : List UInt8}, w.all upB = true → spl (w ++ c :: t) = w :: spl t
  | [], t, _ => by
    rw [List.nil_append, spl, hc]
    rfl
  | x :: w, t, h => by
    simp only [List.all_cons, Bool.and_eq_true] at h
    rw [List.cons_append, spl, if_pos h.1, spl_word hc h.2]
    rfl
theorem spl_end : ∀ {w : List UInt8}, w.all upB = true → spl w = [w]
  | [], _ => rfl
  | x :: w, h => by
    simp only [List.all_cons, Bool.and_eq_true] at h
    rw [spl, if_pos h.1, spl_end h.2]
    rfl
theorem parts_cut {w t : List UInt8} {c : UInt8} (hw : w.all upB = true) (hc : upB c = false) : parts (w ++ c :: t) = (if w = [] then [] else [w]) ++ parts t := by
  unfold parts
  rw [spl_word hc hw, List.filter_cons]
  cases w <;> simp
theorem parts_end {w : List UInt8} (hw : w.all upB = true) : parts w = if w = [] then [] else [w] := by
  unfold parts
  rw [spl_end hw]
  cases w <;> simp
theorem parts_no {t : List UInt8} {c : UInt8} (hc : upB c = false) : parts (c :: t) = parts t := by
  have := parts_cut (w := []) (t := t) rfl hc
  simpa using this
theorem parts_word {w t : List UInt8} {c : UInt8} (hw : w.all upB = true) (hn : 0 < w.length) (hc : upB c = false) : parts (w ++ c :: t) = w :: parts t := by
  rw [parts_cut hw hc, if_neg (by rintro rfl; simp at hn)]
  rfl
theorem glue_sum {c : UInt8} : ∀ {X : List Txt}, X ≠ [] → ((glue [c] X).map List.length).sum = (X.map List.length).sum + 1 ∧ (glue [c] X).length = X.length
  | [], h => absurd rfl h
  | x :: X, _ => by simp [glue]; omega
theorem spl_ne : ∀ s, spl s ≠ []
  | [] => by simp [spl]
  | c :: s => by
    unfold spl
    split
    · cases spl s <;> simp [glue]
    · simp
theorem spl_sum : ∀ s : List UInt8, ((spl s).map List.length).sum ≤ s.length
  | [] => by simp [spl]
  | c :: s => by
    have ih := spl_sum s
    unfold spl
    split
    · rw [(glue_sum (spl_ne s)).1]
      simp only [List.length_cons]
      omega
    · simp only [List.map_cons, List.sum_cons, List.length_cons, List.length_nil]
      omega
theorem filt_sum : ∀ xs : List Txt, (xs.filter fun w => !w.isEmpty).length ≤ (xs.map List.length).sum
  | [] => by simp
  | x :: xs => by
    have ih := filt_sum xs
    rw [List.filter_cons]
    cases x with
    | nil => simpa using ih
    | cons c x => simp; omega
theorem parts_len (s : List UInt8) : (parts s).length ≤ s.length := Nat.le_trans (filt_sum _) (spl_sum s)
theorem parts_in {s w : List UInt8} (h : w ∈ parts s) : w.length ≤ s.length := by
  have h1 := (List.mem_filter.1 h).1
  obtain ⟨i, hi, rfl⟩ := List.mem_iff_getElem.1 h1
  have h3 := s_one hi
  have h4 := spl_sum s
  simp only [List.getD_eq_getElem?_getD, List.getElem?_eq_getElem hi, Option.getD_some] at h3
  omega
/-! ### joined texts -/
theorem join_shift {b x : Txt} {xs : List Txt} : ∀ {i : Nat}, joinTo (x :: xs) b (i + 1) = if i = 0 then x else x ++ b ++ joinTo xs b i
  | 0 => by simp [joinTo]
  | i + 1 => by
    have e : (x :: xs).getD (i + 1) [] = xs.getD i [] := rfl
    have ih := join_shift (b := b) (x := x) (xs := xs) (i := i)
    rw [joinTo, if_pos (by omega), ih, e, if_neg (show ¬ i + 1 = 0 by omega)]
    by_cases h : i = 0
    · subst h
      simp [joinTo]
    · rw [if_neg h, joinTo, if_pos (show 0 < i by omega)]
      simp
theorem join_B {b : UInt8} : ∀ xs : List Txt, joinTo xs [b] xs.length = joinB b xs
  | [] => rfl
  | [x] => by simp [joinTo, joinB]
  | x :: y :: t => by
    rw [List.length_cons, join_shift, if_neg (by simp), join_B (y :: t), joinB]
    simp
/-- texts with ', ' between them -/
def joinC : List Txt → Txt
  | [] => []
  | [x] => x
  | x :: y :: t => x ++ 44 :: 32 :: joinC (y :: t)
theorem join_C : ∀ xs : List Txt, joinTo xs comW xs.length = joinC xs
  | [] => rfl
  | [x] => by simp [joinTo, joinC]
  | x :: y :: t => by
    rw [List.length_cons, join_shift, if_neg (by simp), join_C (y :: t), joinC]
    simp [comW]
theorem join_pre {xs ys : List Txt} {b : Txt} : ∀ {k : Nat}, k ≤ xs.length → joinTo (xs ++ ys) b k = joinTo xs b k
  | 0, _ => rfl
  | k + 1, h => by
    have e : (xs ++ ys).getD k [] = xs.getD k [] := by simp [List.getD_eq_getElem?_getD, List.getElem?_append_left (show k < xs.length from by omega)]
    simp only [joinTo, join_pre (xs := xs) (ys := ys) (b := b) (k := k) (by omega), e]
theorem join_drop {b : UInt8} : ∀ {xs : List Txt} {k : Nat}, k < xs.length → (joinB b (xs.drop k)).length + k ≤ (joinB b xs).length
  | _, 0, _ => by simp
  | [], k + 1, h => by simp at h
  | [x], k + 1, h => by simp at h
  | x :: y :: t, k + 1, h => by
    have ih := join_drop (b := b) (xs := y :: t) (k := k) (by simpa using h)
    rw [List.drop_succ_cons, joinB]
    simp only [List.length_append, List.length_cons] at ih ⊢
    omega
theorem joinW_len {xs : List Txt} {b : Txt} : ∀ {i : Nat}, i ≤ xs.length → (joinTo xs b i).length ≤ i * b.length + ((xs.take i).map List.length).sum
  | 0, _ => by simp [joinTo]
  | i + 1, h => by
    have h1 := joinW_len (xs := xs) (b := b) (i := i) (by omega)
    have h2 := s_take (xs := xs) (i := i) (by omega)
    unfold joinTo
    rw [Nat.add_mul, h2]
    split <;> simp only [List.length_append] <;> omega
set_option maxRecDepth 100000 in
set_option maxHeartbeats 16000000 in
/-- impl.join, of any words of a text -/
theorem k_joinW (xs : List Txt) (b : Txt) (hb : b.length ≤ 100) (hl : xs.length ≤ 2097152) (hw : (xs.map List.length).sum ≤ 2097152) : Okv Try.prog 81 [slS xs, .str b] (.p (.str (joinTo xs b xs.length))) := by
  refine ok_D hmix c_impl_join (by simp) ?_
  simp only [envOf, envFrom, go_sem, reduceIte, Nat.reduceEqDiff]
  refine Dm_loop [1, 5, 8, 9, 10] (fun m ds H' => ∃ i : Nat, i ≤ xs.length ∧ m = xs.length - i ∧ ds = [.p (.str b), .p (.str (joinTo xs b i)), .p (slS xs), .p (.int .i64 xs.length), .p (.int .i64 i)] ∧ H' = []) xs.length ⟨0, by omega, by omega, rfl, rfl⟩ ?_
  rintro m ds H' ⟨i, hi, rfl, rfl, rfl⟩ -
  have hs : joinTo xs b (i + 1) = (if 0 < i then joinTo xs b i ++ b else joinTo xs b i) ++ xs.getD i [] := rfl
  have h1 := joinW_len (b := b) hi
  have h2 : i * b.length ≤ 2097152 * 100 := Nat.mul_le_mul (by omega) (by omega)
  have h3 : i < xs.length → (xs.getD i []).length ≤ (xs.map List.length).sum := fun h => s_one h
  have h4 := s_part (xs := xs) (i := i)
  have hd : (default : Txt) = [] := rfl
  have hfin : i = xs.length → joinTo xs b xs.length = joinTo xs b i := by rintro rfl; rfl
  generalize joinTo xs b xs.length = W at *
  generalize joinTo xs b i = Z at *
  by_cases hin : i < xs.length
  · have h3 := h3 hin
    repeat' (first
      | (simp only [go_sem, reduceIte, Nat.reduceEqDiff])
      | (simp (disch := omega) only [w64, nadd1])
      | (refine Rm_need (by first | exact True.intro | omega | (simp; omega)) ?_)
      | (rw [hd])
      | (simp only [List.length_append])
      | (refine Rm_gi (by first | omega | (simp; omega)) ?_)
      | (refine Rm_gb (by first | omega | (simp; omega)) ?_)
      | (refine Rm_ga (by first | omega | (simp; omega)) _ rfl (Nat.le_of_ble_eq_true rfl) ?_)
      | (refine Rm_gm (by first | omega | (simp; omega)) _ rfl ?_)
      | (refine Rm_part _ _ rfl rfl ?_)
      | (refine Rm_puti (by first | omega | (simp; omega)) rfl ?_)
      | (refine Dm_draw [] (by simp) ?_)
      | (refine Tm_both ?_ ?_)
      | (refine Tm_fin (by simp only [hideOK, newsE]; simp []) ?_)
      | (refine Cm_split (fun h => ?_) (fun h => ?_) <;> (try (simp only [decide_eq_true_eq, decide_eq_false_iff_not] at h)) <;> (try omega))
      | (refine Gm_split (fun h => ?_) (fun h => ?_) <;> (try simp only [ne_eq, Bool.not_eq_true, Bool.not_eq_false] at h) <;> (try rw [h]) <;> (try (simp only [decide_eq_true_eq, decide_eq_false_iff_not, bne_iff_ne, beq_iff_eq, bne_eq_false_iff_eq, beq_eq_false_iff_ne, Bool.not_eq_true, Bool.not_eq_true', Bool.not_eq_false, Bool.not_eq_false', ne_eq, Bool.and_eq_true, Bool.or_eq_true, true_eq_decide_iff, false_eq_decide_iff] at h)) <;> (try omega))
      | (refine Sm_split (fun h => ?_) (fun h => ?_) <;> (try (simp only [decide_eq_true_eq, decide_eq_false_iff_not, bne_iff_ne, beq_iff_eq, bne_eq_false_iff_eq, beq_eq_false_iff_ne, Bool.not_eq_true, Bool.not_eq_true', Bool.not_eq_false, Bool.not_eq_false', ne_eq, Bool.and_eq_true, Bool.or_eq_true, true_eq_decide_iff, false_eq_decide_iff] at h)) <;> (try omega))
      | (exact ret_p rfl ⟨rfl, rfl⟩)
      | (refine ret_okv (by first | trivial | simp only [go_sem, detD, detDs, detP, and_self, and_true]) ?_)
      | (exact ret_gen _ _ _ rfl rfl rfl ⟨rfl, rfl⟩)
      | (simp only [Option.some.injEq, DV.tup.injEq, DV.p.injEq, List.cons.injEq, PV.int.injEq, PV.bool.injEq, PV.str.injEq, and_true, true_and])
      | rfl
      | (refine Bool.eq_iff_iff.2 ?_; simp only [decide_eq_true_eq, Bool.and_eq_true, Bool.or_eq_true, Bool.not_eq_true', decide_eq_false_iff_not, Bool.false_eq_true, beq_iff_eq, bne_iff_ne, ne_eq, false_iff, iff_false, true_iff, iff_true]; omega)
      | omega)
    all_goals first
      | (have hpos : 0 < i := by omega
         refine Xm_inv_n (xs.length - (i + 1)) (by omega) ⟨i + 1, by omega, rfl, ?_, rfl⟩
         rw [hs, if_pos hpos]; rfl)
      | (have hpos : ¬ 0 < i := by omega
         refine Xm_inv_n (xs.length - (i + 1)) (by omega) ⟨i + 1, by omega, rfl, ?_, rfl⟩
         rw [hs, if_neg hpos]; rfl)
  · rw [hfin (by omega)]
    repeat' (first
      | (simp only [go_sem, reduceIte, Nat.reduceEqDiff])
      | (simp (disch := omega) only [w64, w8, bytesOf_cons, tmod10, tdiv10, tn48, nsub1, nadd1, nsub, nadd, nmul, List.take_length, Int.toNat_zero, Int.reduceAdd, Int.reduceSub, Int.reduceToNat, Int.reduceMul, Nat.sub_zero, Nat.min_self])
      | (refine Rm_need (by first | exact True.intro | omega | (simp; omega)) ?_)
      | (refine Rm_gi (by first | omega | (simp; omega)) ?_)
      | (refine Rm_gb (by first | omega | (simp; omega)) ?_)
      | (refine Rm_ga (by first | omega | (simp; omega)) _ rfl (Nat.le_of_ble_eq_true rfl) ?_)
      | (refine Rm_gm (by first | omega | (simp; omega)) _ rfl ?_)
      | (refine Rm_part _ _ rfl rfl ?_)
      | (refine Rm_puti (by first | omega | (simp; omega)) rfl ?_)
      | (refine Dm_draw [] (by simp) ?_)
      | (refine Tm_both ?_ ?_)
      | (refine Tm_fin (by simp only [hideOK, newsE]; simp []) ?_)
      | (refine Cm_split (fun h => ?_) (fun h => ?_) <;> (try (simp only [decide_eq_true_eq, decide_eq_false_iff_not] at h)) <;> (try omega))
      | (refine Gm_split (fun h => ?_) (fun h => ?_) <;> (try simp only [ne_eq, Bool.not_eq_true, Bool.not_eq_false] at h) <;> (try rw [h]) <;> (try (simp only [decide_eq_true_eq, decide_eq_false_iff_not, bne_iff_ne, beq_iff_eq, bne_eq_false_iff_eq, beq_eq_false_iff_ne, Bool.not_eq_true, Bool.not_eq_true', Bool.not_eq_false, Bool.not_eq_false', ne_eq, Bool.and_eq_true, Bool.or_eq_true, true_eq_decide_iff, false_eq_decide_iff] at h)) <;> (try omega))
      | (refine Sm_split (fun h => ?_) (fun h => ?_) <;> (try (simp only [decide_eq_true_eq, decide_eq_false_iff_not, bne_iff_ne, beq_iff_eq, bne_eq_false_iff_eq, beq_eq_false_iff_ne, Bool.not_eq_true, Bool.not_eq_true', Bool.not_eq_false, Bool.not_eq_false', ne_eq, Bool.and_eq_true, Bool.or_eq_true, true_eq_decide_iff, false_eq_decide_iff] at h)) <;> (try omega))
      | (exact ret_p rfl ⟨rfl, rfl⟩)
      | (refine ret_okv (by first | trivial | simp only [go_sem, detD, detDs, detP, and_self, and_true]) ?_)
      | (exact ret_gen _ _ _ rfl rfl rfl ⟨rfl, rfl⟩)
      | (simp only [Option.some.injEq, DV.tup.injEq, DV.p.injEq, List.cons.injEq, PV.int.injEq, PV.bool.injEq, PV.str.injEq, and_true, true_and])
      | rfl
      | (refine Bool.eq_iff_iff.2 ?_; simp only [decide_eq_true_eq, Bool.and_eq_true, Bool.or_eq_true, Bool.not_eq_true', decide_eq_false_iff_not, Bool.false_eq_true, beq_iff_eq, bne_iff_ne, ne_eq, false_iff, iff_false, true_iff, iff_true]; omega)
      | omega)
theorem split_sum (b : UInt8) : ∀ s : List UInt8, ((splitB b s).map List.length).sum ≤ s.length
  | [] => by simp [splitB]
  | c :: s => by
    have ih := split_sum b s
    unfold splitB
    split
    · simp only [List.map_cons, List.sum_cons, List.length_cons, List.length_nil]
      omega
    · rw [(glue_sum (split_ne b s)).1]
      simp only [List.length_cons]
      omega
theorem drop_sum {xs : List Txt} {k : Nat} : ((xs.drop k).map List.length).sum ≤ (xs.map List.length).sum := by
  have : (xs.map List.length).sum = ((xs.take k).map List.length).sum + ((xs.drop k).map List.length).sum := by
    rw [← List.sum_append, ← List.map_append, List.take_append_drop]
  omega
theorem cutw_sum {xs : List Txt} {a b : Nat} : ((cutL xs a b).map List.length).sum ≤ (xs.map List.length).sum := by
  unfold cutL
  exact Nat.le_trans s_part drop_sum
/-! ### two digits -/
def dig2 (s : List UInt8) : Int := if digP (s.getD 0 0) = true ∧ digP (s.getD 1 0) = true then 10 * (((s.getD 0 0).toNat : Int) - 48) + ((s.getD 1 0).toNat : Int) - 48 else 99
theorem dig2_in (s : List UInt8) : 0 ≤ dig2 s ∧ dig2 s ≤ 99 := by
  unfold dig2
  split
  · rename_i h
    have h1 := of_decide_eq_true h.1
    have h2 := of_decide_eq_true h.2
    omega
  · omega
set_option maxRecDepth 100000 in
set_option maxHeartbeats 16000000 in
/-- spec.l24Digits -/
theorem k_l24Digits (s : List UInt8) (hl : s.length = 2) : Okv Try.prog 78 [.str s] (.p (.int .i64 (dig2 s))) := by
  refine ok_D hmix c_spec_l24Digits (by simp) ?_
  have hd : dig2 s = if digP (s.getD 0 0) = true ∧ digP (s.getD 1 0) = true then 10 * (((s.getD 0 0).toNat : Int) - 48) + ((s.getD 1 0).toNat : Int) - 48 else 99 := rfl
  have h1 : digP (s.getD 0 0) = decide (48 ≤ (s.getD 0 0).toNat ∧ (s.getD 0 0).toNat ≤ 57) := rfl
  have h2 : digP (s.getD 1 0) = decide (48 ≤ (s.getD 1 0).toNat ∧ (s.getD 1 0).toNat ≤ 57) := rfl
  have h3 := u8_lt (s.getD 0 0)
  have h4 := u8_lt (s.getD 1 0)
  have e0 : (default : UInt8) = 0 := rfl
  rw [h1, h2] at hd
  simp only [decide_eq_true_eq] at hd
  clear h1 h2
  rw [hd]
  simp only [envOf, envFrom, go_sem, reduceIte, Nat.reduceEqDiff, Nat.reduceBEq]
  repeat' (first
    | (simp only [go_sem, reduceIte, Nat.reduceEqDiff, Nat.reduceBEq])
    | (simp (disch := omega) only [w64, Int.toNat_zero, Int.reduceToNat])
    | (refine Rm_need (by first | exact True.intro | omega | (simp; omega)) ?_)
    | (rw [e0])
    | (refine Rm_gi (by first | omega | (simp; omega)) ?_)
    | (refine Rm_gb (by first | omega | (simp; omega)) ?_)
    | (refine Rm_ga (by first | omega | (simp; omega)) _ rfl (Nat.le_of_ble_eq_true rfl) ?_)
    | (refine Rm_gm (by first | omega | (simp; omega)) _ rfl ?_)
    | (refine Rm_part _ _ rfl rfl ?_)
    | (refine Rm_puti (by first | omega | (simp; omega)) rfl ?_)
    | (refine Dm_draw [] (by simp) ?_)
    | (refine Tm_both ?_ ?_)
    | (refine Tm_fin (by simp only [hideOK, newsE]; simp []) ?_)
    | (refine Cm_split (fun h => ?_) (fun h => ?_) <;> (try (simp only [decide_eq_true_eq, decide_eq_false_iff_not] at h)) <;> (try omega))
    | (refine Gm_split (fun h => ?_) (fun h => ?_) <;> (try simp only [ne_eq, Bool.not_eq_true, Bool.not_eq_false] at h) <;> (try rw [h]) <;> (try (simp only [decide_eq_true_eq, decide_eq_false_iff_not, bne_iff_ne, beq_iff_eq, bne_eq_false_iff_eq, beq_eq_false_iff_ne, Bool.not_eq_true, Bool.not_eq_true', Bool.not_eq_false, Bool.not_eq_false', ne_eq, Bool.and_eq_true, Bool.or_eq_true, true_eq_decide_iff, false_eq_decide_iff] at h)) <;> (try omega))
    | (refine Sm_split (fun h => ?_) (fun h => ?_) <;> (try (simp only [decide_eq_true_eq, decide_eq_false_iff_not] at h)) <;> (try omega))
    | (exact ret_p rfl ⟨rfl, rfl⟩)
    | (refine ret_okv (by first | trivial | simp only [go_sem, detD, detDs, detP, and_self, and_true]) ?_)
    | (exact ret_gen _ _ _ rfl rfl rfl ⟨rfl, rfl⟩)
    | (simp only [Option.some.injEq, DV.p.injEq, PV.int.injEq, true_and])
    | rfl
    | (refine Bool.eq_iff_iff.2 ?_; simp only [decide_eq_true_eq, Bool.and_eq_true, Bool.or_eq_true, Bool.not_eq_true', decide_eq_false_iff_not, Bool.false_eq_true, beq_iff_eq, bne_iff_ne, ne_eq, false_iff, iff_false, true_iff, iff_true]; omega)
    | omega)
  all_goals first
    | (rw [if_pos (by omega)]; done)
    | (rw [if_neg (by omega)]; done)
    | grind
    | skip
end Go.Proofs.Ytchekagoaidlpaa
